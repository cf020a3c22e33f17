import Derived.Test.YtknmfellccjagaaGreatTD1
open Go.IntKind (i64)
open List (length_take mem_map all_eq_true getElem_mem length_map mem_iff_getElem length_drop length_nil foldl_cons take_of_length_le mem_filter any_eq_true mem_cons_self length_singleton pairwise_cons length_filter_le map_append pairwise_append getElem_drop mem_append_left)
namespace Go.Proofs
open Go.Gb Go.RowKit
variable {n:Nat}
theorem jw(a b:Int):cmp_Compare_int a b=some (if a<b then -1 else if b<a then 1 else 0):=by by_cases h1:a<b;simp[cmp_Compare_int,cmp_isNaN_int,h1];by_cases h2:b<a;simp[cmp_Compare_int,cmp_isNaN_int,h1,h2];simp[cmp_Compare_int,cmp_isNaN_int,h1,h2]
theorem nV{l:U Int}(hl:l.length<1099511627776)(_:l.length<n):og n l=some (kR pb l):=by show P3 l=_;unfold P3;rw[Nat.ble_eq_true_of_le (show l.length<=1099511627775 by omega),aj]
theorem qb{l:U Int}(hl:l.length<1099511627776)(hn:l.length<n):nP n l=some ((),jg l):=by rw[<- afp];exact Z8 (eq:=λx y=>x==y) (ne:=λx y=>x !=y) (λ x y=>by simp[bne]) hl hn
theorem Ut{l:U Int}{a:Int}(hl:l.length<1099511627776)(hn:l.length<n):Fs n l a=some (BQ (λ x=>a==x) l):=Tx hl hn
theorem Mf{l:U Int}{a:Int}(hl:l.length<1099511627776)(hn:l.length<n):sQ n l a=some (l.any λx=>a==x):=by unfold sQ;rw[Ut hl hn,ai,yE]
theorem Gv{l:U dD}{φ:(dD×Unit)->J Bool}(p:dD->Bool)(h:∀x∈l,φ (x,())=some (p x))(hl:l.length<1099511627776)(hn:l.length<n):tF n l φ=some (BQ p l):=jd p h hl hn
theorem Gw{l:U bG}{φ:(bG×Unit)->J Bool}(p:bG->Bool)(h:∀x∈l,φ (x,())=some (p x))(hl:l.length<1099511627776)(hn:l.length<n):lD n l φ=some (BQ p l):=jd p h hl hn
theorem Rc{l:U ax}(h:l.length<1099511627776):BR l=some l:=Bb (b:=32) (by omega) (by simp[maxLen];omega)
theorem Uu{l:U Int}(h:l.length<1099511627776):uG l=some l:=Bb (b:=8) (by omega) (by simp[maxLen];omega)
theorem OO{l:U (List ax)}(hf:l.flatten.length<1099511627776)(hl:l.length<1099511627776)(hn:l.length<n):zG n l=some l.flatten:=NW (ax.mk 0 0 0 0) (b:=32) hf (by omega) hl hn
theorem DF{a b:U ax}(hl:a.length<1099511627776)(hn:a.length<n):pK n a b=some (decide (a=b)):=by
 have e:pK n a b=E8 n (λ x1 x2:ax=>!((x1.x0==x2.x0)&&((x1.y0==x2.y0)&&((x1.x1==x2.x1)&&((x1.y1==x2.y1)&&true))))) a b:=by kernel_rfl
 rw[e];refine xk (λ x y=>?_) hl hn;obtain⟨a,b,c,d⟩:=x;obtain⟨e,f,g,h⟩:=y;simp;rw[gu];simp
theorem DI{a b:U aJ}(hl:a.length<1099511627776)(hn:a.length<n):wI n a b=some (decide (a=b)):=by
 have e:wI n a b=E8 n (λ x1 x2:aJ=>!((x1.from_==x2.from_)&&((x1.to==x2.to)&&true))) a b:=by kernel_rfl
 rw[e];refine xk (λ x y=>?_) hl hn;obtain⟨a,b⟩:=x;obtain⟨c,d⟩:=y;simp;rw[gu];simp
abbrev ur(a b:aJ):Bool:=decide (a.from_<b.from_)
theorem OQ:Go.Sort.SWO ur where
 irrefl x:=by simp[ur]
 trans x y z h1 h2:=by simp only[ur,bq]at *;omega
 ntrans x y z h1 h2:=by simp only[ur,cB]at *;omega
theorem KG{l:U aJ}{φ:(aJ×aJ×Unit)->J Int}(f:aJ->aJ->Int)(hφ:∀x y,φ (x,y,())=some (f x y))(hf:∀x y,decide (f x y<0)=ur x y)(hl:l.length<1099511627776)(_:l.length<n):vV n l φ=some (qw ur l):=
 afy f hφ hf OQ hl
theorem aj1{V O:Type}{step:V->J (V⊕O)}(Inv:V->Prop)(Post:O->Prop)(μ:V->Nat)
 (h:∀v,Inv v->(∃ v',step v=some (.inl v')/\Inv v'/\μ v'< μ v)\/∃o,step v=some (.inr o)/\Post o):∀(n:Nat)(v:V),Inv v->μ v<n->∃o,iter step n v=some o/\Post o
 | 0,_,_,hn=>absurd hn (Nat.not_lt_zero _)
 |n+1,v,hi,hn=>by rcases h v hi with ⟨v',h1,h2,h3⟩|⟨o,h1,h2⟩;rw[dV h1];exact aj1 Inv Post μ h n v' h2 (by omega);exact⟨o,dn h1,h2⟩
theorem Jo:∀(N:Nat)(l:U Nat),l.Nodup->(∀ y∈l,y<N)->l.length<=N
 | 0,[],_,_=>aB _
 | 0,x::l,_,h=>absurd (h x (by simp)) (by omega)
 |N+1,l,hn,h=>by
  have h1:=Jo N (l.filter λy=>decide (y≠N)) (hn.filter _) (λ y hy=>by rw[mem_filter]at hy;have:=h y hy.1;have:=hy.2;simp at this;omega);have h2:=List.length_eq_countP_add_countP (λ y=>decide (y≠N)) (l:=l);rw[List.countP_eq_length_filter]at h2;have h3:List.countP (λ a=>decide ¬(decide (a≠N)=true)) l=l.count N:=by rw[List.count];refine List.countP_congr λy _=>?_;simp
  have h4:=List.nodup_iff_count.1 hn N;omega
def yq(us:U (List Int))(N:Nat):Prop:=us.length=N/\N<=4000000/\∀l∈us,l.length<=4000000/\∀k∈l,0<=k/\k<N
structure BI(us:List (List Int))(N to h:Nat)(d:List Int)(F:List Nat):Prop where
 dl:d.length=N
 nd:F.Nodup
 rg:∀x∈F,x<N
 mem:∀i:Nat,i<N->(0<=d.getD i 0↔i∈F)
 ub:∀j x:Nat,F[j]? =some x->d.getD x 0<=(j:Int)
 pre:∀j x:Nat,F[j]? =some x->0<j->∃p y:Nat,p<j/\F[p]? =some y/\(y:Int)∈us.getD x []/\d.getD y 0=d.getD x 0-1
 hd:F[0]? =some to/\d.getD to 0=0
 hh:h<=F.length
 cl:∀p y:Nat,p<h->F[p]? =some y->∀i:Nat,i<N->(y:Int)∈us.getD i []->0<=d.getD i 0
theorem BI.len{us:U (List Int)}{N to h:Nat}{d:U Int}{F:U Nat}(b:BI us N to h d F):F.length<=N:=by exact Jo N F b.nd b.rg
theorem BI.push{us:U (List Int)}{N to h:Nat}{d:U Int}{F:U Nat}(b:BI us N to h d F){i x p:Nat}(hi:i<N)(hd:d.getD i 0<0)(hp:F[p]? =some x)(hx:(x:Int)∈us.getD i []):
 BI us N to h (d.set i (d.getD x 0+1)) (F++[i]):=by
 have hiF:i∉F:=λhm=>by have:=(b.mem i hi).2 hm;omega
 have hxF:x∈F:=cZ hp;have hne:∀y,y∈F->i≠y:=λy hy e=>hiF (e ▸ hy);have hset:∀y,y∈F->(d.set i (d.getD x 0+1)).getD y 0=d.getD y 0:=λy hy=>by simp[List.getElem?_set_ne (hne y hy)]
 have xj:(d.set i (d.getD x 0+1)).getD i 0=d.getD x 0+1:=by
  have:i<d.length:=by rw[b.dl];exact hi
  simp[this]
 have hx0:0<=d.getD x 0:=(b.mem x (b.rg x hxF)).2 hxF;have hlt:p<F.length:=(dx.1 hp).1;refine⟨by simpa using b.dl,?_,?_,?_,?_,?_,?_,?_,?_⟩;rw[List.nodup_append];exact⟨b.nd,by simp,λa ha c hc=>by simp at hc;subst hc;exact λe=>hiF (e ▸ ha)⟩;intro y hy;rw[bF]at hy;rcases hy with hy|hy;exact b.rg y hy;simp at hy;omega;intro j hj;by_cases e:i=j;subst e;rw[xj];exact⟨λ _=>by simp,λ_=>by omega⟩;simp only[List.getD,List.getElem?_set_ne e];rw[bF];have:=b.mem j hj;simp at this;rw[this];simp[Ne.symm e];intro j y hy;rw[List.getElem?_append]at hy;split at hy;rw[hset y (cZ hy)];exact b.ub j y hy;rename_i hj;have:y=i/\j=F.length:=by
  cases h:j-F.length with
  |zero=>rw[h]at hy;simp at hy;exact⟨hy.symm,by omega⟩
  |succ z=>rw[h]at hy;simp at hy
 obtain⟨rfl,rfl⟩:=this;rw[xj];have:=b.ub p x hp;omega;intro j y hy hj;rw[List.getElem?_append]at hy;split at hy;have⟨p',y',h1,h2,h3,h4⟩:=b.pre j y hy hj;exact⟨p',y',h1,by rw[List.getElem?_append_left (by have:=(dx.1 h2).1;exact this)];exact h2,h3,by rw[hset y' (cZ h2),hset y (cZ hy)];exact h4⟩;rename_i hj';have:y=i/\j=F.length:=by
  cases h:j-F.length with
  |zero=>rw[h]at hy;simp at hy;exact⟨hy.symm,by omega⟩
  |succ z=>rw[h]at hy;simp at hy
 obtain⟨rfl,rfl⟩:=this;exact⟨p,x,hlt,by rw[List.getElem?_append_left hlt];exact hp,hx,by rw[xj,hset x hxF];omega⟩;have h0:=(dx.1 b.hd.1).1;exact⟨by rw[List.getElem?_append_left h0];exact b.hd.1,by rw[hset _ (cZ b.hd.1)];exact b.hd.2⟩;have:=b.hh;simp;omega;intro p' y hp' hy j hj hm;rw[List.getElem?_append_left (by have:=b.hh;omega)]at hy;have:=b.cl p' y hp' hy j hj hm;rw[hset j ((b.mem j hj).1 this)];exact this
theorem pS{α:Type}(o:Nat)(l:U α):W9 o l=l.drop o:=by cases o<;>simp[W9]
def BS(us:U (List Int))(N to h x:Nat):(Int×Int×List Int×List Int)->Prop
 |(v4,v5,d,v7)=>∃(o i:Nat)(F:U Nat),v4=o/\v5=i/\o<=v7.length/\v7.drop o=(F.drop (h+1)).map (λ k:Nat=>(k:Int))/\i<=N/\BI us N to h d F/\F[h]? =some x/\∀i',i'<i->(x:Int)∈us.getD i' []->0<=d.getD i' 0
theorem aoL{n N to h x:Nat}{a0:qx}{r1:U Int}(hg:yq a0.uses N)(hr:r1.length=N)(hn:4000001<=n)(v:Int×Int×List Int×List Int)(hv:BS a0.uses N to h x v):
 (∃ v',gV n a0 r1 x v=some (.inl v')/\BS a0.uses N to h x v'/\N-v'.2.1.toNat<N-v.2.1.toNat)\/
 ∃q,gV n a0 r1 x v=some (.inr q)/\∃(o:Nat)(F:U Nat),q.1=(o:Int)/\o<=q.2.2.length/\q.2.2.drop o=(F.drop (h+1)).map (λ k:Nat=>(k:Int))/\BI a0.uses N to (h+1) q.2.1 F:=by
 obtain⟨v4,v5,d,v7⟩:=v;obtain⟨o,i,F,rfl,rfl,ho,hq,hi,hb,hx,hc⟩:=hv;have hx':x<N:=hb.rg x (cZ hx);have HF:=hg.1;have hdl:=hb.dl;by_cases hlt:i<N;left;have yi:i<a0.uses.length:=by omega
 have hl:=hg.2.2 a0.uses[i] (getElem_mem yi);have hcon:=Mf (n:=n) (l:=a0.uses[i]) (a:=(x:Int)) (by omega) (by omega);have hud:a0.uses.getD i []=a0.uses[i]:=by simp[yi]
 have hdi:d[i]'(by omega)=d.getD i 0:=by simp[show i<d.length by omega]
 have HG:d[x]'(by omega)=d.getD x 0:=by simp[show x<d.length by omega]
 simp only[gV,show decide ((i:Int)<((a0.uses.length:Int)))=true from by simp;omega,aj,bB yi,ai,aU (show i<r1.length by omega),aU (show x<r1.length by omega),
  bM (show i<d.length by omega),bM (show x<d.length by omega),hcon,hdi,HG]
 have hFl:=hb.len;have hN:=hg.2.1;have hlen:v7.length-o=F.length-(h+1):=by have:=congrArg List.length hq;simpa using this
 have hmx:maxLen=9223372036854775807:=rfl;by_cases hA:d.getD i 0<0/\(x:Int)∈a0.uses[i];have h1:(a0.uses[i].any λy=>(x:Int)==y)=true:=any_eq_true.2 ⟨_,hA.2,by simp⟩;have hx0:0<=d.getD x 0:=(hb.mem x hx').2 (cZ hx);have hxu:=hb.ub h x hx;have hFh:h<F.length:=(dx.1 hx).1;have hap:bR (v7.drop o).length (v7.length-o) (sub [(i:Int)] 0 1).length 1 8=true:=by simp[bR,sub];omega
 have hw:i64.wrap (d.getD x 0+1)=d.getD x 0+1:=aQ (by omega) (by omega);refine⟨(((0:Nat):Int),((i+1:Nat):Int),d.set i (d.getD x 0+1),v7.drop o++[(i:Int)]),?_,?_,by show N-((i+1:Nat):Int).toNat<N-(i:Int).toNat;omega⟩;simp only[hA.1,decide_true,aj,ai,h1,Int.toNat_natCast,pS,hap,fI,hw,bn i];simp[sub];refine⟨0,i+1,F++[i],rfl,rfl,Nat.zero_le _,?_,by omega,hb.push hlt hA.1 hx (by rw[hud];exact hA.2),by rw[List.getElem?_append_left hFh];exact hx,?_⟩;rw[List.drop_zero,hq,List.drop_append_of_le_length (by omega)];simp;intro i' hi' hm;have hpush:=hb.push hlt hA.1 hx (by rw[hud];exact hA.2);by_cases e:i'=i;subst e;exact(hpush.mem i' hlt).2 (by simp);have:=hc i' (by omega) hm;exact(hpush.mem i' (by omega)).2 (mem_append_left _ ((hb.mem i' (by omega)).1 this));have hB:(bif decide (d.getD i 0<0)then some (a0.uses[i].any λy=>(x:Int)==y)else some false)=some false:=by
  by_cases h2:d.getD i 0<0;simp only[h2,decide_true,aj,bV];cases hc:(a0.uses[i].any λy=>x==y)with
  |false=>rfl
  |true=>
   obtain⟨y,hy,e⟩:=any_eq_true.1 hc;obtain rfl:x=y:=(by simpa using e);exact absurd ⟨h2,hy⟩ hA
  simp only[h2,decide_false,au]
 refine⟨(o,(i+1:Nat),d,v7),?_,?_,by show N-((i+1:Nat):Int).toNat<N-(i:Int).toNat;omega⟩;rw[hB];simp[pR (show o+(v7.length-o)=v7.length by omega),bn i];refine⟨o,i+1,F,rfl,rfl,ho,hq,by omega,hb,hx,λi' hi' hm=>?_⟩;by_cases e:i'=i;subst e;rw[hud]at hm;exact Int.not_lt.1 λh2=>hA ⟨h2,hm⟩;exact hc i' (by omega) hm;right;have hiN:i=N:=by omega
 have hFh:h<F.length:=(dx.1 hx).1;refine⟨(o,d,v7),?_,o,F,rfl,ho,hq,?_⟩;simp only[gV,show decide ((i:Int)<(a0.uses.length))=false from by simp;omega,au,Int.toNat_natCast,pR (show o+(v7.length-o)=v7.length by omega),aj];refine⟨hb.dl,hb.nd,hb.rg,hb.mem,hb.ub,hb.pre,hb.hd,hFh,λp y hp hy j hj hm=>?_⟩;by_cases e:p=h;subst e;rw[hx]at hy;cases hy;exact hc j (by omega) hm;exact hb.cl p y (by omega) hy j hj hm
def BO(us:U (List Int))(N to h:Nat):(Int×List Int×List Int)->Prop
 |(v1,d,v3)=>∃(o:Nat)(F:U Nat),v1=o/\o<=v3.length/\v3.drop o=(F.drop h).map (λ k:Nat=>(k:Int))/\BI us N to h d F
theorem aoM{n N to h:Nat}{a0:qx}{r1:U Int}(hg:yq a0.uses N)(hr:r1.length=N)(hn:4000001<=n)(v:Int×List Int×List Int)(hv:BO a0.uses N to h v):
 (∃ v',eG n a0 r1 v=some (.inl v')/\BO a0.uses N to (h+1) v')\/∃d,eG n a0 r1 v=some (.inr d)/\∃F,BI a0.uses N to F.length d F:=by
 obtain⟨v1,d,v3⟩:=v;obtain⟨o,F,rfl,ho,hq,hb⟩:=hv;have hlen:v3.length-o=F.length-h:=by have:=congrArg List.length hq;simpa using this
 by_cases hlt:h<F.length;left;obtain⟨x,hx⟩:∃x,F[h]? =some x:=⟨_,dP hlt⟩;have hox:v3[o]? =some x:=by have:=congrArg (λ l=>l[0]?) hq;simpa[hx]using this
 have hdr:v3.drop (o+1)=(F.drop (h+1)).map (λ k:Nat=>(k:Int)):=by have:=congrArg (λ l=>l.drop 1) hq;simpa using this
 obtain⟨q,hq1,o2,F2,hq2,hq3,hq4,hq5⟩:=aj1 (BS a0.uses N to h x) (λ q:Int×List Int×List Int=>∃(o:Nat)(F:U Nat),q.1=o/\o<=q.2.2.length/\q.2.2.drop o=(F.drop (h+1)).map (λ k:Nat=>(k:Int))/\BI a0.uses N to (h+1) q.2.1 F)
  (λ v=>N-v.2.1.toNat) (aoL (r1:=r1) hg hr hn) n ((o+1:Nat),0,d,v3) ⟨o+1,0,F,rfl,rfl,by omega,hdr,Nat.zero_le _,hb,hx,λi' hi'=>absurd hi' (Nat.not_lt_zero _)⟩ (by have:=hg.2.1;simp;omega)
 obtain⟨w1,w2,w3⟩:=q;simp only at hq2 hq3 hq4 hq5;subst hq2;refine⟨(o2,w2,w3),?_,o2,F2,rfl,hq3,hq4,hq5⟩;have hat:bu v3 (o+0)=some (x:Int):=by rw[Int.add_zero,BN];exact hox
 simp only[eG,Int.toNat_natCast,show decide (((v3.length-o:Nat):Int)>0)=true from by simp;omega,aj,show cz 0 (v3.length-o)=true from by simp[cz];omega,hat,ai,
  vT (show 0<=1 by omega) (show (1:Int)<=(v3.length-o:Nat)by omega) (Int.le_refl _),pR (show o+1+(v3.length-o-1)=v3.length by omega),hq1,pR (show o2+(w3.length-o2)=w3.length by omega)]
 right;have hhF:h=F.length:=by have:=hb.hh;omega
 refine⟨d,?_,F,hhF ▸ hb⟩;simp only[eG,Int.toNat_natCast,show decide (((v3.length-o:Nat):Int)>0)=false from by simp;omega,au]
theorem fu{V O:Type}{step:V->J (V⊕O)}(Inv:Nat->V->Prop)(Post:O->Prop)(K:Nat)(hK:∀k v,Inv k v->k<=K)
 (h:∀k v,Inv k v->(∃ v',step v=some (.inl v')/\Inv (k+1) v')\/∃o,step v=some (.inr o)/\Post o):∀(n k:Nat)(v:V),Inv k v->K<n+k->∃o,iter step n v=some o/\Post o
 | 0,k,v,hi,hn=>absurd (hK k v hi) (by omega)
 |n+1,k,v,hi,hn=>by rcases h k v hi with ⟨v',h1,h2⟩|⟨o,h1,h2⟩;rw[dV h1];exact fu Inv Post K hK h n (k+1) v' h2 (by omega);exact⟨o,dn h1,h2⟩
theorem adl{n N to:Nat}{a0:qx}(hg:yq a0.uses N)(hd:a0.defs.length=N)(hn:4000002<=n)(ht:to<N):∃d F,kG n a0 to=some d/\BI a0.uses N to F.length d F:=by
 have hN:=hg.2.1;have hr:rW (sub ([(-1)]:U Int) 0 1) N=some (List.replicate N (-1)):=by show(ck (decide (0<=(N:Int))&&decide ((N:Int)<=1000000000000)) (some (List.replicate (N:Int).toNat (-1))))=_;rw[show decide (0<=(N:Int))=true by simp,show decide ((N:Int)<=1000000000000)=true by simp;omega];rfl
 have hlr:(List.replicate N (-1:Int)).length=N:=List.length_replicate;have hb0:BI a0.uses N to 0 ((List.replicate N (-1:Int)).set to 0) [to]:=by
  have hto:((List.replicate N (-1:Int)).set to 0).getD to 0=0:=by simp[ht]
  refine⟨by simp,by simp,λx hx=>by simp at hx;omega,λi hi=>?_,λj x hx=>?_,λj x hx hj=>?_,⟨rfl,hto⟩,by simp,λp y hp=>absurd hp (Nat.not_lt_zero _)⟩;by_cases e:to=i;subst e;rw[hto];simp;simp[List.getElem?_set_ne e];simp[hi,Ne.symm e];cases j with
  |zero=>simp at hx;subst hx;rw[hto];simp
  |succ j=>simp at hx
  cases j with
  |zero=>omega
  |succ j=>simp at hx
 obtain⟨d,h1,F,h2⟩:=fu (step:=eG n a0 (List.replicate N (-1))) (λ h v=>BO a0.uses N to h v) (λ d=>∃F,BI a0.uses N to F.length d F) N (λ h v ⟨_,_,_,_,_,hb⟩=>Nat.le_trans hb.hh hb.len) (λ h v hv=>aoM (n:=n) (r1:=List.replicate N (-1)) hg hlr (by omega) v hv) n 0
  ((0:Nat),(List.replicate N (-1:Int)).set to 0,[to]) ⟨0,[to],rfl,Nat.zero_le _,rfl,hb0⟩ (by omega)
 refine⟨d,F,?_,h2⟩;have hdl:d.length=N:=h2.dl;have h1':iter (eG n a0 (List.replicate N (-1))) n (0,(List.replicate N (-1:Int)).set to 0,[to])=some d:=h1;simp only[kG,hd,hr,ai,hlr,aU ht,bM (show to<(List.replicate N (-1:Int)).length by omega),aj,show(((0:Nat):Int)+to).toNat=to by omega,h1];simp[sub,hdl];exact take_of_length_le (Nat.le_of_eq hdl)
def Nr(d:U Int)(l:U Int)(w:Int):Prop:=
 (w=-1/\∀k∈l,d.getD k.toNat 0<0)\/(w∈l/\0<=d.getD w.toNat 0/\∀k∈l,0<=d.getD k.toNat 0->d.getD w.toNat 0<=d.getD k.toNat 0)
theorem Nr.snoc{d l:U Int}{w k:Int}(h:Nr d l w)(hk:0<=k)(hl:∀x∈l,0<=x):Nr d (l++[k]) (if 0<=d.getD k.toNat 0/\(w<0\/d.getD k.toNat 0<d.getD w.toNat 0)then k else w):=by split;rename_i h1;refine .inr ⟨by simp,h1.1,λz hz h0=>?_⟩;rw[bF]at hz;rcases hz with hz|hz;rcases h with ⟨rfl,h⟩|⟨hw,hw0,h⟩;have:=h z hz;omega;have h2:=h z hz h0;have:=hl w hw;rcases h1.2 with h3|h3<;>omega;simp at hz;subst hz;exact Int.le_refl _;rename_i h1;rcases h with ⟨rfl,h⟩|⟨hw,hw0,h⟩;refine .inl ⟨rfl,λz hz=>?_⟩;rw[bF]at hz;rcases hz with hz|hz;exact h z hz;simp at hz;subst hz;exact Int.not_le.1 λh2=>h1 ⟨h2,.inl (by omega)⟩;refine .inr ⟨mem_append_left _ hw,hw0,λz hz h0=>?_⟩;rw[bF]at hz;rcases hz with hz|hz;exact h z hz h0;simp at hz;subst hz;exact Int.not_lt.1 λh2=>h1 ⟨h0,.inr h2⟩
theorem aoN{n N:Nat}{d l:U Int}(hd:d.length=N)(hl:l.length<=4000000)(hr:∀k∈l,0<=k/\k<N)(hn:4000001<=n):∃w,iter (jf d l) n (-1,0)=some w/\Nr d l w:=by
 refine fu (λ i (v:Int×Int)=>i<=l.length/\v.2=i/\Nr d (l.take i) v.1) (λ w=>Nr d l w) l.length (λ k v h=>h.1) ?_ n 0 _ ⟨Nat.zero_le _,rfl,.inl ⟨rfl,by simp⟩⟩ (by omega);rintro i ⟨v3,v4⟩ ⟨hi,rfl,hN⟩;by_cases hlt:i<l.length;left;have hk:=hr l[i] (getElem_mem hlt);obtain⟨k,hk2⟩:=Int.eq_ofNat_of_zero_le hk.1;have hkN:k<d.length:=by omega
 have MY:d[k]=d.getD k 0:=by simp[hkN]
 have htk:l.take (i+1)=l.take i++[l[i]]:=by rw[List.take_add_one,dP hlt];rfl
 have hlk:∀x∈l.take i,0<=x:=λx hx=>(hr x (List.mem_of_mem_take hx)).1;have hsn:=hN.snoc hk.1 hlk;refine⟨(if 0<=d.getD (l[i]).toNat 0/\(v3<0\/d.getD (l[i]).toNat 0<d.getD v3.toNat 0)then l[i]else v3,(i+1:Nat)),?_,hlt,rfl,by rw[htk];exact hsn⟩;simp only[jf,show decide ((i:Int)<l.length)=true from by simp;omega,aj,bB hlt,ai,hk2,aU hkN,bM hkN,MY,Int.toNat_natCast,bn i];by_cases h0:0<=d.getD k 0;by_cases h1:v3<0;simp only[h0,h1,decide_true,aj,ai,true_and,true_or,if_true];have hv:v3∈l.take i:=by rcases hN with ⟨rfl,_⟩|⟨h,_⟩;omega;exact h
 have sB:=hr v3 (List.mem_of_mem_take hv);obtain⟨z,hz⟩:=Int.eq_ofNat_of_zero_le sB.1;subst hz;have HC:z<d.length:=by omega
 have hgz:d[z]=d.getD z 0:=by simp[HC]
 simp only[h0,decide_true,aj,h1,decide_false,au,aU HC,bM HC,ai,hgz,Int.toNat_natCast,true_and,false_or];by_cases h2:d.getD k 0<d.getD z 0;simp only[h2,decide_true,aj,if_true,ai];simp only[h2,decide_false,au,if_false,ai];simp only[h0,decide_false,au,ai,false_and,if_false];right;refine⟨v3,?_,?_⟩;simp only[jf,show decide ((i:Int)<l.length)=false from by simp;omega,au];rw[take_of_length_le (by omega)]at hN;exact hN
theorem BI.step{us:U (List Int)}{N to h:Nat}{d:U Int}{F:U Nat}(b:BI us N to h d F){x:Nat}(hx:x<N)(hne:x≠to)(h0:0<=d.getD x 0):∃y:Nat,(y:Int)∈us.getD x []/\d.getD y 0=d.getD x 0-1/\0<=d.getD y 0:=by
 obtain⟨j,hj,hjx⟩:=mem_iff_getElem.1 ((b.mem x hx).1 h0);have hj':F[j]? =some x:=by rw[dP hj,hjx]
 have hj0:0<j:=by
  cases j with
  |zero=>rw[b.hd.1]at hj';cases hj';exact absurd rfl hne
  |succ j=>exact Nat.succ_pos _
 have⟨p,y,_,h2,h3,h4⟩:=b.pre j x hj' hj0;have hyF:=cZ h2;exact⟨y,h3,h4,(b.mem y (b.rg y hyF)).2 hyF⟩
theorem alc{n N fr:Nat}{a1:U gZ}{us:U (List Int)}(hg:yq us N)(hd:a1.length=N)(hn:4000003<=n)(hf:fr<N):∃d F c,BI us N fr F.length d F/\kI n fr a1 us=some (a1,us,c)/\c.length<=N+1/\(c=[]->∀k∈us.getD fr [],d.getD k.toNat 0<0):=by
 obtain⟨d,F,hdi,hb⟩:=adl (n:=n) (a0:=qx.mk a1 us) hg hd (by omega) hf;have hN:=hg.2.1;have HF:=hg.1;have hmx:maxLen=9223372036854775807:=rfl;have hloop:∃o,iter (lW n fr a1 us d) n (fr,[])=some o/\∃c,o=.inr (a1,us,c)/\c.length<=N+1/\(c=[]->∀k∈us.getD fr [],d.getD k.toNat 0<0):=by
  refine fu (λ k (v:Int×List ByteArray)=>∃at_:Nat,v.1=at_/\at_<N/\v.2.length=k/\k<=N/\((k=0/\at_=fr)\/(0<k/\at_≠fr/\0<=d.getD at_ 0/\d.getD at_ 0+k<=N))) _ N (λ k v ⟨_,_,_,_,h,_⟩=>h) ?_ n 0 _ ⟨fr,rfl,hf,rfl,Nat.zero_le _,.inl ⟨rfl,rfl⟩⟩ (by omega);rintro k ⟨v1,v2⟩ ⟨x,rfl,hx,hv2,hkN,hst⟩;simp at hv2;have hxa:x<a1.length:=by omega
  have hxu:x<us.length:=by omega
  have hl:=hg.2.2 us[x] (getElem_mem hxu);obtain⟨w,hw,hnr⟩:=aoN (n:=n) (d:=d) (l:=us[x]) hb.dl hl.1 hl.2 (by omega);have hgu:us.getD x []=us[x]:=by simp[hxu]
  have hap:bR v2.length v2.length (sub [a1[x].name] 0 1).length 1 16=true:=by simp[bR,sub];omega
  simp only[lW,bB hxa,bB hxu,ai,hap,aj,fI,hw];have hsl:(v2++sub [a1[x].name] 0 1).length=k+1:=by simp[sub,hv2]
  have hne:((v2++sub [a1[x].name] 0 1).length==0)=false:=by rw[hsl];simp
  rcases hnr with ⟨rfl,hno⟩|⟨hwm,hw0,hmin⟩;right;refine⟨.inr (a1,us,[]),by simp,[],rfl,by simp,λ_=>?_⟩;rcases hst with ⟨_,rfl⟩|⟨_,hxf,hx0,_⟩;rw[hgu];exact hno;have⟨y,hy,_,hy0⟩:=hb.step hx hxf hx0;have hy':(y:Int)∈us[x]:=by rw[<- hgu];exact hy
  have:=hno _ hy';simp only[Int.toNat_natCast]at this;omega;have hwr:=hl.2 w hwm;obtain⟨z,rfl⟩:=Int.eq_ofNat_of_zero_le hwr.1;simp only[Int.toNat_natCast]at hw0 hmin;by_cases hzf:z=fr;right;subst hzf;refine⟨.inr (a1,us,v2++sub [a1[x].name] 0 1),?_,_,rfl,by omega,λh=>by rw[h]at hsl;simp at hsl⟩;simp only[show decide ((z:Int)<0)=false from by simp,au,beq_self_eq_true,aj,hne,Bool.not_false,Bool.true_and,aK,Option.map_some];left;have HC:z<N:=by omega
  have hb1:d.getD z 0+(k+1:Nat)<=N:=by rcases hst with ⟨hk0,rfl⟩|⟨_,hxf,hx0,hle⟩;have hzF:=(hb.mem z HC).1 hw0;obtain⟨j,hj,hjz⟩:=mem_iff_getElem.1 hzF;have h3:=hb.ub j z (by rw[dP hj,hjz]);have:=hb.len;omega;have⟨y,hy,hyd,hy0⟩:=hb.step hx hxf hx0;have:=hmin y (by rw[<- hgu];exact hy) (by simpa using hy0);simp only[Int.toNat_natCast]at this;omega
  refine⟨(z,v2++sub [a1[x].name] 0 1),?_,z,rfl,HC,hsl,by omega,.inr ⟨Nat.succ_pos _,hzf,hw0,hb1⟩⟩;simp[show decide ((z:Int)<0)=false from by simp,show((z:Int)==fr)=false from by simp;omega]
 obtain⟨o,h1,c,rfl,h2⟩:=hloop;refine⟨d,F,c,hb,?_,h2⟩;simp only[kI,hdi,ai,h1];simp
theorem adm(a b:ByteArray):∃r,oJ a b=some r:=by simp[oJ,cmp_isNaN_string];cases (!a.toList==a.toList)<;>cases (!b.toList==b.toList)<;>cases WW a b<;>cases (a.toList==b.toList)<;>exact⟨_,rfl⟩
theorem adn{a b:U ByteArray}(ha:a.length<=5000000)(hn:5000001<=n):∃r,mI n a b=some r:=by
 obtain⟨o,h,_⟩:=fu (step:=mH a b) (λ i v=>v=i/\i<=a.length) (λ _=>True) a.length (λ k v h=>h.2) (by
  rintro i v ⟨rfl,hi⟩;by_cases hlt:i<a.length;simp only[mH,show decide ((i:Int)<a.length)=true from by simp;omega,aj,bB hlt,ai];by_cases hb:i<b.length;have⟨r,hr⟩:=adm a[i] b[i];simp only[show decide ((i:Int)>=b.length)=false from by simp;omega,au,bB hb,ai,hr];cases hr0:(r !=0)with
  |true=>exact .inr ⟨_,rfl,trivial⟩
  |false=>exact .inl ⟨_,rfl,by rw[aO (by omega)],by omega⟩
  simp only[show decide ((i:Int)>=b.length)=true from by simp;omega,aj];exact .inr ⟨_,rfl,trivial⟩;simp only[mH,show decide ((i:Int)<a.length)=false from by simp;omega,au];exact .inr ⟨_,rfl,trivial⟩) n 0 0 ⟨rfl,Nat.zero_le _⟩ (by omega)
 simp only[mI,h];cases o with
 |inl u=>cases u;simp only[gM];cases decide ((a.length:Int)<b.length)<;>exact⟨_,rfl⟩
 |inr r=>exact⟨r,by simp⟩
def ll(us:U (List Int))(N j:Nat):Prop:=∃d F,BI us N j F.length d F/\∀k∈us.getD j [],d.getD k.toNat 0<0
theorem afF{n N:Nat}{a0:U gZ}{us:U (List Int)}(hg:yq us N)(hd:a0.length=N)(hn:5000003<=n):∃c,jF n a0 us=some (a0,us,c)/\(c=[]->∀j,j<N->ll us N j)/\c.length<=N+1:=by
 have hN:=hg.2.1
 obtain⟨o,h1,c,rfl,h2⟩:=fu (step:=iR n a0) (λ i (v:Int×List gZ×List (List Int)×List ByteArray)=>∃c,v=((i:Int),a0,us,c)/\i<=N/\c.length<=N+1/\(c=[]->∀j,j<i->ll us N j))
  (λ o=>∃c,o=(a0,us,c)/\(c=[]->∀j,j<N->ll us N j)/\c.length<=N+1) N (λ k v ⟨_,_,h,_⟩=>h) (by
  rintro i v ⟨c,rfl,hi,hcl,hc⟩;by_cases hlt:i<N;left;obtain⟨d,F,c2,hb,hci,arR,hc2⟩:=alc (n:=n) (a1:=a0) hg hd (by omega) hlt;simp only[iR,show decide ((i:Int)<a0.length)=true from by simp;omega,aj,hci,ai,bn i,fJ,aK];have hfin:∀c':U ByteArray,c'.length<=N+1->(c'=[]->c=[]/\c2=[])->∃c'',(((i+1:Nat):Int),a0,us,c')=(((i+1:Nat):Int),a0,us,c'')/\i+1<=N/\c''.length<=N+1/\(c''=[]->∀j,j<i+1->ll us N j):=λc' hl' he=>
   ⟨c',rfl,hlt,hl',λe j hj=>by have⟨e1,e2⟩:=he e;by_cases h:j=i;subst h;exact⟨d,F,hb,hc2 e2⟩;exact hc e1 j (by omega)⟩
  obtain⟨r,hr⟩:=adn (n:=n) (a:=c2) (b:=c) (by omega) (by omega);cases h0:(c2.length==0)with
  |true=>
   have e2:c2=[]:=List.eq_nil_of_length_eq_zero (by simpa using h0);exact⟨_,by simp,hfin c hcl λe=>⟨e,e2⟩⟩
  |false=>
   have hne:c2≠[]:=λe=>(by rw[e]at h0;simp at h0);simp only[au,ai];have key:∃b,(bif c.length==0 then some true else bif decide ((c2.length:Int)<c.length)then some true else bif(c2.length:Int)==c.length then(mI n c2 c).bind λr2=>some (decide (r2<0))else some false)=some b/\(c.length=0->b=true):=by
    cases h3:(c.length==0)with
    |true=>exact⟨true,rfl,λ_=>rfl⟩
    |false=>
     have hcn:c.length≠0:=(by simpa using h3);simp only[au,hr,ai];cases decide ((c2.length:Int)<c.length)<;>cases ((c2.length:Int)==c.length)<;>exact⟨_,rfl,λe=>absurd e hcn⟩
   obtain⟨b,hb1,hb2⟩:=key;rw[hb1];cases b with
   |true=>exact⟨_,by simp,hfin c2 arR λe=>absurd e hne⟩
   |false=>exact⟨_,by simp,hfin c hcl λe=>by rw[e]at hb2;exact absurd (hb2 rfl) (by simp)⟩
  right;refine⟨(a0,us,c),?_,c,rfl,λe j hj=>hc e j (by omega),hcl⟩;simp only[iR,show decide ((i:Int)<a0.length)=false from by simp;omega,au,aK,aj]) n 0 (0,a0,us,[]) ⟨[],rfl,Nat.zero_le _,by simp,λ_ j hj=>absurd hj (Nat.not_lt_zero _)⟩ (by omega)
 exact⟨c,by simp[jF,h1],h2⟩
theorem BI.back{us:U (List Int)}{N to:Nat}{d:U Int}{F:U Nat}(b:BI us N to F.length d F){i y:Nat}(hi:i<N)(hy:y<N)(h:(y:Int)∈us.getD i [])(h0:0<=d.getD y 0):0<=d.getD i 0:=by obtain⟨j,hj,hjy⟩:=mem_iff_getElem.1 ((b.mem y hy).1 h0);exact b.cl j y hj (by rw[dP hj,hjy]) i hi h
theorem aoO{us:U (List Int)}{N:Nat}(hg:yq us N)(hf:∀j,j<N->ll us N j)(done:Φ){i0:Nat}(h0:i0<N)(hd0:¬done i0):∃i,i<N/\¬done i/\∀k∈us.getD i [],done k.toNat:=by
 refine vM λhno=>?_;have hstep:∀i:{i:Nat // i<N/\¬done i},∃k:{k:Nat // k<N/\¬done k},(k.1:Int)∈us.getD i.1 []:=by
  rintro⟨i,hi,hnd⟩;refine vM λh=>hno ⟨i,hi,hnd,λk hk=>vM λhkd=>h ?_⟩;have hl:us.getD i []∈us:=by have:i<us.length:=(by rw[hg.1];exact hi);simp[this]
  have hr:=(hg.2.2 _ hl).2 k hk;exact⟨⟨k.toNat,by omega,hkd⟩,by show(k.toNat:Int)∈_;rw[Int.toNat_of_nonneg hr.1];exact hk⟩
 obtain⟨f,hfs⟩:=Classical.axiomOfChoice hstep
 let g:Nat->{i:Nat // i<N/\¬done i}:=λj=>Nat.rec ⟨i0,h0,hd0⟩ (λ _ x=>f x) j
 have hgs:∀j,((g (j+1)).1:Int)∈us.getD (g j).1 []:=λj=>hfs (g j);have hnd:¬((List.range (N+1)).map λj=>(g j).1).Nodup:=λh=>by
  have:=Jo N _ h λy hy=>by obtain⟨j,_,rfl⟩:=mem_map.1 hy;exact(g j).2.1
  rw[length_map,List.length_range]at this;omega
 obtain⟨a,b,hab,he⟩:∃a b,a<b/\(g a).1=(g b).1:=by refine vM λh=>hnd ?_;rw[List.nodup_iff_pairwise_ne,List.pairwise_map];exact List.pairwise_lt_range.imp λ{x y} hxy e=>h ⟨x,y,hxy,e⟩
 obtain⟨d,F,hb,hneg⟩:=hf _ (g a).2.1;have hall:∀c,a<b-c->c<b-a->0<=d.getD (g (b-c)).1 0:=by
  intro c
  induction c with
  |zero=>intro _ _;rw[Nat.sub_zero,<- he,hb.hd.2];exact Int.le_refl _
  |succ c ih=>
   intro h1 h2;have:=ih (by omega) (by omega);have e:b-c=b-(c+1)+1:=(by omega);rw[e]at this;exact hb.back (g (b-(c+1))).2.1 (g (b-(c+1)+1)).2.1 (hgs (b-(c+1))) this
 have h1:=hall (b-a-1) (by omega) (by omega);have e:b-(b-a-1)=a+1:=by omega
 rw[e]at h1;have h2:=hneg _ (hgs a);simp only[Int.toNat_natCast]at h2;omega
theorem afG{n N:Nat}{l:U Int}{done:U Bool}(hd:done.length=N)(hl:l.length<=4000000)(hr:∀k∈l,0<=k/\k<N)(hn:4000001<=n):
 ∃r,iZ n l done=some (r,done)/\(r=false↔∀k∈l,done.getD k.toNat false=true):=by
 obtain⟨o,h1,h2⟩:=fu (step:=kH l) (λ i (v:Int×List Bool)=>v=((i:Int),done)/\i<=l.length/\∀k∈l.take i,done.getD k.toNat false=true)
  (λ o=>(o=.inl done/\∀k∈l,done.getD k.toNat false=true)\/∃i:Nat,o=.inr (i,done)/\∃k∈l,done.getD k.toNat false=false) l.length (λ k v h=>h.2.1) (by
  rintro i v ⟨rfl,hi,hall⟩;by_cases hlt:i<l.length;have hk:=hr l[i] (getElem_mem hlt);obtain⟨k,hk2⟩:=Int.eq_ofNat_of_zero_le hk.1;have hkN:k<done.length:=by omega
  have MY:done[k]=done.getD k false:=by simp[hkN]
  have htk:l.take (i+1)=l.take i++[l[i]]:=by rw[List.take_add_one,dP hlt];rfl
  simp only[kH,show decide ((i:Int)<l.length)=true from by simp;omega,aj,bB hlt,ai,aK,hk2,nu,aU hkN,bM hkN,MY];cases hdk:done.getD k false with
  |true=>
   refine .inl ⟨_,by simp;rfl,by rw[aO (by omega)],hlt,λz hz=>?_⟩;rw[htk,bF]at hz;rcases hz with hz|hz;exact hall z hz;simp at hz;rw[hz,hk2];simpa using hdk
  |false=>exact .inr ⟨_,by simp,.inr ⟨i,rfl,l[i],getElem_mem hlt,by rw[hk2];simpa using hdk⟩⟩
  refine .inr ⟨.inl done,?_,.inl ⟨rfl,by rw[take_of_length_le (by omega)]at hall;exact hall⟩⟩;simp only[kH,show decide ((i:Int)<l.length)=false from by simp;omega,au,aK,aj]) n 0 (0,done) ⟨rfl,Nat.zero_le _,by simp⟩ (by omega)
 rcases h2 with ⟨rfl,h2⟩|⟨i,rfl,k,hk,hkd⟩;exact⟨false,by simp[iZ,nM,h1],λ_=>h2,λ_=>rfl⟩;refine⟨true,by simp[iZ,nM,h1],λh=>(by cases h),λh=>?_⟩;rw[h k hk]at hkd;cases hkd
def RE(us:U (List Int))(N:Nat)(done:U Bool)(i:Nat)(w:Int):Prop:=
 (w=-1/\∀j,j<i->¬(done.getD j false=false/\∀k∈us.getD j [],done.getD k.toNat false=true))\/∃j:Nat,w=j/\j<i/\done.getD j false=false
theorem anb{n N:Nat}{a0:qx}{done:U Bool}(hg:yq a0.uses N)(hd:a0.defs.length=N)(hl:done.length=N)(hn:4000002<=n):∃w,iter (jk n a0) n (-1,0,done)=some (w,done)/\RE a0.uses N done N w:=by
 have hN:=hg.2.1;have HF:=hg.1;obtain⟨o,h1,w,rfl,h2⟩:=fu (step:=jk n a0) (λ i (v:Int×Int×List Bool)=>∃w,v=(w,(i:Int),done)/\i<=N/\RE a0.uses N done i w) (λ o=>∃w,o=(w,done)/\RE a0.uses N done N w) N (λ k v ⟨_,_,h,_⟩=>h) (by
  rintro i v ⟨w,rfl,hi,hw⟩;by_cases hlt:i<N;left;have hiu:i<a0.uses.length:=by omega
  have hid:i<a0.defs.length:=by omega
  have hib:i<done.length:=by omega
  have hl2:=hg.2.2 a0.uses[i] (getElem_mem hiu);obtain⟨r,hr1,hr2⟩:=afG (n:=n) hl hl2.1 hl2.2 (by omega);have hgi:a0.uses.getD i []=a0.uses[i]:=by simp[hiu]
  have hdi:done[i]=done.getD i false:=by simp[hib]
  simp only[jk,show decide ((i:Int)<a0.uses.length)=true from by simp;omega,aj,bB hiu,ai,aK,hr1,aU hib,bM hib,hdi,bn i];have keep:(done.getD i false=true\/r=true)->RE a0.uses N done (i+1) w:=by intro hno;rcases hw with ⟨rfl,hw⟩|⟨j,rfl,hj,hw⟩;refine .inl ⟨rfl,λj hj h=>?_⟩;by_cases e:j=i;subst e;rw[hgi]at h;rcases hno with h3|h3;rw[h3]at h;exact absurd h.1 (by simp);have:=hr2.2 h.2;rw[h3]at this;cases this;exact hw j (by omega) h;exact .inr ⟨j,rfl,by omega,hw⟩
  cases hdn:done.getD i false with
  |true=>exact⟨_,by simp,w,rfl,hlt,keep (.inl hdn)⟩
  |false=>
   cases r with
   |true=>exact⟨_,by simp,w,rfl,hlt,keep (.inr rfl)⟩
   |false=>
    have al:RE a0.uses N done (i+1) i:=.inr ⟨i,rfl,by omega,hdn⟩;rcases hw with ⟨rfl,hw⟩|⟨j,rfl,hj,hw⟩;exact⟨_,by simp,_,rfl,hlt,al⟩;have hjd:j<a0.defs.length:=(by omega);simp only[Bool.not_false,aj,show decide (j<0)=false from by simp,au,bB hid,bB hjd,ai];cases WW a0.defs[i].name a0.defs[j].name with
    |true=>exact⟨_,rfl,_,rfl,hlt,al⟩
    |false=>exact⟨_,rfl,_,rfl,hlt,.inr ⟨j,rfl,by omega,hw⟩⟩
  right;have hiN:i=N:=by omega
  refine⟨(w,done),?_,w,rfl,hiN ▸ hw⟩;simp only[jk,show decide ((i:Int)<a0.uses.length)=false from by simp;omega,au,aK,aj]) n 0 (-1,0,done) ⟨_,rfl,Nat.zero_le _,.inl ⟨rfl,λj hj=>absurd hj (Nat.not_lt_zero _)⟩⟩ (by omega)
 exact⟨w,h1,h2⟩
theorem ane{n N:Nat}{a0:qx}(hg:yq a0.uses N)(hd:a0.defs.length=N)(hf:∀j,j<N->ll a0.uses N j)(hn:4000002<=n):∃l,oK n a0=some l/\l.length=N/\∀k∈l,0<=k/\k<N:=by
 have hN:=hg.2.1;have hmx:maxLen=9223372036854775807:=rfl
 obtain⟨o,h1,h2⟩:=fu (step:=lN n a0) (λ c (v:Int×List Int×List Bool)=>∃out done,v=((c:Int),out,done)/\c<=N/\out.length=c/\(∀ k∈out,0<=k/\k<N)/\done.length=N/\done.count false=N-c)
  (λ o=>o.length=N/\∀k∈o,0<=k/\k<N) N (λ k v ⟨_,_,_,h,_⟩=>h) (by
  rintro c v ⟨out,done,rfl,hc,hol,hor,hdl,hcf⟩;by_cases hlt:c<N;left;have⟨w,hw1,hw2⟩:=anb (n:=n) hg hd hdl hn;have hopen:∃i0,i0<N/\done.getD i0 false=false:=by have hm:false∈done:=List.count_pos_iff.1 (by omega);obtain⟨i0,h0,e⟩:=mem_iff_getElem.1 hm;exact⟨i0,by omega,by simp[h0,e]⟩
  obtain⟨i0,h0,h0d⟩:=hopen;obtain⟨i,hi,hid,hia⟩:=aoO hg hf (λ j=>done.getD j false=true) h0 (by rw[h0d];simp);rcases hw2 with ⟨rfl,hw2⟩|⟨j,rfl,hj,hjd⟩;exact absurd ⟨Bool.eq_false_iff.2 hid,hia⟩ (hw2 i hi);have hjl:j<done.length:=by omega
  have hap:bR out.length out.length (sub [(j:Int)] 0 1).length 1 8=true:=by simp[bR,sub];omega
  have hset:(done.set j true).length=done.length:=by simp
  refine⟨((c+1:Nat),out++[(j:Int)],done.set j true),?_,_,_,rfl,hlt,by simp[hol],?_,by simp[hdl],?_⟩;simp only[lN,show decide ((c:Int)<a0.defs.length)=true from by simp;omega,aj,aK,hw1,ai,aU hjl,bM hjl,hap,fI,bn c,show(((0:Nat):Int)+j).toNat=j by omega,pR hset.symm];simp[sub];intro k hk;rw[bF]at hk;rcases hk with hk|hk;exact hor k hk;simp at hk;subst hk;omega;have hjf:done[j]=false:=by simpa[List.getD,hjl]using hjd
  rw[List.count_set hjl,hcf,hjf];simp;omega;right;have:c=N:=by omega
  refine⟨out,?_,by omega,hor⟩;simp only[lN,show decide ((c:Int)<a0.defs.length)=false from by simp;omega,au,aK,aj]) n 0 (0,[],List.replicate N false) ⟨[],_,rfl,Nat.zero_le _,rfl,by simp,by simp,by simp⟩ (by omega)
 refine⟨o,?_,h2⟩;have hmk:xN N 1=true:=by simp[xN];omega
 simp only[oK,hd,Int.le_refl,decide_true,Bool.true_and,show decide (0<=N)=true from by simp,hmk,aj,Int.toNat_natCast,h1,ai,fJ,aK];simp
def pC(out:U aJ)(s:aJ):U aJ:=
 match out.getLast? with
 |some q=>bif decide (s.from_<=q.to)then out.dropLast++[⟨q.from_,max q.to s.to⟩]else out++[s]
 |none=>[s]
theorem Yk out (s:aJ):(pC out s).length<=out.length+1:=by
 unfold pC;cases out.getLast? with
 |none=>simp
 |some q=>simp;cases decide (s.from_<=q.to)<;>simp<;>omega
theorem aid o (q s:aJ):pC (o++[q]) s=bif decide (s.from_<=q.to)then o++[⟨q.from_,max q.to s.to⟩]else o++[q]++[s]:=by simp[pC]
abbrev yy(s:aJ):Prop:=s.from_<s.to
def eR(l:U aJ)(y:Int):Bool:=l.any λs=>decide (s.from_<=y)&&decide (y<s.to)
def Can(l:U aJ):Prop:=l.Pairwise (λ a b=>a.to<b.from_)/\∀s∈l,yy s
theorem uX l y:eR l y=true↔∃s∈l,s.from_<=y/\y<s.to:=by simp[eR]
theorem qE(l m:U aJ) y:eR (l++m) y=(eR l y || eR m y):=by simp[eR]
theorem yS y:eR [] y=false:=rfl
theorem nW(s:aJ) l y:eR (s::l) y=((decide (s.from_<=y)&&decide (y<s.to)) || eR l y):=by simp[eR]
theorem afH{l m:U aJ}(h:l.Perm m) y:eR l y=eR m y:=by rw[gu,uX,uX];exact⟨λ ⟨s,hs,h1⟩=>⟨s,h.mem_iff.1 hs,h1⟩,λ⟨s,hs,h1⟩=>⟨s,h.mem_iff.2 hs,h1⟩⟩
theorem ado:Can []:=⟨List.Pairwise.nil,by simp⟩
theorem anf{out:U aJ}{s:aJ}(hc:Can out)(hs:yy s)(hb:∀o∈out,o.from_<=s.from_):
 Can (pC out s)/\(∀ o∈pC out s,o.from_<=s.from_)/\∀y,eR (pC out s) y=(eR out y || eR [s] y):=by rcases List.eq_nil_or_concat out with rfl|⟨o,q,rfl⟩;refine⟨⟨by simp[pC],by simp[pC];exact hs⟩,by simp[pC],λy=>by simp[pC,eR]⟩;rw[List.concat_eq_append]at*;obtain⟨h1,h2⟩:=hc;rw[pairwise_append]at h1;obtain⟨p1,_,p3⟩:=h1;have hq:yy q:=h2 q (by simp);have hqs:q.from_<=s.from_:=hb q (by simp);rw[aid];by_cases hj:s.from_<=q.to;simp only[hj,decide_true,aj];refine⟨⟨?_,?_⟩,?_,?_⟩;rw[pairwise_append];refine⟨p1,by simp,λa ha b hb'=>?_⟩;rw[bg]at hb';subst hb';exact p3 a ha q (by simp);intro a ha;rcases bF.1 ha with ha|ha;exact h2 a (by simp[ha]);rw[bg]at ha;subst ha;show q.from_<max q.to s.to;have:q.from_<q.to:=hq;omega;intro a ha;rcases bF.1 ha with ha|ha;exact hb a (by simp[ha]);rw[bg]at ha;subst ha;exact hqs;intro y;rw[qE,qE,Bool.or_assoc];congr 1;simp[nW,yS];rw[gu];simp;have:q.from_<q.to:=hq;have:s.from_<s.to:=hs;omega;simp only[hj,decide_false,au];refine⟨⟨?_,?_⟩,?_,?_⟩;rw[pairwise_append];refine⟨?_,by simp,λa ha b hb'=>?_⟩;rw[pairwise_append];exact⟨p1,by simp,p3⟩;rw[bg]at hb';subst hb';rcases bF.1 ha with ha|ha;have:=p3 a ha q (by simp);have:q.from_<q.to:=hq;omega;rw[bg]at ha;subst ha;omega;intro a ha;rcases bF.1 ha with ha|ha;exact h2 a ha;rw[bg]at ha;subst ha;exact hs;intro a ha;rcases bF.1 ha with ha|ha;exact hb a ha;rw[bg]at ha;subst ha;exact Int.le_refl _;intro y;rw[qE]
theorem Rf:∀(l out:U aJ),Can out->(∀ s∈l,yy s)->l.Pairwise (λ x y=>x.from_<=y.from_)->(∀ o∈out,∀s∈l,o.from_<=s.from_)->Can (l.foldl pC out)/\∀y,eR (l.foldl pC out) y=(eR out y || eR l y)
 |[],out,hc,_,_,_=>⟨hc,λy=>by simp[yS]⟩
 |s::l,out,hc,hv,hp,hb=>by rw[pairwise_cons]at hp;obtain⟨m1,m2,m3⟩:=anf hc (hv s (by simp)) (λ o ho=>hb o ho s (by simp));obtain⟨f1,f2⟩:=Rf l (pC out s) m1 (λ t ht=>hv t (by simp[ht])) hp.2 (λ o ho t ht=>Int.le_trans (m2 o ho) (hp.1 t ht));refine⟨f1,λy=>?_⟩;rw[foldl_cons,f2,m3,Bool.or_assoc,<- qE];rfl
theorem afI{a:aJ}{l:U aJ}(h:Can (a::l)):Can l:=⟨(pairwise_cons.1 h.1).2,λs hs=>h.2 s (by simp[hs])⟩
theorem Ky{a:aJ}{l:U aJ}(h:Can (a::l)){y:Int}(hy:eR l y=true):a.to<y:=by obtain⟨s,hs,h1,_⟩:=(uX _ _).1 hy;have:=(pairwise_cons.1 h.1).1 s hs;omega
theorem abL{a:aJ}{l:U aJ}(h:Can (a::l)){y:Int}(hy:eR (a::l) y=true):a.from_<=y:=by rw[nW,Bool.or_eq_true]at hy;rcases hy with hy|hy;simp at hy;exact hy.1;have:=Ky h hy;have:a.from_<a.to:=h.2 a (by simp);omega
theorem FH:∀{l m:U aJ},Can l->Can m->(∀ y,eR l y=eR m y)->l=m
 |[],[],_,_,_=>rfl
 |[],b::m,_,hm,h=>by have:=h b.from_;have hb:b.from_<b.to:=hm.2 b (by simp);rw[yS,nW]at this;simp[hb]at this
 |a::l,[],hl,_,h=>by have:=h a.from_;have ha:a.from_<a.to:=hl.2 a (by simp);rw[yS,nW]at this;simp[ha]at this
 |a::l,b::m,hl,hm,h=>by
  have ha:a.from_<a.to:=hl.2 a (by simp);have hb:b.from_<b.to:=hm.2 b (by simp);have ina:eR (a::l) a.from_=true:=by rw[nW];simp[ha]
  have arp:eR (b::m) b.from_=true:=by rw[nW];simp[hb]
  have e1:a.from_=b.from_:=by have h1:=abL hm (by rw[<- h];exact ina);have h2:=abL hl (by rw[h];exact arp);omega
  have nl:∀(c:aJ) k,Can (c::k)->eR (c::k) c.to=false:=by
   intro c k hk;cases hc:eR (c::k) c.to with
   |false=>rfl
   |true=>
    rw[nW,Bool.or_eq_true]at hc;rcases hc with hc|hc;simp at hc;have:=Ky hk hc;omega
  have e2:a.to=b.to:=by rcases Int.lt_trichotomy a.to b.to with hlt|he|hlt;have h1:=nl a l hl;rw[h,nW]at h1;simp at h1;omega;exact he;have h1:=nl b m hm;rw[<- h,nW]at h1;simp at h1;omega
  have e:a=b:=by cases a;cases b;simp at e1 e2;rw[e1,e2]
  subst e;rw[FH (afI hl) (afI hm) λy=>?_];have hy:=h y;rw[nW,nW]at hy;cases h1:eR l y with
  |true=>
   have:=Ky hl h1;have z:(decide (a.from_<=y)&&decide (y<a.to))=false:=(by rw[Bool.and_eq_false_iff,cB,cB];omega);rw[z,h1,Bool.false_or,Bool.false_or]at hy;rw[<- hy]
  |false=>
   cases h2:eR m y with
   |false=>rfl
   |true=>
    have:=Ky hm h2;have z:(decide (a.from_<=y)&&decide (y<a.to))=false:=(by rw[Bool.and_eq_false_iff,cB,cB];omega);rw[z,h1,h2]at hy;simp at hy
def AG(l:U aJ):U aJ:=(kR ur l).foldl pC []
theorem ang{l:U aJ}(h:l.Pairwise λx y=>ur y x=false):l.Pairwise λx y=>x.from_<=y.from_:=
 h.imp λ{x y} hxy=>by simp at hxy;omega
theorem Rh{l:U aJ}(h:∀s∈l,yy s):Can (AG l)/\∀y,eR (AG l) y=eR l y:=by have hp:=Fb ur l;obtain⟨h1,h2⟩:=Rf (kR ur l) [] ado (λ s hs=>h s (hp.mem_iff.1 hs)) (ang (amK OQ l)) (by simp);exact⟨h1,λy=>by rw[AG,h2,yS,Bool.false_or,afH hp]⟩
theorem ald{l:U aJ}(h:∀s∈l,yy s):(qw ur l).foldl pC []=AG l:=by have hp:=XZ OQ l;obtain⟨h1,h2⟩:=Rf (qw ur l) [] ado (λ s hs=>h s (hp.mem_iff.1 hs)) (ang (adb OQ l)) (by simp);have⟨h3,h4⟩:=Rh h;exact FH h1 h3 λy=>by rw[h2,yS,Bool.false_or,afH hp,h4]
theorem afJ l:(AG l).length<=l.length:=by
 have:∀(ys out:U aJ),(ys.foldl pC out).length<=out.length+ys.length:=by
  intro ys
  induction ys with
  |nil=>intro out;simp
  |cons y ys ih=>
   intro out;simp;have:=ih (pC out y);have:=Yk out y;omega
 have h:=this (kR ur l) [];rw[dQ]at h;simpa[AG]using h
abbrev d8(r:ax):Bool:=decide (0<=r.x0)&&(decide (r.x0<r.x1)&&(decide (r.x1<=1048576)&&(decide (0<=r.y0)&&(decide (r.y0<r.y1)&&decide (r.y1<=1048576)))))
theorem Ri(a b:Bool):(bif a then some b else some false)=some (a&&b):=by cases a<;>rfl
theorem jy(r:ax):nJ r=some (d8 r):=by simp[nJ,Ri]
def gT(l:U ax)(x:Int):U aJ:=(l.filter λr=>decide (r.x0<=x)&&decide (x<r.x1)).map λr=>⟨r.y0,r.y1⟩
def bW(l:U ax)(x:Int):U aJ:=AG (gT l x)
theorem Jp l x:(gT l x).length<=l.length:=by simp[gT];exact length_filter_le _ _
theorem zO l x:(bW l x).length<=l.length:=
 Nat.le_trans (afJ _) (Jp l x)
theorem aqR{r:ax}(h:d8 r=true):r.y0<r.y1:=by simp at h;omega
theorem Yl{l:U ax}(h:∀r∈l,d8 r=true) x:∀s∈gT l x,yy s:=by intro s hs;simp[gT]at hs;obtain⟨r,⟨hr,_⟩,rfl⟩:=hs;exact aqR (h r hr)
theorem Rj{l:U ax}{x:Int}(hl:l.length<1099511627776){n:Nat}(hn:l.length<n):iter (uI l x) n (0,[])=some (gT l x):=by
 have:=gD (l:=l) (step:=uI l x) (λ i s=>(i,s)) (λ r s=>bif decide (r.x0<=x)&&decide (x<r.x1)then s++[⟨r.y0,r.y1⟩]else s) (λ s=>s) (λ i s=>s.length<=i)
  (λ i hi s hs=>?_) (λ s hs=>by simp[uI]) n hn [] (aB _)
 rw[ky]at this;rw[this];congr 1;have gen:∀ys s,ys.foldl (λ s r=>bif decide (r.x0<=x)&&decide (x<r.x1)then s++[⟨r.y0,r.y1⟩]else s) s=s++gT ys x:=by
  intro ys
  induction ys with
  |nil=>intro s;simp[gT]
  |cons y ys ih=>
   intro s;simp[ih];cases h:(decide (y.x0<=x)&&decide (x<y.x1))with
   |true|false=>simp[gT,h]
 simpa using gen l [];have hi':decide ((i:Int)<l.length)=true:=by simpa using hi
 have ap:bR s.length s.length (sub ([(aJ.mk l[i].y0 l[i].y1)]:U aJ) 0 1).length 1 16=true:=dS (n:=1) (by omega) (by simp[maxLen];omega);simp only[uI,hi',aj,bB hi,ai,Ri];cases h:(decide (l[i].x0<=x)&&decide (x<l[i].x1))with
 |true=>
  simp only[aj,ap,fI,aK,ai];refine⟨?_,by simp;omega⟩;rw[aO (by omega)];rfl
 |false=>
  simp only[au,aK,aj,ai];exact⟨by rw[aO (by omega)],by omega⟩
theorem Rk(w1 r2:U aJ)(hw:w1.length=r2.length)(hl:r2.length<1099511627776)(hn:r2.length<n):iter (uJ w1 r2) n (0,[])=some (r2.foldl pC []):=by
 have:=gD (l:=r2) (step:=uJ w1 r2) (λ i s=>(i,s)) (λ r s=>pC s r) (λ s=>s) (λ i s=>s.length<=i)
  (λ i hi s hs=>?_) (λ s hs=>by simp[uJ,hw]) n hn [] (aB _)
 rw[ky]at this;exact this;refine⟨?_,by have:=Yk s r2[i];omega⟩;have hi':decide ((i:Int)<(w1.length:Nat))=true:=by simp;omega
 have ib:cz i w1.length=true:=aU (by omega);have ap:bR s.length s.length (sub ([r2[i]]:U aJ) 0 1).length 1 16=true:=dS (n:=1) (by omega) (by simp[maxLen];omega);simp only[uJ,hi',aj,ib,bM hi,ai];rcases List.eq_nil_or_concat s with rfl|⟨s0,q,L4⟩;have d0:decide ((([]:U aJ).length:Nat)>0)=false:=by simp
 simp;rw[aO (by omega)];rfl;rw[List.concat_eq_append]at L4;subst L4;have d0:decide (((((s0++[q]).length:Nat):Int))>0)=true:=by simp<;>omega
 have DB:(s0++[q]).length=s0.length+1:=by simp
 have wp:i64.wrap (((s0++[q]).length:Nat)-1)=(s0.length:Nat):=by rw[jq (by simp) (by omega),DB];rfl
 have ib2:cz (s0.length:Nat) (s0++[q]).length=true:=aU (by omega);have g:bu (s0++[q]) ((0:Nat)+(s0.length:Nat))=some q:=by rw[oC];simp
 have z:(((0:Nat):Int)+(s0.length:Nat)).toNat=s0.length:=by simp
 have st:(s0++[q]).set s0.length (aJ.mk q.from_ (max q.to r2[i].to))=s0++[⟨q.from_,max q.to r2[i].to⟩]:=by simp
 have m:pC (s0++[q]) r2[i]=bif decide (r2[i].from_<=q.to)then s0++[⟨q.from_,max q.to r2[i].to⟩]else s0++[q]++[r2[i]]:=by simp[pC]
 simp only[d0,aj,wp,ib2,g,ai,m,z,st];cases decide (r2[i].from_<=q.to)with
 |true=>
  have e:aE (s0++[q]).length (s0++[(⟨q.from_,max q.to r2[i].to⟩:aJ)]).length=true:=by simp
  simp only[aj,e,ai,aK];rw[aO (by omega)]
 |false=>
  simp only[au,ap,aj,fI,aK,ai];rw[aO (by omega)];rfl
theorem adq{l:U ax}{x:Int}(hv:∀r∈l,d8 r=true)(hl:l.length<1099511627776)(hn:l.length<n):Kq n l x=some (bW l x):=by have h1:=Jp l x;have h2:(qw ur (gT l x)).length=(gT l x).length:=E9 OQ _;unfold Kq;simp[Rj (x:=x) (l:=l) (by omega) (n:=n) (by omega)];rw[KG (λ a b=>if a.from_<b.from_ then -1 else if b.from_<a.from_ then 1 else 0) (λ a b=>by show yI a b=_;unfold yI;rw[jw];rfl) (λ a b=>by by_cases h1:a.from_<b.from_;simp[h1];by_cases h2:b.from_<a.from_<;>simp[h1,h2]) (by omega) (by omega)];simp;rw[Rk _ _ h2.symm (by omega) (by omega)];simp;rw[ald (Yl hv x)];rfl
def gm(l:U ax):U Int:=AW (l.flatMap λr=>[r.x0,r.x1])
def eD{α:Type}(f:Int->Int->α):U Int->U α
 |a::b::l=>f a b::eD f (b::l)
 |_=>[]
def bC(l:U ax):U bD:=eD (λ a b=>⟨a,b,bW l a⟩) (gm l)
theorem qF{α:Type}(f:Int->Int->α):∀l,(eD f l).length=l.length-1/\∀i (h:i+1<l.length) (h':i<(eD f l).length),(eD f l)[i]=f l[i] l[i+1]
 |[]|[a]=>⟨rfl,λi h=>by simp at h⟩
 |a::b::l=>by
  have⟨h1,h2⟩:=qF f (b::l);refine⟨by simp only[eD,gB,h1];simp,λi h h'=>?_⟩;cases i with
  |zero=>rfl
  |succ i=>
   simp;exact h2 i (by simpa using h) _
theorem xH(l:U ax):(l.flatMap λr=>[r.x0,r.x1]).length=2*l.length:=by
 induction l with
 |nil=>rfl
 |cons x l ih=>simp[ih];omega
theorem o8 l:(jg l).length<=l.length:=by
 match l with
 |[]|[x]=>simp[jg]
 |x::y::l=>
  have:=o8 (y::l);simp[jg];cases x==y<;>simp at* <;>omega
theorem Lx l:(gm l).length<=2*l.length:=by have h:=o8 (kR (λ a b=>decide (a<b)) (l.flatMap λr=>[r.x0,r.x1]));rw[dQ,xH]at h;exact h
theorem Rl{l:U ax}(hl:l.length<10995116277)(hn:l.length<n):iter (uK l) n (0,[])=some (l.flatMap λr=>[r.x0,r.x1]):=by
 have:=gD (l:=l) (step:=uK l) (λ i s=>(i,s)) (λ r s=>s++[r.x0,r.x1]) (λ s=>s) (λ i s=>s.length<=2*i)
  (λ i hi s hs=>?_) (λ s hs=>by simp[uK]) n hn [] (aB _)
 rw[ky]at this;rw[this];have gen:∀(ys:U ax) s,ys.foldl (λ s r=>s++[r.x0,r.x1]) s=s++ys.flatMap λr=>[r.x0,r.x1]:=by
  intro ys
  induction ys with
  |nil=>intro s;simp
  |cons y ys ih=>intro s;simp[ih]
 congr 1;simpa using gen l [];have hi':decide ((i:Int)<(l.length:Nat))=true:=by simpa using hi
 have ap:bR s.length s.length (sub ([l[i].x0,l[i].x1]:U Int) 0 2).length 2 8=true:=dS (n:=2) (by omega) (by simp[maxLen];omega);simp only[uK,hi',aj,aU hi,bM hi,ai,ap,fI,aK];refine⟨?_,by simp;omega⟩;rw[aO (by omega)];rfl
theorem yT{ls:U (List ax)}(hv:∀r∈ls.flatten,d8 r=true)(hl:ls.flatten.length<10995116277)(hls:ls.length<1099511627776)(hn:2*ls.flatten.length<n)(hn2:ls.length<n):pJ n ls=some (bC ls.flatten):=by
 unfold pJ;rw[OO (by omega) hls hn2];generalize ls.flatten=l at*;have he:=Lx l;simp[Rl (l:=l) (n:=n) (by omega) (by omega)];rw[nV (by rw[xH];omega) (by rw[xH];omega)];simp only[ai,dQ,aK,aj];rw[qb (by rw[dQ,xH];omega) (by rw[dQ,xH];omega)];simp only[ai];have hE:jg (kR pb (l.flatMap λr=>[r.x0,r.x1]))=gm l:=rfl;rw[hE];obtain⟨p1,p2⟩:=qF (λ a b=>(⟨a,b,bW l a⟩:bD)) (gm l);have key:iter (uL n l ((),gm l)) n (1,[])=some (bC l):=by
  have:=jD (step:=uL n l ((),gm l)) (λ i=>((i+1:Nat),(bC l).take i)) (bC l).length (bC l) (λ i hi=>?_) ?_ n (by unfold bC;omega);simpa using this;have hi2:i+1<(gm l).length:=by unfold bC at hi;omega
  have d:decide (((i+1:Nat):Int)<((gm l).length:Nat))=true:=by simp;omega
  have wp:i64.wrap ((i+1:Nat)-1)=(i:Nat):=by rw[jq (by omega) (by omega)];rfl
  have ap:bR ((bC l).take i).length ((bC l).take i).length (sub ([(bD.mk ((gm l)[i]'(by omega)) (gm l)[i+1] (bW l ((gm l)[i]'(by omega))))]:U bD) 0 1).length 1 40=true:=by refine dS (n:=1) ?_ ?_;rw[length_take];unfold bC;omega;rw[length_take];unfold bC;simp[maxLen];omega
  have tk:(bC l).take (i+1)=(bC l).take i++[⟨(gm l)[i]'(by omega),(gm l)[i+1],bW l ((gm l)[i]'(by omega))⟩]:=by rw[iF hi];congr 2;exact p2 i hi2 hi
  simp only[uL,d,aj,wp,aU (show i<(gm l).length by omega),bM (show i<(gm l).length by omega),ai,aU hi2,bM hi2,fJ,aK,adq (l:=l) (n:=n) hv (by omega) (by omega),ap,fI];rw[aO (by omega),tk];rfl;have d:decide ((((bC l).length+1:Nat):Int)<((gm l).length:Nat))=false:=by unfold bC;simp;omega
  simp only[uL,d,au,List.take_length,aK,aj]
 rw[key];simp
def tL(x0 x1:Int)(c:U aJ):U ax:=c.map λq=>⟨x0,q.from_,x1,q.to⟩
def AF(x0 x1:Int)(c:U aJ):U bD->U ax
 |[]=>tL x0 x1 c
 |s::l=>if s.column=c then AF x0 s.x1 c l else tL x0 x1 c++AF s.x0 s.x1 s.column l
def iw:U bD->U ax
 |[]=>[]
 |s::l=>AF s.x0 s.x1 s.column l
theorem abM x0 c:∀(l:U bD) x1 (k:Nat) (hk:k<=l.length),(∀ j (hj:j<k),(l[j]'(by omega)).column=c)->(∀ h:k<l.length,l[k].column≠c)->
 AF x0 x1 c l=tL x0 (if h:0<k then(l[k-1]'(by omega)).x1 else x1) c++iw (l.drop k)
 |l,x1,0,_,_,h2=>by
  cases l with
  |nil=>simp[AF,iw]
  |cons s l=>
   have:=h2 (by simp);simp at this;simp[AF,iw,this]
 |[],x1,k+1,hk,_,_=>by simp at hk
 |s::l,x1,k+1,hk,h1,h2=>by
  have e0:=h1 0 (by omega);simp at e0;simp[AF,e0];rw[abM x0 c l s.x1 k (by simpa using hk) (λ j hj=>by have:=h1 (j+1) (by omega);simpa using this) (λ h=>by have:=h2 (by simpa using h);simpa using this)];simp;congr 2;by_cases hk0:0<k;simp[hk0];obtain⟨m,rfl⟩:∃m,k=m+1:=⟨k-1,by omega⟩;simp;have:k=0:=by omega
  subst this;simp
theorem Uv{l:U bD}{i k:Nat}(hi:i<l.length)(hk1:0<k)(hk:k<=l.length)(hl:l.length<10995116277)(x3:bD) out (ho:out.length<1099511627776) (hc:x3.column.length<1099511627776) (hn:x3.column.length<n):
 iter (xA l i k x3) n (0,out)=some (out++tL l[i].x0 (l[k-1]'(by omega)).x1 x3.column):=by
 have:=gD (l:=x3.column) (step:=xA l i k x3) (λ j s=>(j,s)) (λ q s=>s++[⟨l[i].x0,q.from_,(l[k-1]'(by omega)).x1,q.to⟩]) (λ s=>s) (λ j s=>s.length<=out.length+j)
  (λ j hj s hs=>?_) (λ s hs=>by simp[xA]) n hn out (aB _)
 rw[ky]at this;rw[this];have gen:∀ys s,ys.foldl (λ s q=>s++[⟨l[i].x0,q.from_,(l[k-1]'(by omega)).x1,q.to⟩]) s=s++tL l[i].x0 (l[k-1]'(by omega)).x1 ys:=by
  intro ys
  induction ys with
  |nil=>intro s;simp[tL]
  |cons y ys ih=>intro s;simp[ih];simp[tL]
 rw[gen];have hj':decide ((j:Int)<x3.column.length)=true:=by simpa using hj
 have wp:i64.wrap (k-1)=(k-1:Nat):=jq hk1 (by omega);have ap:bR s.length s.length (sub ([(ax.mk l[i].x0 (x3.column[j]).from_ (l[k-1]'(by omega)).x1 (x3.column[j]).to)]:U ax) 0 1).length 1 32=true:=dS (n:=1) (by omega) (by simp[maxLen];omega);simp only[xA,hj',aj,bB hj,bB hi,wp,bB (show k-1<l.length by omega),ai,ap,fI,aK];refine⟨?_,by simp;omega⟩;rw[aO (by omega)];rfl
theorem TK{l:U bD}{b:Nat}(hb:b<=100000)(hl:l.length<=100000)(hc:∀s∈l,s.column.length<=b)(hn:b<n)(hn2:l.length<n):Jd n l=some (iw l):=by
 unfold Jd;simp only[length_nil,aK,aj];have main:∀(m i:Nat)(out:U ax)(k:Nat),i+m=l.length->m<k->out.length<=i*b->iter (xB n l) k ((i:Int),out)=some (out++iw (l.drop i)):=by
  intro m
  induction m using Nat.strongRecOn with
  |ind m ih=>
   intro i out k him hk ho;obtain⟨k,rfl⟩:∃j,k=j+1:=⟨k-1,by omega⟩;by_cases hm:m=0;subst hm;have:i=l.length:=(by omega);subst this;refine dn ?_;simp[xB,iw];have hi:i<l.length:=(by omega);have di:decide ((i:Int)<(l.length:Int))=true:=(by simpa using hi);obtain⟨q,hq1,hq2,hq3,hq4⟩:∃q,i<q/\q<=l.length/\(∀ j,i<j->j<q->∀h:j<l.length,l[j].column=l[i].column)/\(∀ h:q<l.length,l[q].column≠l[i].column):=(by rcases Lr (λ j=>if h:j<l.length then decide (l[j].column≠l[i].column)else false) (i+1) l.length with ⟨q,h1,h2,h3,h4⟩|h;simp[h2]at h3;refine⟨q,by omega,by omega,λj hj1 hj2 hj=>?_,λ_=>h3⟩;have:=h4 j (by omega) hj2;simp[hj,Decidable.not_not]at this;exact this;refine⟨l.length,hi,aB _,λj hj1 hj2 hj=>?_,λh=>by omega⟩;have:=h j (by omega) hj;simp[hj,dite_true,cB,ne_eq,Decidable.not_not]at this;exact this);have cl:∀j (hj:j<l.length),l[j].column.length<=b:=λj hj=>hc _ (getElem_mem hj);have r2:iter (tX n l (i:Int)) n (i64.wrap ((i:Int)+1))=some (q:Int):=(by rw[aO (by omega)];have:=jD (step:=tX n l (i:Int)) (λ j=>((i+1+j:Nat):Int)) (q-(i+1)) q (λ j hj=>?_) ?_ n (by omega);simpa using this;have hjl:i+1+j<l.length:=(by omega);have dj:decide (((i+1+j:Nat):Int)<l.length)=true:=(by simp;omega);have hcc:=cl (i+1+j) hjl;simp only[tX,dj,aj,bB hjl,bB hi,ai];rw[DI (by omega) (by omega),hq3 (i+1+j) (by omega) (by omega) hjl];simp only[decide_true,ai,aj];rw[aO (by omega)];rfl;rw[show i+1+(q-(i+1))=q by omega];by_cases BC:q<l.length;have dj:decide ((q:Nat)<l.length)=true:=(by simpa using BC);have hcc:=cl q BC;simp[tX,dj,aj,bB BC,bB hi,ai];rw[DI (by omega) (by omega)];simp[hq4 BC];have dj:decide ((q:Int)<l.length)=false:=(by simp;omega);simp only[tX,dj,au,ai]);have ob:i*b<=100000*100000:=Nat.mul_le_mul (by omega) hb;have hci:=cl i hi;have r3:=Uv (n:=n) hi (show 0<q by omega) hq2 (by omega) l[i] out (by omega) (by omega) (by omega);have step:xB n l (i,out)=some (.inl (q,out++tL l[i].x0 (l[q-1]'(by omega)).x1 l[i].column)):=(by simp only[xB,di,aj,r2,bB hi,ai,aK,r3]);rw[dV step,ih (l.length-q) (by omega) q _ k (by omega) (by omega) (by rw[dZ,tL,length_map];have:(i+1)*b<=q*b:=Nat.mul_le_mul_right _ (by omega);rw[Nat.add_mul]at this;omega)];rw[aV];congr 2
   conv=>rhs;rw[List.drop_eq_getElem_cons hi]
   simp[iw];rw[abM l[i].x0 l[i].column (l.drop (i+1)) l[i].x1 (q-(i+1)) (by rw[length_drop];omega) (λ j hj=>by rw[getElem_drop];exact hq3 _ (by omega) (by omega) (by omega)) (λ h=>by rw[length_drop]at h;rw[getElem_drop];have:=hq4 (by omega);have hqq:i+1+(q-(i+1))=q:=(by omega);simp[hqq];exact this)];rw[List.drop_drop,show i+1+(q-(i+1))=q by omega];congr 2;by_cases h0:0<q-(i+1);simp[h0,dite_true,getElem_drop];congr 2;omega;simp[h0,dite_false];have:q-1=i:=(by omega);congr 2
 have:=main l.length 0 [] n (by omega) (by omega) (by simp);simp[Int.natCast_zero,fw,List.drop_zero]at this;rw[this];simp
def k7(l:U ax):U ax×Int:=
 if l.all d8 then(if l.length>400 then([],6)else if (iw (bC l)).length>200 then([],6)else(iw (bC l),0))else([],1)
def cE(l:U ax):Bool:=decide ((k7 l).2=0)&&decide ((k7 l).1=l)
theorem afK{l:U ax}{s:bD}(h:s∈bC l):s.column.length<=l.length:=by obtain⟨i,hi,rfl⟩:=List.getElem_of_mem h;obtain⟨p1,p2⟩:=qF (λ a b=>(⟨a,b,bW l a⟩:bD)) (gm l);have:(bC l)[i]=⟨(gm l)[i]'(by unfold bC at hi;omega),(gm l)[i+1]'(by unfold bC at hi;omega),bW l ((gm l)[i]'(by unfold bC at hi;omega))⟩:=p2 i (by unfold bC at hi;omega) hi;rw[this];exact zO l _
theorem uY l:(bC l).length<=2*l.length:=by obtain⟨p1,_⟩:=qF (λ a b=>(⟨a,b,bW l a⟩:bD)) (gm l);have:=Lx l;unfold bC;omega
theorem afL{l:U ax}(hl:l.length<1099511627776)(hl2:l.length<n)(hn:1000<=n):Is n l=some (k7 l):=by
 unfold Is;have h1:=pI (l:=l) (step:=Ov l) (λ i=>i) (λ r=>!d8 r) () (λ _=>([],1)) (λ i hi=>?_) ?_ n (by omega);rw[ky]at h1;rw[h1];have h2:=qP (λ r=>!d8 r) l;cases hf:oU (λ r=>!d8 r) l with
 |some i=>
  rw[hf]at h2;have:l.all d8=false:=by rw[<- Bool.not_eq_true,all_eq_true];intro hall;have h3:=h2.symm;simp only[Option.isSome_some,any_eq_true]at h3;obtain⟨x,hx,hx2⟩:=h3;rw[hall x hx]at hx2;cases hx2
  simp[k7,this]
 |none=>
  rw[hf]at h2;have:l.all d8=true:=by
   rw[all_eq_true];intro x hx;cases h:d8 x with
   |true=>rfl
   |false=>
    have:l.any (λ r=>!d8 r)=true:=any_eq_true.2 ⟨x,hx,by rw[h];rfl⟩;rw[this]at h2;cases h2
  have hv:∀r∈l,d8 r=true:=all_eq_true.1 this;by_cases N2:l.length>400;have d4:decide ((l.length:Int)>400)=true:=by simp;omega
  simp[d4,k7,this,aY N2];have d4:decide ((l.length:Int)>400)=false:=by simp;omega
  have ls:=uY l;simp[d4];have fl:[l].flatten=l:=by simp
  rw[show (sub ([l]:U (List ax)) 0 1)=[l]from rfl,yT (ls:=[l]) (by rw[fl];exact hv) (by rw[fl];omega) (by simp) (by rw[fl];omega) (by simp;omega),fl];simp;rw[TK (b:=400) (by omega) (by omega) (λ s hs=>Nat.le_trans (afK hs) (by omega)) (by omega) (by omega)];simp[zH,k7,this,aT N2];by_cases qS:(iw (bC l)).length>200;have:decide (((iw (bC l)).length:Int)>200)=true:=by simp;omega
  simp[this,qS];have:decide (((iw (bC l)).length:Int)>200)=false:=by simp;omega
  simp[this,qS]
 have hi':decide ((i:Int)<l.length)=true:=by simpa using hi
 simp only[Ov,hi',aj,bB hi,ai,jy];cases d8 l[i]with
 |false=>rfl
 |true=>simp only[Bool.not_true,au];rw[aO (by omega)]
 simp[Ov]
theorem mK{l:U ax}(hl:l.length<1099511627776)(hl2:l.length<n)(hn:1000<=n):oV n l=some (cE l):=by
 unfold oV cE;rw[afL hl hl2 hn];simp;by_cases h:(k7 l).2=0;have e:((k7 l).2==0)=true:=by simp[h]
 have lo:(k7 l).1.length<=200:=by unfold k7;split;split;simp;split;simp;simp;omega;simp
 by_cases hlen:(k7 l).1.length<n;simp only[h,decide_true,Bool.true_and];rw[DF (by omega) hlen];rfl;have:(k7 l).1.length≠l.length:=by omega
 have hne:(k7 l).1≠l:=λe=>this (by rw[e]);simp[h];unfold pK;have hb:(((k7 l).1.length:Int) !=l.length)=true:=by simp;omega
 rw[hb];simp[hne];have e:((k7 l).2==0)=false:=by simp[h]
 simp[e,h]
theorem Rm{α:Type} c (a b:α):(bif c then some a else some b)=some (bif c then a else b):=by cases c<;>rfl
theorem abN(i n:Nat):Int.tmod (i:Int) (n:Int)=(i%n:Nat):=by rw[Int.tmod_eq_emod_of_nonneg (by omega)];omega
theorem dR{i n:Nat}(h:i<n):decide ((i:Int)<(n:Nat))=true:=by simpa using h
theorem Ym(n:Nat):decide ((n:Int)<(n:Nat))=false:=by simp
theorem aj2{k b:Nat}(h:k*b<=140737488355328)(h2:k<=maxLen):xN k b=true:=by
 have e:((k:Int)).toNat=k:=by omega
 simp only[xN,aX,bq,e];exact⟨⟨by omega,h⟩,h2⟩
def qu(p:U eU)(i:Nat):eU:=p.getD i ⟨0,0⟩
def jM(p:U eU)(i:Nat):j6:=⟨(qu p i).x,(qu p i).y,(qu p ((i+1)%p.length)).x,(qu p ((i+1)%p.length)).y⟩
def gX(p:U eU):U j6:=(List.range p.length).map (jM p)
theorem VN{p:U eU}{i:Nat}(h:i<p.length):qu p i=p[i]:=by simp[qu,h]
theorem eH p:(gX p).length=p.length:=by simp[gX]
theorem zP{p:U eU}{i:Nat}(h:i<(gX p).length):(gX p)[i]=jM p i:=by simp[gX]
theorem anh{α:Type}(A B:U α)(z x:α):(A++z::B).set A.length x=A++x::B:=by rw[List.set_append_right _ _ (aB _),Nat.sub_self];rfl
theorem BA{p:U eU}(hl:p.length<=100000)(hn:p.length<n):qy n p=some (gX p):=by
 unfold qy;have mk:xN (p.length:Nat) 32=true:=aj2 (by omega) (by show p.length<=2 ^ 63-1;omega);have main:=jD (step:=p9 p) (λ i=>((i:Nat),(List.range i).map (jM p)++List.replicate (p.length-i) (j6.mk 0 0 0 0))) p.length (gX p) (λ i hi=>?_) ?_ n hn;have z:((p.length:Int)).toNat=p.length:=by omega
 simp only[List.range_zero,List.map_nil,fw,Nat.sub_zero]at main;have d1:decide ((p.length:Int)<=(p.length:Nat))=true:=by simp
 have d2:decide ((0:Int)<=(p.length:Nat))=true:=by simp
 rw[mk,d1,d2,z];simp;rw[ky]at main;rw[main];simp;have e:sub (gX p) 0 p.length=gX p:=by rw[<- eH p];exact fJ _
 rw[e,eH];simp;have nz:((p.length:Int) !=0)=true:=by simp;intro h;rw[h]at hi;simp at hi
 have md:(i+1)%p.length<p.length:=Nat.mod_lt _ (by omega);have w:i64.wrap (i+1)=(i+1:Nat):=aO (by omega);have z:((p.length:Int)).toNat=p.length:=by omega
 have rp:List.replicate (p.length-i) (j6.mk 0 0 0 0)=j6.mk 0 0 0 0::List.replicate (p.length-(i+1)) (j6.mk 0 0 0 0):=by rw[show p.length-i=(p.length-(i+1))+1 by omega,List.replicate_succ]
 have la:((List.range i).map (jM p)).length=i:=by simp
 have g:bu ((List.range i).map (jM p)++List.replicate (p.length-i) (j6.mk 0 0 0 0)) ((0:Nat)+(i:Nat))=some (j6.mk 0 0 0 0):=by rw[oC,pX (by omega),la,rp,Nat.sub_self];rfl
 have z2:(((0:Nat):Int)+(i:Nat)).toNat=i:=by omega
 have st:((List.range i).map (jM p)++List.replicate (p.length-i) (j6.mk 0 0 0 0)).set i (jM p i)=(List.range (i+1)).map (jM p)++List.replicate (p.length-(i+1)) (j6.mk 0 0 0 0):=by rw[rp];have:=anh ((List.range i).map (jM p)) (List.replicate (p.length-(i+1)) (j6.mk 0 0 0 0)) (j6.mk 0 0 0 0) (jM p i);rw[la]at this;rw[this,List.range_succ,map_append,aV];rfl
 simp only[p9,dR hi,aj,bB hi,ai,nz,w,abN,bB md,z,aU hi,g,z2];rw[<- VN hi,<- VN md];rw[show j6.mk (qu p i).x (qu p i).y (qu p ((i+1)%p.length)).x (qu p ((i+1)%p.length)).y=jM p i from rfl,st];simp[p9];rfl
def VO(a:eU):Bool:=decide (0<=a.x)&&(decide (a.x<=1048576)&&(decide (0<=a.y)&&decide (a.y<=1048576)))
def wd(s:j6):Bool:=s.mw==s.m9
def V2(s t:j6):Bool:=decide (max (min s.mw s.m9) (min t.mw t.m9)<=min (max s.mw s.m9) (max t.mw t.m9))&&decide (max (min s.qn s.vy) (min t.qn t.vy)<=min (max s.qn s.vy) (max t.qn t.vy))
def VP(a b:eU):Bool:=decide (a.x<b.x) || (a.x==b.x&&decide (a.y<b.y))
theorem OT(a:eU):uO a=some (VO a):=by simp[uO,Ri,VO]
theorem DJ(s t:j6):mD s t=some (V2 s t):=by simp[mD,Ri,V2]
theorem nX(s:j6):iG s=some (wd s):=rfl
theorem Yn(a b:Int)(hn:3<=n):vY n [a,b]=some (if a=0 then b else a):=by
 obtain⟨m,rfl⟩:∃m,n=m+3:=⟨n-3,by omega⟩;have w1:i64.wrap (0+1)=1:=by decide
 have w2:i64.wrap (1+1)=2:=by decide
 by_cases ha:a=0;by_cases hb:b=0;subst ha;subst hb;simp;rfl;have hb':(b !=0)=true:=by simpa using hb
 subst ha;simp only[vY,Kj,BU,w1];simp[bu,hb'];have ha':(a !=0)=true:=by simpa using ha
 simp[vY,Kj,BU];simp[bu,ha',ha]
theorem Mg(a b:eU)(hn:3<=n):∃r,sN n a b=some r/\decide (r>=0)=!VP a b:=by
 unfold sN;rw[jw,jw];simp;rw[show ∀u v:Int,sub [u,v] 0 2=[u,v]from λ_ _=>rfl,Yn _ _ hn];refine⟨_,rfl,?_⟩;unfold VP;by_cases h1:a.x<b.x;simp[h1];by_cases h2:b.x<a.x;have h3:¬a.x=b.x:=by omega
 simp[h1,h2,h3];have h3:a.x=b.x:=by omega
 by_cases h4:a.y<b.y;simp[h3,h4];by_cases h5:b.y<a.y<;>simp[h3,h4,h5]
def PC(p:U eU)(i:Nat):Bool:=
 (!VO (qu p i) || ((((jM p i).mw==(jM p i).m9)==((jM p i).qn==(jM p i).vy)) || (wd (jM p i)==wd (jM p ((i+1)%p.length))))) || (decide (0<i)&&!VP (qu p 0) (qu p i))
def Uw(p:U eU)(i k:Nat):Bool:=decide (i+p.length-k>1)&&V2 (jM p i) (jM p k)
def Rn(p:U eU):Bool:=
 decide (4<=p.length)&&(decide (p.length<=60)&&(!((List.range p.length).any (PC p))&&(!((List.range p.length).any λi=>(List.range p.length).any λk=>decide (i+2<=k)&&Uw p i k)&&!wd (jM p 0))))
def qG(l:U ax)(x y:Int):Bool:=l.any λr=>(decide (r.x0<=x)&&decide (x<r.x1))&&(decide (r.y0<=y)&&decide (y<r.y1))
theorem TM l (x y:Int):eR (gT l x) y=qG l x y:=by
 induction l with
 |nil=>rfl
 |cons r l ih=>
  unfold gT qG at*;rw[List.filter_cons,List.any_cons,<- ih];cases h:(decide (r.x0<=x)&&decide (x<r.x1))with
  |true=>simp;rw[nW]
  |false=>simp
theorem oO{l:U ax}(h:∀r∈l,d8 r=true) x:Can (bW l x)/\∀y,eR (bW l x) y=qG l x y:=by have⟨h1,h2⟩:=Rh (Yl h x);exact⟨h1,λy=>by rw[bW,h2,TM]⟩
def qH:U bD->Prop
 |[]=>True
 |[s]=>s.x0<s.x1
 |s::t::l=>s.x0<s.x1/\s.x1=t.x0/\qH (t::l)
def kT:U bD->Int->U aJ
 |[],_=>[]
 |s::l,x=>bif decide (s.x0<=x)&&decide (x<s.x1)then s.column else kT l x
theorem jA(s:bD) l x:kT (s::l) x=bif decide (s.x0<=x)&&decide (x<s.x1)then s.column else kT l x:=rfl
def Runs:U bD->Prop
 |[]=>True
 |[s]=>s.x0<s.x1/\s.column≠[]
 |s::t::l=>(s.x0<s.x1/\s.column≠[])/\s.x1<=t.x0/\(s.x1=t.x0->s.column≠t.column)/\Runs (t::l)
theorem nY{s:bD}{l:U bD}(h:Runs (s::l)):Runs l:=by
 cases l with
 |nil=>trivial
 |cons t l=>exact h.2.2.2
theorem pO{s:bD}{l:U bD}(h:Runs (s::l)):s.x0<s.x1/\s.column≠[]:=by
 cases l with
 |nil=>exact h
 |cons t l=>exact h.1
theorem mM:∀{l:U bD}{b x:Int},Runs l->(∀ s∈l.head?,b<=s.x0)->x<b->kT l x=[]
 |[],_,_,_,_,_=>rfl
 |s::l,b,x,h,hb,hx=>by
  have h0:=hb s rfl;have hs:=pO h;have c:(decide (s.x0<=x)&&decide (x<s.x1))=false:=by rw[Bool.and_eq_false_iff,cB];left;omega
  rw[jA,c,au];refine mM (nY h) (b:=s.x1) (λ t ht=>?_) (by omega);cases l with
  |nil=>cases ht
  |cons u l=>
   have:t=u:=(by simpa using ht.symm);subst this;exact h.2.1
theorem uZ{s:bD}{l:U bD}{x:Int}(h1:s.x0<=x)(h2:x<s.x1):kT (s::l) x=s.column:=by rw[jA,show(decide (s.x0<=x)&&decide (x<s.x1))=true by simp[h1,h2]];rfl
theorem xI{s:bD}{l:U bD}{x:Int}(h:s.x1<=x):kT (s::l) x=kT l x:=by rw[jA,show(decide (s.x0<=x)&&decide (x<s.x1))=false by rw[Bool.and_eq_false_iff,cB,cB];right;omega];rfl
theorem afM{s:bD}{l:U bD}(h:Runs (s::l)):kT l s.x1≠s.column:=by
 have hs:=pO h;cases l with
 |nil=>exact λe=>hs.2 e.symm
 |cons t l=>
  obtain⟨_,h2,h3,h4⟩:=h;have ht:=pO h4;by_cases e:s.x1=t.x0;rw[uZ (by omega) (by omega)];exact λe'=>h3 e e'.symm
  rw[mM h4 (b:=t.x0) (λ u hu=>by have:u=t:=by simpa using hu.symm
                                 subst this;exact Int.le_refl _) (by omega)]
  exact λe'=>hs.2 e'.symm
theorem TN:∀{l m:U bD},Runs l->Runs m->(∀ x,kT l x=kT m x)->l=m
 |[],[],_,_,_=>rfl
 |[],b::m,_,hm,h=>by have hb:=pO hm;have:=h b.x0;rw[uZ (Int.le_refl _) hb.1]at this;exact absurd this.symm hb.2
 |a::l,[],hl,_,h=>by have ha:=pO hl;have:=h a.x0;rw[uZ (Int.le_refl _) ha.1]at this;exact absurd this ha.2
 |a::l,b::m,hl,hm,h=>by
  have ha:=pO hl;have hb:=pO hm;have e0:a.x0=b.x0:=by
   rcases Int.lt_trichotomy a.x0 b.x0 with hlt|he|hlt;have:=h a.x0
   rw[uZ (Int.le_refl _) ha.1,mM hm (b:=b.x0) (λ u hu=>by have:u=b:=by simpa using hu.symm
                                                          subst this;exact Int.le_refl _) hlt]at this
   exact absurd this ha.2;exact he;have:=h b.x0
   rw[uZ (Int.le_refl _) hb.1,mM hl (b:=a.x0) (λ u hu=>by have:u=a:=by simpa using hu.symm
                                                          subst this;exact Int.le_refl _) hlt]at this
   exact absurd this.symm hb.2
  have ec:a.column=b.column:=by
   have:=h a.x0
   rwa [uZ (Int.le_refl _) ha.1,uZ (by omega) (by omega)]at this
  have e1:a.x1=b.x1:=by rcases Int.lt_trichotomy a.x1 b.x1 with hlt|he|hlt;have:=h a.x1;rw[xI (Int.le_refl _),uZ (by omega) hlt]at this;exact absurd (this.trans ec.symm) (afM hl);exact he;have:=h b.x1;rw[xI (s:=b) (Int.le_refl _),uZ (by omega) hlt]at this;exact absurd (this.symm.trans ec) (afM hm)
  have e:a=b:=by cases a;cases b;simp at e0 e1 ec;rw[e0,e1,ec]
  subst e;rw[TN (nY hl) (nY hm) λx=>?_];by_cases hx:x<a.x1;have bl:=mM (nY hl) (b:=a.x1) (x:=x) (λ t ht=>by
   cases l with
   |nil=>cases ht
   |cons u l=>
    have:t=u:=(by simpa using ht.symm);subst this;exact hl.2.1) hx
  have bm:=mM (nY hm) (b:=a.x1) (x:=x) (λ t ht=>by
   cases m with
   |nil=>cases ht
   |cons u m=>
    have:t=u:=(by simpa using ht.symm);subst this;exact hm.2.1) hx
  rw[bl,bm];have:=h x
  rwa [xI (by omega),xI (by omega)]at this
def Jq(x0 x1:Int)(c:U aJ):U bD:=if c=[]then []else [⟨x0,x1,c⟩]
def Gi(x0 x1:Int)(c:U aJ):U bD->U bD
 |[]=>Jq x0 x1 c
 |s::l=>if s.column=c then Gi x0 s.x1 c l else Jq x0 x1 c++Gi s.x0 s.x1 s.column l
def anj:U bD->U bD
 |[]=>[]
 |s::l=>Gi s.x0 s.x1 s.column l
def yU(l:U bD):U ax:=l.flatMap λs=>tL s.x0 s.x1 s.column
theorem TP(x0 x1:Int) c:yU (Jq x0 x1 c)=tL x0 x1 c:=by unfold Jq;split;rename_i h;subst h;rfl;simp[yU]
theorem Ro:∀l (x0 x1:Int) c,AF x0 x1 c l=yU (Gi x0 x1 c l)
 |[],x0,x1,c=>(TP x0 x1 c).symm
 |s::l,x0,x1,c=>by simp[AF,Gi];split;exact Ro l _ _ _;rw[Ro l];unfold yU;rw[List.flatMap_append];congr 1;exact(TP x0 x1 c).symm
theorem BB l:iw l=yU (anj l):=by
 cases l with
 |nil=>rfl
 |cons s l=>exact Ro l _ _ _
theorem Mh x0:∀l x1 c,x0<x1->(∀ s∈l.head?,x1=s.x0)->qH l->∀t∈(Gi x0 x1 c l).head?,x0<=t.x0/\(t.x0=x0->t.column=c)
 |[],x1,c,_,_,_,t,ht=>by
  simp[Gi,Jq]at ht;split at ht;cases ht;have:t=⟨x0,x1,c⟩:=by simpa using ht.symm
  subst this;exact⟨Int.le_refl _,λ_=>rfl⟩
 |s::l,x1,c,hx,hc,hS,t,ht=>by
  have e:=hc s rfl;have hs:s.x0<s.x1/\(∀ u∈l.head?,s.x1=u.x0)/\qH l:=by
   cases l with
   |nil=>exact⟨hS,λu hu=>(by cases hu),trivial⟩
   |cons v l=>exact⟨hS.1,λu hu=>by have:u=v:=by simpa using hu.symm
                                   subst this;exact hS.2.1,hS.2.2⟩
  simp[Gi]at ht;split at ht;exact Mh x0 l s.x1 c (by omega) hs.2.1 hs.2.2 t ht;unfold Jq at ht;split at ht;rw[fw]at ht;have:=Mh s.x0 l s.x1 s.column hs.1 hs.2.1 hs.2.2 t ht;exact⟨by omega,λh=>by omega⟩;have:t=⟨x0,x1,c⟩:=by simpa using ht.symm
  subst this;exact⟨Int.le_refl _,λ_=>rfl⟩
theorem ale{s:bD}{l:U bD}(h1:s.x0<s.x1)(h2:s.column≠[])(h3:∀t∈l.head?,s.x1<=t.x0/\(s.x1=t.x0->s.column≠t.column))(h4:Runs l):Runs (s::l):=by
 cases l with
 |nil=>exact⟨h1,h2⟩
 |cons t l=>
  have:=h3 t rfl;exact⟨⟨h1,h2⟩,this.1,this.2,h4⟩
theorem Mi:∀l (x0 x1:Int) c,x0<x1->(∀ s∈l.head?,x1=s.x0)->qH l->
 Runs (Gi x0 x1 c l)/\∀x,kT (Gi x0 x1 c l) x=bif decide (x0<=x)&&decide (x<x1)then c else kT l x
 |[],x0,x1,c,hx,_,_=>by simp[Gi,Jq];split;rename_i h;subst h;exact⟨trivial,λx=>by simp[kT]⟩;rename_i h;exact⟨⟨hx,h⟩,λx=>rfl⟩
 |s::l,x0,x1,c,hx,hc,hS=>by
  have e:=hc s rfl;have hs:s.x0<s.x1/\(∀ u∈l.head?,s.x1=u.x0)/\qH l:=by
   cases l with
   |nil=>exact⟨hS,λu hu=>(by cases hu),trivial⟩
   |cons v l=>exact⟨hS.1,λu hu=>by have:u=v:=by simpa using hu.symm
                                   subst this;exact hS.2.1,hS.2.2⟩
  simp[Gi];split;rename_i tE;obtain⟨r1,r2⟩:=Mi l x0 s.x1 c (by omega) hs.2.1 hs.2.2;refine⟨r1,λx=>?_⟩;rw[r2,jA,tE];by_cases h1:x0<=x<;>by_cases h2:x<x1<;>by_cases h3:s.x0<=x<;>by_cases h4:x<s.x1<;>simp[h1,h2,h3,h4]<;>omega;rename_i tE;have⟨r1,r2⟩:=Mi l s.x0 s.x1 s.column hs.1 hs.2.1 hs.2.2;have hd:=Mh s.x0 l s.x1 s.column hs.1 hs.2.1 hs.2.2;unfold Jq;split
  .rename_i hn;subst hn;rw[fw];refine⟨r1,λx=>?_⟩;rw[r2,jA];by_cases h1:x0<=x<;>by_cases h2:x<x1;have h3:¬s.x0<=x:=(by omega);simp[h1,h2];have:=mM r1 (b:=s.x0) (x:=x) (λ t ht=>(hd t ht).1) (by omega);rw[r2]at this;simpa[h3]using this
   all_goals simp[h1,h2]
  rename_i hn;rw[List.singleton_append];refine⟨ale hx hn (λ t ht=>?_) r1,λx=>?_⟩;have⟨d1,d2⟩:=hd t ht;refine⟨by show x1<=t.x0;omega,λht2 hcc=>?_⟩;have ht2:x1=t.x0:=ht2;rw[d2 (by omega)]at hcc;exact tE hcc.symm;rw[jA,r2,jA]
theorem FI{l:U bD}(h:qH l):Runs (anj l)/\∀x,kT (anj l) x=kT l x:=by
 cases l with
 |nil=>exact⟨trivial,λ_=>rfl⟩
 |cons s l=>
  have hs:s.x0<s.x1/\(∀ u∈l.head?,s.x1=u.x0)/\qH l:=by
   cases l with
   |nil=>exact⟨h,λu hu=>(by cases hu),trivial⟩
   |cons v l=>exact⟨h.1,λu hu=>by have:u=v:=by simpa using hu.symm
                                  subst this;exact h.2.1,h.2.2⟩
  have⟨r1,r2⟩:=Mi l s.x0 s.x1 s.column hs.1 hs.2.1 hs.2.2;exact⟨r1,λx=>by rw[jA];exact r2 x⟩
theorem LA{l m:U bD}(hl:qH l)(hm:qH m)(h:∀x,kT l x=kT m x):iw l=iw m:=by have⟨l1,l2⟩:=FI hl;have⟨m1,m2⟩:=FI hm;rw[BB,BB,TN l1 m1 λx=>by rw[l2,m2,h]]
theorem Yo(l m:U ax) x:gT (l++m) x=gT l x++gT m x:=by simp[gT]
theorem aag(x0 x1:Int) c x:gT (tL x0 x1 c) x=bif decide (x0<=x)&&decide (x<x1)then c else []:=by
 unfold gT tL
 induction c with
 |nil=>simp
 |cons s c ih=>
  rw[bK,List.filter_cons];cases h:(decide (x0<=x)&&decide (x<x1))with
  |true=>rw[h]at ih;simp[ih]
  |false=>rw[h]at ih;simpa using ih
theorem OU:∀{l:U bD},Runs l->∀x,gT (yU l) x=kT l x
 |[],_,x=>rfl
 |s::l,h,x=>by
  have ih:=OU (nY h) x;have hs:=pO h;show gT (tL s.x0 s.x1 s.column++yU l) x=_;rw[Yo,aag,ih,jA];cases hc:(decide (s.x0<=x)&&decide (x<s.x1))with
  |false=>rfl
  |true=>
   rw[aX,bq,bq]at hc;have:=mM (nY h) (b:=s.x1) (x:=x) (λ t ht=>by
    cases l with
    |nil=>cases ht
    |cons u l=>
     have:t=u:=(by simpa using ht.symm);subst this;exact h.2.1) hc.2
   rw[this];simp
theorem Jr{l:U bD}(h:qH l) x:gT (iw l) x=kT l x:=by have⟨h1,h2⟩:=FI h;rw[BB,OU h1,h2]
theorem adt{l:U bD}(h:qH l)(x y:Int):qG (iw l) x y=eR (kT l x) y:=by rw[<- TM,Jr h]
theorem mO{α:Type}(f:Int->Int->α)(a b:Int) l:eD f (a::b::l)=f a b::eD f (b::l):=rfl
theorem FJ(g:Int->U aJ):∀es,es.Pairwise (· < ·)->qH (eD (λ a b=>(⟨a,b,g a⟩:bD)) es)
 |[],_|[_],_=>trivial
 |[a,b],h=>by have h1:=(pairwise_cons.1 h).1 b (by simp);exact h1
 |a::b::c::l,h=>by have h1:=(pairwise_cons.1 h).1 b (by simp);exact⟨h1,rfl,FJ g (b::c::l) (pairwise_cons.1 h).2⟩
theorem Js(g:Int->U aJ) x:∀es,(∀ e∈es,x<e)->kT (eD (λ a b=>(⟨a,b,g a⟩:bD)) es) x=[]
 |[],_|[_],_=>rfl
 |a::b::l,h=>by have ha:=h a (by simp);rw[mO,jA,show(decide (a<=x)&&decide (x<b))=false by rw[Bool.and_eq_false_iff,cB];left;omega,au];exact Js g x (b::l) λe he=>h e (bQ _ he)
theorem Jt(g:Int->U aJ) x:∀l a,(a::l).Pairwise (· < ·)->a<=x->
 (∀ e∈a::l,e<=x->(∀ e'∈a::l,e'<=e\/x<e')->g e=g x)->((∀ e∈a::l,e<=x)->g x=[])->kT (eD (λ a b=>(⟨a,b,g a⟩:bD)) (a::l)) x=g x
 |[],a,_,hx,_,h2=>(h2 (λ e he=>by have:e=a:=by simpa using he
                                  subst this;exact hx)).symm
 |b::l,a,hp,hx,h1,h2=>by have hab:=(pairwise_cons.1 hp).1 b (by simp);rw[mO,jA];by_cases hb:x<b;rw[show (decide (a<=x)&&decide (x<b))=true by simp[hx,hb],aj];refine h1 a (by simp) hx λe he=>?_;rcases aL.1 he with rfl|he;exact .inl (Int.le_refl _);right;rcases aL.1 he with rfl|he;exact hb;have:=(pairwise_cons.1 (pairwise_cons.1 hp).2).1 e he;omega;rw[show (decide (a<=x)&&decide (x<b))=false by simp[hb],au];refine Jt g x l b (pairwise_cons.1 hp).2 (by omega) (λ e he hex hc=>h1 e (bQ _ he) hex λe' he'=>?_) λhall=>h2 λe he=>?_;rcases aL.1 he' with rfl|he';left;have:=(pairwise_cons.1 hp).1 e he;omega;exact hc e' he';rcases aL.1 he with rfl|he;exact hx;exact hall e he
theorem TQ(g:Int->U aJ) es (hp:es.Pairwise (· < ·)) x
 (h1:∀e∈es,e<=x->(∀ e'∈es,e'<=e\/x<e')->g e=g x) (h2:(∀ e∈es,e<=x)->g x=[]) (h3:(∀ e∈es,x<e)->g x=[]):kT (eD (λ a b=>(⟨a,b,g a⟩:bD)) es) x=g x:=by
 cases es with
 |nil=>exact(h3 (by simp)).symm
 |cons a l=>
  by_cases hx:a<=x;exact Jt g x l a hp hx h1 h2;have hall:∀e∈a::l,x<e:=by intro e he;rcases aL.1 he with rfl|he;omega;have:=(pairwise_cons.1 hp).1 e he;omega
  rw[Js g x _ hall,h3 hall]
theorem FK{l:U ax}{z:Int}:z∈gm l↔∃r∈l,z=r.x0\/z=r.x1:=by rw[gm,XV,List.mem_flatMap];simp
theorem wP l:(gm l).Pairwise (· < ·):=IW _
theorem BZ{l:U ax}{es:U Int}(hes:∀r∈l,r.x0∈es/\r.x1∈es){e x:Int}(hex:e<=x)(hc:∀e'∈es,e'<=e\/x<e'):gT l e=gT l x:=by unfold gT;congr 1;refine List.filter_congr λr hr=>?_;have⟨h0,h1⟩:=hes r hr;have:=hc _ h0;have:=hc _ h1;rw[gu,aX,aX,bq,bq,bq,bq];omega
theorem q9{l:U ax}{x:Int}(h:∀r∈l,x<r.x0\/r.x1<=x):gT l x=[]:=by unfold gT;rw[List.map_eq_nil_iff,List.filter_eq_nil_iff];intro r hr;have:=h r hr;rw[aX,bq,bq];omega
theorem qI l:qH (bC l):=FJ _ _ (wP l)
theorem wQ l x:kT (bC l) x=bW l x:=by have hes:∀r∈l,r.x0∈gm l/\r.x1∈gm l:=λr hr=>⟨FK.2 ⟨r,hr,.inl rfl⟩,FK.2 ⟨r,hr,.inr rfl⟩⟩;refine TQ (bW l) (gm l) (wP l) x (λ e _ hex hc=>?_) (λ hall=>?_) (λ hall=>?_);unfold bW;rw[BZ hes hex hc];unfold bW;rw[q9 λr hr=>.inr (hall _ (hes r hr).2)];rfl;unfold bW;rw[q9 λr hr=>.inl (hall _ (hes r hr).1)];rfl
theorem ank{c:U aJ}(h:Can c):AG c=c:=by have⟨h1,h2⟩:=Rh h.2;exact FH h1 h h2
theorem afN{l:U bD}{r:ax}:r∈yU l↔∃s∈l,∃q∈s.column,r=⟨s.x0,q.from_,s.x1,q.to⟩:=by simp[yU,tL];constructor;rintro⟨s,hs,q,hq,rfl⟩;exact⟨s,hs,q,hq,rfl⟩;rintro⟨s,hs,q,hq,rfl⟩;exact⟨s,hs,q,hq,rfl⟩
theorem TS:∀{l:U bD},Runs l->∀s∈l,s.x0<s.x1/\∀x,s.x0<=x->x<s.x1->kT l x=s.column
 |[],_,s,hs=>by simp at hs
 |t::l,h,s,hs=>by
  rcases aL.1 hs with rfl|hs;exact⟨(pO h).1,λx h1 h2=>uZ h1 h2⟩;have⟨g1,g2⟩:=TS (nY h) s hs;refine⟨g1,λx h1 h2=>?_⟩;have:t.x1<=x:=by
   by_cases hlt:x<t.x1;have hb:=mM (nY h) (b:=t.x1) (x:=x) (λ u hu=>by
    cases l with
    |nil=>cases hu
    |cons v l=>
     have:u=v:=(by simpa using hu.symm);subst this;exact h.2.1) hlt
   rw[g2 x h1 h2]at hb;have hne:s.column≠[]:=by
    have:∀{l:U bD},Runs l->∀s∈l,s.column≠[]:=by
     intro l
     induction l with
     |nil=>intro _ s hs;simp at hs
     |cons a l ih=>
      intro h s hs;rcases aL.1 hs with rfl|hs;exact(pO h).2;exact ih (nY h) s hs
    exact this (nY h) s hs
   exact absurd hb hne;omega
  rw[xI this,g2 x h1 h2]
theorem adu{S:U bD}(hS:qH S)(hc:∀x,Can (kT S x))(hb:∀x y,eR (kT S x) y=true->(0<=x/\x<1048576)/\(0<=y/\y<1048576))(hl:(iw S).length<=200):cE (iw S)=true:=by
 have hok:∀r∈iw S,d8 r=true:=by intro r hr;have⟨r1,r2⟩:=FI hS;rw[BB,afN]at hr;obtain⟨s,hs,q,hq,rfl⟩:=hr;have⟨g1,g2⟩:=TS r1 s hs;have c0:=g2 s.x0 (Int.le_refl _) g1;have c1:=g2 (s.x1-1) (by omega) (by omega);rw[r2]at c0 c1;have hcan:=hc s.x0;rw[c0]at hcan;have hq1:q.from_<q.to:=hcan.2 q hq;have b0:=hb s.x0 q.from_ (by rw[c0,uX];exact⟨q,hq,Int.le_refl _,hq1⟩);have b1:=hb (s.x1-1) (q.to-1) (by rw[c1,uX];exact⟨q,hq,by omega,by omega⟩);simp;omega
 have he:iw (bC (iw S))=iw S:=by refine LA (qI _) hS λx=>?_;rw[wQ,bW,Jr hS,ank (hc x)]
 unfold cE k7;rw[aY (all_eq_true.2 hok),aT (by omega),he,aT (by omega)];simp
theorem afO{l r:U ax}(h:k7 l=(r,0)):cE r=true/\(∀ x y,qG r x y=qG l x y)/\∀q∈l,d8 q=true:=by unfold k7 at h;split at h;rename_i hall;have hv:=all_eq_true.1 hall;split at h;simp at h;split at h;simp at h;rename_i qS;injection h with h _;subst h;have tE:∀x,kT (bC l) x=bW l x:=wQ l;refine⟨adu (qI l) (λ x=>by rw[tE];exact(oO hv x).1) (λ x y hy=>?_) (by omega),λx y=>?_,hv⟩;rw[tE,(oO hv x).2]at hy;simp[qG]at hy;obtain⟨q,hq,h1,h2⟩:=hy;have:=hv q hq;simp at this;omega;rw[adt (qI l),tE,(oO hv x).2];simp at h
theorem alf{a:U ax}(h:cE a=true):k7 a=(a,0):=by unfold cE at h;rw[aX,bq,bq]at h;obtain⟨h1,h2⟩:=h;exact Prod.ext h2 h1
theorem gU{a:U ax}(h:cE a=true):(∀ r∈a,d8 r=true)/\a.length<=200/\iw (bC a)=a:=by have h:=alf h;unfold k7 at h;split at h;rename_i hall;split at h;simp at h;split at h;simp at h;rename_i qS;injection h with h _;refine⟨all_eq_true.1 hall,?_,h⟩;rw[<- h];omega;simp at h
def ext(out:U aJ)(p:aJ):U aJ:=
 match out.getLast? with
 |some q=>bif q.to==p.from_ then out.dropLast++[⟨q.from_,p.to⟩]else out++[p]
 |none=>[p]
def iS(a b:U aJ):U Int:=AW ((a++b).flatMap λs=>[s.from_,s.to])
def nZ(keep:Bool->Bool->Bool)(a b:U aJ):U aJ:=
 ((eD aJ.mk (iS a b)).filter λp=>keep (eR a p.from_) (eR b p.from_)).foldl ext []
theorem Yp o (q p:aJ):ext (o++[q]) p=bif q.to==p.from_ then o++[⟨q.from_,p.to⟩]else o++[q]++[p]:=by simp[ext]
theorem anl{out:U aJ}{p:aJ}(hc:Can out)(hp:yy p)(hb:∀o∈out,o.to<=p.from_):
 Can (ext out p)/\(∀ o∈ext out p,o.to<=p.to)/\∀y,eR (ext out p) y=(eR out y || eR [p] y):=by
 have hp':p.from_<p.to:=hp;rcases List.eq_nil_or_concat out with rfl|⟨o,q,rfl⟩;refine⟨⟨by simp[ext],by simp[ext];exact hp⟩,by simp[ext],λy=>by simp[ext,eR]⟩;rw[List.concat_eq_append]at*;obtain⟨h1,h2⟩:=hc;rw[pairwise_append]at h1;obtain⟨p1,_,p3⟩:=h1;have hq:q.from_<q.to:=h2 q (by simp);have hqp:q.to<=p.from_:=hb q (by simp);rw[Yp];cases hj:q.to==p.from_ with
 |true=>
  have hj:=eq_of_beq hj;simp only[aj];refine⟨⟨?_,?_⟩,?_,?_⟩;rw[pairwise_append];refine⟨p1,by simp,λa ha b hb'=>?_⟩;rw[bg]at hb';subst hb';exact p3 a ha q (by simp);intro a ha;rcases bF.1 ha with ha|ha;exact h2 a (by simp[ha]);rw[bg]at ha;subst ha;show q.from_<p.to;omega;intro a ha;rcases bF.1 ha with ha|ha;have:=hb a (by simp[ha]);omega;rw[bg]at ha;subst ha;exact Int.le_refl _;intro y;rw[qE,qE,Bool.or_assoc];congr 1;simp[nW,yS];rw[gu];simp;omega
 |false=>
  rw[beq_eq_false_iff_ne]at hj;simp only[au];refine⟨⟨?_,?_⟩,?_,?_⟩;rw[pairwise_append];refine⟨?_,by simp,λa ha b hb'=>?_⟩;rw[pairwise_append];exact⟨p1,by simp,p3⟩;rw[bg]at hb';subst hb';rcases bF.1 ha with ha|ha;have:=p3 a ha q (by simp);omega;rw[bg]at ha;subst ha;omega;intro a ha;rcases bF.1 ha with ha|ha;exact h2 a ha;rw[bg]at ha;subst ha;exact hp;intro a ha;rcases bF.1 ha with ha|ha;have:=hb a ha;omega;rw[bg]at ha;subst ha;exact Int.le_refl _;intro y;rw[qE]
theorem abO:∀(l out:U aJ),Can out->(∀ s∈l,yy s)->l.Pairwise (λ x y=>x.to<=y.from_)->(∀ o∈out,∀s∈l,o.to<=s.from_)->Can (l.foldl ext out)/\∀y,eR (l.foldl ext out) y=(eR out y || eR l y)
 |[],out,hc,_,_,_=>⟨hc,λy=>by simp[yS]⟩
 |s::l,out,hc,hv,hp,hb=>by rw[pairwise_cons]at hp;obtain⟨m1,m2,m3⟩:=anl hc (hv s (by simp)) (λ o ho=>hb o ho s (by simp));obtain⟨f1,f2⟩:=abO l (ext out s) m1 (λ t ht=>hv t (by simp[ht])) hp.2 (λ o ho t ht=>Int.le_trans (m2 o ho) (hp.1 t ht));refine⟨f1,λy=>?_⟩;rw[foldl_cons,f2,m3,Bool.or_assoc,<- qE];rfl
theorem Yq:∀es,es.Pairwise (· < ·)->(∀ p∈eD aJ.mk es,yy p/\p.from_∈es/\p.to∈es/\∀e∈es,e<=p.from_\/p.to<=e)/\(eD aJ.mk es).Pairwise λx y=>x.to<=y.from_
 |[],_|[_],_=>⟨by simp[eD],by simp[eD]⟩
 |a::b::l,h=>by obtain⟨h1,h2⟩:=pairwise_cons.1 h;have⟨i1,i2⟩:=Yq (b::l) h2;have hab:=h1 b (by simp);rw[mO];refine⟨λ p hp=>?_,?_⟩;rcases aL.1 hp with rfl|hp;refine⟨hab,by simp,by simp,λe he=>?_⟩;rcases aL.1 he with rfl|he;exact .inl (Int.le_refl _);right;rcases aL.1 he with rfl|he;exact Int.le_refl _;have:=(pairwise_cons.1 h2).1 e he;show b<=e;omega;have⟨g1,g2,g3,g4⟩:=i1 p hp;refine⟨g1,bQ _ g2,bQ _ g3,λe he=>?_⟩;rcases aL.1 he with rfl|he;left;have:=h1 _ g2;omega;exact g4 e he;rw[pairwise_cons];refine⟨λ p hp=>?_,i2⟩;have⟨_,g2,_,_⟩:=i1 p hp;show b<=p.from_;rcases aL.1 g2 with e|g2;omega;have:=(pairwise_cons.1 h2).1 _ g2;omega
theorem Ju:∀es y,(∃ e∈es,e<=y)->(∃ e∈es,y<e)->es.Pairwise (· < ·)->∃p∈eD aJ.mk es,p.from_<=y/\y<p.to
 |[],y,⟨e,he,_⟩,_,_=>by simp at he
 |[a],y,⟨e,he,h1⟩,⟨e',he',h2⟩,_=>by
  have:e=a:=by simpa using he
  have:e'=a:=by simpa using he'
  omega
 |a::b::l,y,h1,h2,hp=>by obtain⟨g1,g2⟩:=pairwise_cons.1 hp;rw[mO];by_cases hb:y<b;refine⟨⟨a,b⟩,by simp,?_,hb⟩;obtain⟨e,he,hey⟩:=h1;show a<=y;rcases aL.1 he with rfl|he;exact hey;have:=g1 e he;omega;obtain⟨e',he',h2'⟩:=h2;obtain⟨p,hp,q⟩:=Ju (b::l) y ⟨b,by simp,by omega⟩ ⟨e',(by rcases aL.1 he' with rfl|he';have:=g1 b (by simp);omega;exact he'),h2'⟩ g2;exact⟨p,bQ _ hp,q⟩
theorem abP{c:U aJ}{es:U Int}(hes:∀s∈c,s.from_∈es/\s.to∈es){e y:Int}(hey:e<=y)(hc:∀e'∈es,e'<=e\/y<e'):eR c e=eR c y:=by rw[gu,uX,uX];constructor;rintro⟨s,hs,h1,h2⟩;have:=hc _ (hes s hs).1;have:=hc _ (hes s hs).2;exact⟨s,hs,by omega,by omega⟩;rintro⟨s,hs,h1,h2⟩;have:=hc _ (hes s hs).1;have:=hc _ (hes s hs).2;exact⟨s,hs,by omega,by omega⟩
theorem TU{keep:Bool->Bool->Bool}(hk:keep false false=false)(a b:U aJ):Can (nZ keep a b)/\∀y,eR (nZ keep a b) y=keep (eR a y) (eR b y):=by
 have hstr:(iS a b).Pairwise (· < ·):=IW _;have hmem:∀z,z∈iS a b↔∃s,(s∈a\/s∈b)/\(z=s.from_\/z=s.to):=by intro z;rw[iS,XV,List.mem_flatMap];simp
 have ha:∀s∈a,s.from_∈iS a b/\s.to∈iS a b:=λs hs=>⟨(hmem _).2 ⟨s,.inl hs,.inl rfl⟩,(hmem _).2 ⟨s,.inl hs,.inr rfl⟩⟩;have hb:∀s∈b,s.from_∈iS a b/\s.to∈iS a b:=λs hs=>⟨(hmem _).2 ⟨s,.inr hs,.inl rfl⟩,(hmem _).2 ⟨s,.inr hs,.inr rfl⟩⟩;have⟨p1,p2⟩:=Yq (iS a b) hstr;obtain⟨f1,f2⟩:=abO ((eD aJ.mk (iS a b)).filter λp=>keep (eR a p.from_) (eR b p.from_)) [] ado (λ s hs=>(p1 s (mem_filter.1 hs).1).1) (p2.filter _) (by simp);refine⟨f1,λy=>?_⟩;rw[nZ,f2,yS,Bool.false_or];by_cases hin:(∃ e∈iS a b,e<=y)/\(∃ e∈iS a b,y<e);obtain⟨p,hp,h1,h2⟩:=Ju _ y hin.1 hin.2 hstr;have⟨_,_,_,q4⟩:=p1 p hp;have hc:∀e'∈iS a b,e'<=p.from_\/y<e':=λe' he'=>by rcases q4 e' he' with h|h<;>omega
 rw[<- abP ha h1 hc,<- abP hb h1 hc,gu,uX];constructor;rintro⟨s,hs,g1,g2⟩;rw[mem_filter]at hs;have⟨_,r2,r3,r4⟩:=p1 s hs.1;have:s.from_=p.from_:=by have e1:=q4 _ r2;have e2:=r4 _ (p1 p hp).2.1;omega
 rw[<- this];exact hs.2;intro hkk;exact⟨p,mem_filter.2 ⟨hp,hkk⟩,h1,h2⟩;have out:∀c:U aJ,(∀ s∈c,s.from_∈iS a b/\s.to∈iS a b)->eR c y=false:=by
  intro c hc;cases hy:eR c y with
  |false=>rfl
  |true=>
   obtain⟨s,hs,g1,g2⟩:=(uX _ _).1 hy;exact absurd ⟨⟨_,(hc s hs).1,g1⟩,_,(hc s hs).2,g2⟩ hin
 rw[out a ha,out b hb,hk];refine out _ λs hs=>?_;obtain⟨_,r2,r3,_⟩:=p1 s (mem_filter.1 hs).1;exact⟨r2,r3⟩
def qc(keep:Bool->Bool->Bool)(a b:U ax):U bD:=
 eD (λ x x'=>(⟨x,x',nZ keep (bW a x) (bW b x)⟩:bD)) (gm (a++b))
def o9(keep:Bool->Bool->Bool)(a b:U ax):U ax×Int:=
 if cE a&&cE b then(if (iw (qc keep a b)).length>200 then([],6)else(iw (qc keep a b),0))else([],1)
theorem alg{keep:Bool->Bool->Bool}(hk:keep false false=false)(a b:U ax) x:kT (qc keep a b) x=nZ keep (bW a x) (bW b x):=by have hes:∀r∈a++b,r.x0∈gm (a++b)/\r.x1∈gm (a++b):=λr hr=>⟨FK.2 ⟨r,hr,.inl rfl⟩,FK.2 ⟨r,hr,.inr rfl⟩⟩;have ha:∀r∈a,r.x0∈gm (a++b)/\r.x1∈gm (a++b):=λr hr=>hes r (mem_append_left _ hr);have hb:∀r∈b,r.x0∈gm (a++b)/\r.x1∈gm (a++b):=λr hr=>hes r (List.mem_append_right _ hr);have hnil:nZ keep [] []=[]:=rfl;have e0:AG []=[]:=rfl;refine TQ (λ x=>nZ keep (bW a x) (bW b x)) (gm (a++b)) (wP _) x (λ e _ hex hc=>?_) (λ hall=>?_) (λ hall=>?_);unfold bW;rw[BZ ha hex hc,BZ hb hex hc];unfold bW;rw[q9 λr hr=>.inr (hall _ (ha r hr).2),q9 λr hr=>.inr (hall _ (hb r hr).2),e0,hnil];unfold bW;rw[q9 λr hr=>.inl (hall _ (ha r hr).1),q9 λr hr=>.inl (hall _ (hb r hr).1),e0,hnil]
def Yr{α:Type}(a0:U α)(a1:Int)(a2:(α×Int×Unit)->J Int):(Int×Int)->J ((Int×Int)⊕Int)
 |(v1,v2)=>(bif (decide (v1<v2))then(ck (decide (0<=1)&&decide (1<=IntKind.u64.bits)) ((bu a0 (i64.wrap ((IntKind.u64.wrap (i64.wrap (v1+v2)))/2 ^ (1:Int).toNat))).bind λx1=>(a2 (x1,a1,())).bind λr1=>(bif (decide (r1<0))then some (.inl ((i64.wrap ((i64.wrap ((IntKind.u64.wrap (i64.wrap (v1+v2)))/2 ^ (1:Int).toNat))+1)),v2))else some (.inl (v1,(i64.wrap ((IntKind.u64.wrap (i64.wrap (v1+v2)))/2 ^ (1:Int).toNat)))))))else some (.inr v1))
theorem afP{α:Type}{l:U α}{key:Int}{φ:(α×Int×Unit)->J Int}(p:α->Bool)(f:α->Int)(hφ:∀x,φ (x,key,())=some (f x))(hf:∀x,decide (f x<0)=p x)
 (hm:∀i j (hj:j<l.length) (hij:i<j),p l[j]=true->p (l[i]'(by omega))=true) (hl:l.length<1099511627776):
 ∀(m i j n:Nat),j-i<=m->i<=j->j<=l.length->(∀ k (hk:k<i) (hkl:k<l.length),p l[k]=true)->(∀ k (hk:j<=k) (hkl:k<l.length),p l[k]=false)->m<n->
 ∃w:Nat,w<=l.length/\iter (Yr l key φ) n (i,j)=some (w:Int)/\(∀ k (hk:k<w) (hkl:k<l.length),p l[k]=true)/\∀k (hk:w<=k) (hkl:k<l.length),p l[k]=false:=by
 intro m
 induction m with
 |zero=>
  intro i j n hm0 hij hjl h1 h2 hn;obtain⟨n,rfl⟩:∃q,n=q+1:=⟨n-1,by omega⟩;have:i=j:=by omega
  subst this;exact⟨i,hjl,dn (by simp[Yr]),h1,h2⟩
 |succ m ih=>
  intro i j n hm0 hij hjl h1 h2 hn;obtain⟨n,rfl⟩:∃q,n=q+1:=⟨n-1,by omega⟩;by_cases hlt:i<j;have c:decide ((i:Int)<(j:Nat))=true:=by simpa using hlt
  have c1:(decide (0<=1)&&decide (1<=IntKind.u64.bits))=true:=rfl;have e:i64.wrap ((IntKind.u64.wrap (i64.wrap ((i:Nat)+(j:Nat))))/2 ^ (1:Int).toNat)=((i+j)/2:Nat):=by
   rw[aq8 (by omega),abB (by omega),show((((i+j:Nat):Int))/2 ^ (1:Int).toNat)=((i+j)/2:Nat)by
    rw[show (1:Int).toNat=1 from rfl,Int.pow_one];omega,XR (by omega)]
  have hh:(i+j)/2<l.length:=by omega
  cases hp:p l[(i+j)/2]with
  |true=>
   have s:Yr l key φ (i,j)=some (.inl (((i+j)/2+1:Nat),j)):=(by simp only[Yr,c,aj,c1,e,bB hh,ai,hφ,hf,hp];rw[aO (by omega)]);rw[dV s];refine ih _ _ n (by omega) (by omega) hjl (λ k hk hkl=>?_) h2 (by omega);by_cases hk2:k<(i+j)/2;exact hm k _ hh hk2 hp;have:k=(i+j)/2:=(by omega);subst this;exact hp
  |false=>
   have s:Yr l key φ (i,j)=some (.inl (i,((i+j)/2:Nat))):=(by simp only[Yr,c,aj,c1,e,bB hh,ai,hφ,hf,hp,au]);rw[dV s];refine ih _ _ n (by omega) (by omega) (by omega) h1 (λ k hk hkl=>?_) (by omega);by_cases hk2:(i+j)/2<k;cases hpk:p l[k]with
   |false=>rfl
   |true=>have:=hm _ k hkl hk2 hpk;rw[hp]at this;cases this
   have:k=(i+j)/2:=(by omega);subst this;exact hp
  have:i=j:=by omega
  subst this;exact⟨i,hjl,dn (by simp[Yr]),h1,h2⟩
theorem anm l key (φ:(bD×Int×Unit)->J Int):mh l key φ=Yr l key φ:=by funext ⟨a,b⟩;rfl
theorem aoP l key (φ:(aJ×Int×Unit)->J Int):nH l key φ=Yr l key φ:=by funext ⟨a,b⟩;rfl
theorem Yt:∀{l:U bD},qH l->l.Pairwise (λ s t=>s.x1<=t.x0)/\∀s∈l,s.x0<s.x1
 |[],_=>⟨List.Pairwise.nil,by simp⟩
 |[s],h=>⟨by simp,λt ht=>by have:t=s:=by simpa using ht
                            subst this;exact h⟩
 |s::t::l,h=>by obtain⟨h1,h2,h3⟩:=h;have⟨p1,p2⟩:=Yt h3;refine⟨?_,?_⟩;rw[pairwise_cons];refine⟨λ u hu=>?_,p1⟩;rcases aL.1 hu with rfl|hu;omega;have:=(pairwise_cons.1 p1).1 u hu;have:=p2 t (by simp);omega;intro u hu;rcases aL.1 hu with rfl|hu;exact h1;exact p2 u hu
theorem Mj{x:Int}:∀{l:U bD},(∀ s∈l,¬(s.x0<=x/\x<s.x1))->kT l x=[]
 |[],_=>rfl
 |s::l,h=>by have:=h s (by simp);rw[jA,show(decide (s.x0<=x)&&decide (x<s.x1))=false by rw[Bool.and_eq_false_iff,cB,cB];omega,au];exact Mj λt ht=>h t (by simp[ht])
theorem abQ{x:Int}:∀{l:U bD}{w:Nat}(hw:w<l.length),(∀ k (hk:k<w),¬((l[k]'(by omega)).x0<=x/\x<(l[k]'(by omega)).x1))->l[w].x0<=x->x<l[w].x1->kT l x=l[w].column
 |[],w,hw,_,_,_=>by simp at hw
 |s::l,0,hw,_,h0,h1=>uZ h0 h1
 |s::l,w+1,hw,hk,h0,h1=>by have hs:=hk 0 (by omega);simp at hs;rw[jA,show(decide (s.x0<=x)&&decide (x<s.x1))=false by rw[Bool.and_eq_false_iff,cB,cB];omega,au];exact abQ (by simpa using hw) (λ k hk'=>by have:=hk (k+1) (by omega);simpa using this) h0 h1
theorem afQ{l:U bD}{x:Int}(h:qH l)(hl:l.length<1099511627776)(hn:l.length<n):Yh n l x=some (kT l x):=by
 have⟨a1,a2⟩:=Yt h;rw[List.pairwise_iff_getElem]at a1
 have run:=afP (l:=l) (key:=x) (φ:=λ(y1:bD×Int×Unit)=>xC y1.1 y1.2.1) (λ s=>decide (s.x1<=x)) (λ s=>if s.x1<=x then -1 else 1)
  (λ s=>by show xC s x=_;unfold xC;by_cases c:s.x1<=x<;>simp[c]) (λ s=>by by_cases c:s.x1<=x<;>simp[c])
  (λ i j hj hij hp=>by rw[bq]at hp ⊢;have:=a1 i j (by omega) hj hij;have:=a2 l[j] (getElem_mem _);omega) hl l.length 0 l.length n (by omega) (by omega) (aB _) (λ k hk=>by omega) (λ k hk hkl=>by omega) hn
 obtain⟨w,hw,e,h1,h2⟩:=run;unfold Yh jJ;rw[anm];have e':iter (Yr l x λ(y1:bD×Int×Unit)=>xC y1.1 y1.2.1) n (0,(l.length:Nat))=some (w:Int):=e;rw[e'];simp only[ai];have ao:∀b:Int,∃bb,((bif (decide (w<(l.length:Int)))then(bu l w).bind λx2=>(xC x2 x).bind λr2=>some (w,(r2==b))else some (w,false)):J (Int×Bool))=some ((w:Int),bb):=by
  intro b;by_cases c:w<l.length;have d:decide ((w:Int)<l.length)=true:=by simpa using c
  rw[d];simp only[aj];rw[bB c,ai];unfold xC;cases decide (l[w].x1<=x)<;>exact⟨_,rfl⟩;have d:decide ((w:Int)<l.length)=false:=by simp;omega
  rw[d];exact⟨_,rfl⟩
 have⟨bb,hbb⟩:=ao 0;rw[hbb,ai];simp only[];by_cases c:w<l.length;have d:decide ((w:Int)<l.length)=true:=by simpa using c
 simp only[d,aj,bB c,ai];have hx1:=h2 w (aB _) c;rw[cB]at hx1;by_cases c2:l[w].x0<=x;simp[c2];rw[abQ c (λ k hk hh=>?_) c2 (by omega)];have:=h1 k hk (by omega);rw[bq]at this;omega;simp[c2];rw[Mj λs hs hh=>?_];obtain⟨k,hk,rfl⟩:=mem_iff_getElem.1 hs;rcases Nat.lt_trichotomy k w with D3|rfl|D3;have:=h1 k D3 hk;rw[bq]at this;omega;omega;have:=a1 w k c hk D3;have:=a2 l[w] (getElem_mem _);omega;have d:decide ((w:Int)<l.length)=false:=by simp;omega
 simp only[d,au,ai];rw[Mj λs hs hh=>?_];obtain⟨k,hk,rfl⟩:=mem_iff_getElem.1 hs;have:=h1 k (by omega) hk;rw[bq]at this;omega
theorem OV{l:U aJ}{y:Int}(h:Can l)(hl:l.length<1099511627776)(hn:l.length<n):Dx n l y=some (eR l y):=by
 obtain⟨a1,a2⟩:=h;rw[List.pairwise_iff_getElem]at a1
 have run:=afP (l:=l) (key:=y) (φ:=λ(y1:aJ×Int×Unit)=>mq y1.1 y1.2.1) (λ s=>decide (s.to<=y)) (λ s=>if s.to<=y then -1 else 1)
  (λ s=>by show mq s y=_;unfold mq;by_cases c:s.to<=y<;>simp[c]) (λ s=>by by_cases c:s.to<=y<;>simp[c])
  (λ i j hj hij hp=>by rw[bq]at hp ⊢;have:=a1 i j (by omega) hj hij;have:l[j].from_<l[j].to:=a2 l[j] (getElem_mem _);omega) hl l.length 0 l.length n (by omega) (by omega) (aB _) (λ k hk=>by omega) (λ k hk hkl=>by omega) hn
 obtain⟨w,hw,e,h1,h2⟩:=run;unfold Dx jU;rw[aoP];have e':iter (Yr l y λ(y1:aJ×Int×Unit)=>mq y1.1 y1.2.1) n (0,(l.length:Nat))=some (w:Int):=e;rw[e'];simp only[ai];have ao:∀b:Int,∃bb,((bif (decide (w<(l.length:Int)))then(bu l w).bind λx2=>(mq x2 y).bind λr2=>some (w,(r2==b))else some (w,false)):J (Int×Bool))=some ((w:Int),bb):=by
  intro b;by_cases c:w<l.length;have d:decide ((w:Int)<l.length)=true:=by simpa using c
  rw[d];simp only[aj];rw[bB c,ai];unfold mq;cases decide (l[w].to<=y)<;>exact⟨_,rfl⟩;have d:decide ((w:Int)<l.length)=false:=by simp;omega
  rw[d];exact⟨_,rfl⟩
 have⟨bb,hbb⟩:=ao 0;rw[hbb,ai];simp only[];by_cases c:w<l.length;have d:decide ((w:Int)<l.length)=true:=by simpa using c
 simp only[d,aj,bB c,ai];have hx1:=h2 w (aB _) c;rw[cB]at hx1;congr 1;rw[gu,bq,uX];constructor;exact λhf=>⟨l[w],getElem_mem _,hf,by omega⟩;rintro⟨s,hs,g1,g2⟩;obtain⟨k,hk,rfl⟩:=mem_iff_getElem.1 hs;rcases Nat.lt_trichotomy k w with D3|rfl|D3;have:=h1 k D3 hk;rw[bq]at this;omega;exact g1;have:=a1 w k c hk D3;omega;have d:decide ((w:Int)<l.length)=false:=by simp;omega
 simp only[d,au];congr 1;symm;cases hh:eR l y with
 |false=>rfl
 |true=>
  obtain⟨s,hs,g1,g2⟩:=(uX _ _).1 hh;obtain⟨k,hk,rfl⟩:=mem_iff_getElem.1 hs;have:=h1 k (by omega) hk;rw[bq]at this;omega
theorem OW{l:U (List aJ)}(hf:l.flatten.length<1099511627776)(hl:l.length<1099511627776)(hn:l.length<n):zI n l=some l.flatten:=NW (aJ.mk 0 0) (b:=16) hf (by omega) hl hn
theorem OX(l:U aJ):(l.flatMap λr=>[r.from_,r.to]).length=2*l.length:=by
 induction l with
 |nil=>rfl
 |cons x l ih=>simp[ih];omega
theorem Ux{l:U aJ}(hl:l.length<10995116277)(hn:l.length<n):iter (xD l) n (0,[])=some (l.flatMap λr=>[r.from_,r.to]):=by
 have:=gD (l:=l) (step:=xD l) (λ i s=>(i,s)) (λ r s=>s++[r.from_,r.to]) (λ s=>s) (λ i s=>s.length<=2*i)
  (λ i hi s hs=>?_) (λ s hs=>by simp[xD]) n hn [] (aB _)
 rw[ky]at this;rw[this];have gen:∀(ys:U aJ) s,ys.foldl (λ s r=>s++[r.from_,r.to]) s=s++ys.flatMap λr=>[r.from_,r.to]:=by
  intro ys
  induction ys with
  |nil=>intro s;simp
  |cons y ys ih=>intro s;simp[ih]
 congr 1;simpa using gen l [];have hi':decide ((i:Int)<(l.length:Nat))=true:=by simpa using hi
 have ap:bR s.length s.length (sub ([l[i].from_,l[i].to]:U Int) 0 2).length 2 8=true:=dS (n:=2) (by omega) (by simp[maxLen];omega);simp only[xD,hi',aj,aU hi,bM hi,ai,ap,fI,aK];refine⟨?_,by simp;omega⟩;rw[aO (by omega)];rfl
theorem Yu{α β:Type}(p:α->Bool)(f:β->α->β):∀(l:U α)(s:β),(l.filter p).foldl f s=l.foldl (λ s x=>bif p x then f s x else s) s
 |[],s=>rfl
 |x::l,s=>by
  rw[List.filter_cons,foldl_cons];cases h:p x with
  |true|false=>simp;exact Yu p f l _
theorem Yv out (p:aJ):(ext out p).length<=out.length+1:=by
 unfold ext;cases out.getLast? with
 |none=>simp
 |some q=>simp;cases q.to==p.from_<;>simp<;>omega
theorem Yw(a b:U aJ):(iS a b).length<=2*(a.length+b.length):=by have h:=o8 (kR (λ a b=>decide (a<b)) ((a++b).flatMap λr=>[r.from_,r.to]));rw[dQ,OX,dZ]at h;exact h
theorem aah(keep:Bool->Bool->Bool)(a b:U aJ):(nZ keep a b).length<=2*(a.length+b.length):=by
 have gen:∀(ys out:U aJ),(ys.foldl ext out).length<=out.length+ys.length:=by
  intro ys
  induction ys with
  |nil=>intro out;simp
  |cons y ys ih=>
   intro out;simp;have:=ih (ext out y);have:=Yv out y;omega
 have h:=gen ((eD aJ.mk (iS a b)).filter λp=>keep (eR a p.from_) (eR b p.from_)) [];have h2:=length_filter_le (λ p=>keep (eR a p.from_) (eR b p.from_)) (eD aJ.mk (iS a b));have h3:=(qF aJ.mk (iS a b)).1;have h4:=Yw a b;simp at h;unfold nZ;omega
theorem afR{keep:Bool->Bool->Bool}{φ:(Bool×Bool×Unit)->J Bool}(hφ:∀p q,φ (p,q,())=some (keep p q)){a b:U aJ}(ha:Can a)(hb:Can b)(hl:a.length+b.length<1099511627)(hn:2*(a.length+b.length)+2<n):Je n a b φ=some (nZ keep a b):=by
 have fl:[a,b].flatten=a++b:=by simp
 have s2:(sub ([a,b]:U (List aJ)) 0 2)=[a,b]:=rfl;have q2:aE ([a,b]:U (List aJ)).length 2=true:=rfl;have hys:=Yw a b;have hfl:((a++b).flatMap λr=>[r.from_,r.to]).length=2*(a.length+b.length):=by rw[OX,dZ]
 unfold Je;rw[s2,q2];simp only[aj];rw[OW (by rw[fl,dZ];omega) (by simp) (by simp;omega),fl];simp only[ai,length_nil,aK,aj,Ux (l:=a++b) (n:=n) (by rw[dZ];omega) (by rw[dZ];omega)];rw[nV (by rw[hfl];omega) (by rw[hfl];omega)];simp only[ai,dQ,aK,aj];rw[qb (by rw[dQ,hfl];omega) (by rw[dQ,hfl];omega)];simp only[ai];have hE:jg (kR pb ((a++b).flatMap λr=>[r.from_,r.to]))=iS a b:=rfl;rw[hE];have⟨p1,p2⟩:=qF aJ.mk (iS a b);have key:iter (xE n a b φ ((),iS a b)) n ((1:Int),([]:U aJ))=some (nZ keep a b):=by
  have:=gD (l:=eD aJ.mk (iS a b)) (step:=xE n a b φ ((),iS a b)) (λ i (s:List aJ)=>(((i+1:Nat):Int),s)) (λ p s=>bif keep (eR a p.from_) (eR b p.from_)then ext s p else s) (λ s=>s) (λ i s=>s.length<=i)
   (λ i hi s hs=>?_) (λ s hs=>?_) n (by omega) [] (aB _)
  rw[show ((0+1:Nat):Int)=1 from rfl]at this;rw[this,nZ,Yu];have hi2:i+1<(iS a b).length:=by omega
  have hi1:i<(iS a b).length:=by omega
  have d:decide (((i+1:Nat):Int)<(((iS a b).length:Nat):Int))=true:=by simp;omega
  have wp:i64.wrap ((i+1:Nat)-1)=(i:Nat):=by rw[jq (by omega) (by omega)];rfl
  have pe:(eD aJ.mk (iS a b))[i]=aJ.mk (iS a b)[i] (iS a b)[i+1]:=p2 i hi2 hi;rw[pe];have lx:=Yv s (aJ.mk (iS a b)[i] (iS a b)[i+1]);have ap:bR s.length s.length (sub ([(aJ.mk (iS a b)[i] (iS a b)[i+1])]:U aJ) 0 1).length 1 16=true:=dS (n:=1) (by omega) (by simp[maxLen];omega);have sb:(sub ([(aJ.mk (iS a b)[i] (iS a b)[i+1])]:U aJ) 0 1)=[aJ.mk (iS a b)[i] (iS a b)[i+1]]:=rfl;refine⟨?_,by cases keep (eR a (iS a b)[i]) (eR b (iS a b)[i])<;>simp<;>omega⟩;simp only[xE,d,aj,wp,aU hi1,bM hi1,ai,OV (n:=n) ha (show a.length<1099511627776 by omega) (show a.length<n by omega),OV (n:=n) hb (show b.length<1099511627776 by omega) (show b.length<n by omega),hφ];cases hk:keep (eR a (iS a b)[i]) (eR b (iS a b)[i])with
  |false=>
   simp only[Bool.not_false,aj,aK,ai,au];rw[aO (by omega)]
  |true=>
   simp only[Bool.not_true,au,aj];rcases List.eq_nil_or_concat s with rfl|⟨s0,q,L4⟩;have d0:decide ((([]:U aJ).length:Nat)>0)=false:=(by simp);simp only[d0,au,ai,aU hi2,bM hi2,aj,ap,fI,aK];rw[aO (by omega)];rfl;rw[List.concat_eq_append]at L4;subst L4;have d0:decide (((((s0++[q]).length:Nat):Int))>0)=true:=(by simp<;>omega);have DB:(s0++[q]).length=s0.length+1:=(by simp);have wq:i64.wrap (((s0++[q]).length:Nat)-1)=(s0.length:Nat):=(by rw[jq (by simp) (by omega),DB];rfl);have ib2:cz (s0.length:Nat) (s0++[q]).length=true:=aU (by omega);have g:bu (s0++[q]) ((0:Nat)+(s0.length:Nat))=some q:=(by rw[oC];simp);have z:(((0:Nat):Int)+(s0.length:Nat)).toNat=s0.length:=(by simp);have st:(s0++[q]).set s0.length (aJ.mk q.from_ (iS a b)[i+1])=s0++[⟨q.from_,(iS a b)[i+1]⟩]:=(by simp);simp only[d0,aj,wq,ib2,g,ai,Yp];cases hj:q.to==(iS a b)[i]with
   |true=>
    simp only[aj,aU hi2,bM hi2,ai,z,st];have e:aE (s0++[q]).length (s0++[(⟨q.from_,(iS a b)[i+1]⟩:aJ)]).length=true:=(by simp);simp only[e,aj,ai,aK];rw[aO (by omega)]
   |false=>
    rw[sb]at ap;simp only[au,aU hi2,bM hi2,ai,aj,sb,ap,fI,aK];rw[aO (by omega)]
  have d:decide ((((eD aJ.mk (iS a b)).length+1:Nat):Int)<((iS a b).length:Nat))=false:=by simp;omega
  simp only[xE,d,au,aK,aj]
 rw[key];simp
theorem DK(keep:Bool->Bool->Bool)(a b:U ax):qc keep a b=(bC (a++b)).map λs=>⟨s.x0,s.x1,nZ keep (bW a s.x0) (bW b s.x0)⟩:=by
 have gen:∀es:U Int,eD (λ x x'=>(⟨x,x',nZ keep (bW a x) (bW b x)⟩:bD)) es=(eD (λ x x'=>(⟨x,x',bW (a++b) x⟩:bD)) es).map λs=>⟨s.x0,s.x1,nZ keep (bW a s.x0) (bW b s.x0)⟩:=by
  intro es
  match es with
  |[]|[_]=>rfl
  |x::y::l=>
   rw[mO,mO,bK];congr 1;have:∀es:U Int,eD (λ x x'=>(⟨x,x',nZ keep (bW a x) (bW b x)⟩:bD)) es=(eD (λ x x'=>(⟨x,x',bW (a++b) x⟩:bD)) es).map λs=>⟨s.x0,s.x1,nZ keep (bW a s.x0) (bW b s.x0)⟩:=by
    intro es
    induction es with
    |nil=>rfl
    |cons x es ih=>
     cases es with
     |nil=>rfl
     |cons y es=>rw[mO,mO,bK,ih]
   exact this (y::l)
 exact gen (gm (a++b))
theorem LB{keep:Bool->Bool->Bool}{φ:(Bool×Bool×Unit)->J Bool}(hφ:∀p q,φ (p,q,())=some (keep p q)){a b:U ax}(ha:a.length<1099511627776)(hb:b.length<1099511627776)(hna:a.length<n)(hnb:b.length<n)(hn:1000<=n):zJ n a b φ=some (o9 keep a b):=by
 unfold zJ o9;rw[mK ha hna hn,ai];cases hra:cE a with
 |false=>rfl
 |true=>
  rw[mK hb hnb hn];simp;cases hrb:cE b with
  |false=>rfl
  |true=>
   have⟨a1,a2,_⟩:=gU hra;have⟨b1,b2,_⟩:=gU hrb;have fa:[a].flatten=a:=(by simp);have fb:[b].flatten=b:=(by simp);have fab:[a,b].flatten=a++b:=(by simp);have hab:∀r∈a++b,d8 r=true:=λr hr=>(by rcases bF.1 hr with hr|hr;exact a1 r hr;exact b1 r hr);have sa:pJ n [a]=some (bC a):=by
    have:=yT (n:=n) (ls:=[a]) (by rw[fa];exact a1) (by rw[fa];omega) (by simp) (by rw[fa];omega) (by simp;omega)
    rwa [fa]at this
   have sb:pJ n [b]=some (bC b):=by
    have:=yT (n:=n) (ls:=[b]) (by rw[fb];exact b1) (by rw[fb];omega) (by simp) (by rw[fb];omega) (by simp;omega)
    rwa [fb]at this
   have lab:(a++b).length=a.length+b.length:=dZ;have sab:pJ n [a,b]=some (bC (a++b)):=by
    have:=yT (n:=n) (ls:=[a,b]) (by rw[fab];exact hab) (by rw[fab,lab];omega) (by simp) (by rw[fab,lab];omega) (by simp;omega)
    rwa [fab]at this
   have e1:(sub ([a]:U (List ax)) 0 1)=[a]:=rfl;have e2:(sub ([b]:U (List ax)) 0 1)=[b]:=rfl;have e3:(sub ([a,b]:U (List ax)) 0 2)=[a,b]:=rfl;have q1:aE ([a]:U (List ax)).length 1=true:=rfl;have q2:aE ([b]:U (List ax)).length 1=true:=rfl;have q3:aE ([a,b]:U (List ax)).length 2=true:=rfl;have la:=uY a;have lb:=uY b;have lS:=uY (a++b);rw[lab]at lS;have mc:∀x,(bW a x).length<=200/\(bW b x).length<=200:=λx=>⟨Nat.le_trans (zO a x) a2,Nat.le_trans (zO b x) b2⟩;have lm:∀x,(nZ keep (bW a x) (bW b x)).length<=800:=λx=>(by have:=aah keep (bW a x) (bW b x);have:=mc x;omega);have key:iter (rT n φ (bC a) (bC b) (bC (a++b))) n ((0:Int),bC (a++b))=some (qc keep a b):=by
    have:=jD (step:=rT n φ (bC a) (bC b) (bC (a++b))) (λ i=>((i:Int),(qc keep a b).take i++(bC (a++b)).drop i)) (bC (a++b)).length (qc keep a b) (λ i hi=>?_) ?_ n (by omega);simpa using this;have d:decide ((i:Int)<(((bC (a++b)).length:Nat):Int))=true:=(by simpa using hi);have lc:(qc keep a b).length=(bC (a++b)).length:=(by rw[DK,length_map]);have lt:((qc keep a b).take i).length=i:=(by rw[length_take];omega);have hd:(bC (a++b)).drop i=(bC (a++b))[i]::(bC (a++b)).drop (i+1):=List.drop_eq_getElem_cons hi;have g:bu ((qc keep a b).take i++(bC (a++b)).drop i) (((0:Nat):Int)+(i:Nat))=some (bC (a++b))[i]:=(by rw[oC,pX (by omega),lt,hd];simp);have st:∀s:bD,((qc keep a b).take i++(bC (a++b)).drop i).set i s=(qc keep a b).take i++s::(bC (a++b)).drop (i+1):=(by intro s;rw[List.set_append_right _ _ (by omega),lt,hd,Nat.sub_self];rfl);have z:(((0:Nat):Int)+(i:Nat)).toNat=i:=(by simp);have tk:(qc keep a b).take (i+1)=(qc keep a b).take i++[⟨(bC (a++b))[i].x0,(bC (a++b))[i].x1,nZ keep (bW a (bC (a++b))[i].x0) (bW b (bC (a++b))[i].x0)⟩]:=(by rw[iF (by omega)];congr 2;simp[DK]);have hm:=mc (bC (a++b))[i].x0;have mg:Je n (bW a (bC (a++b))[i].x0) (bW b (bC (a++b))[i].x0) φ=some (nZ keep (bW a (bC (a++b))[i].x0) (bW b (bC (a++b))[i].x0)):=
     afR hφ (oO a1 _).1 (oO b1 _).1 (by omega) (by omega)
    have at1:Yh n (bC a) (bC (a++b))[i].x0=some (bW a (bC (a++b))[i].x0):=(by rw[afQ (qI a) (by omega) (by omega),wQ]);have at2:Yh n (bC b) (bC (a++b))[i].x0=some (bW b (bC (a++b))[i].x0):=(by rw[afQ (qI b) (by omega) (by omega),wQ]);simp only[rT,d,aj,aU hi,g,ai,fJ,at1,at2,mg,aK,z,st];rw[aO (by omega),tk,aV];rfl;have lc:(qc keep a b).length=(bC (a++b)).length:=(by rw[DK,length_map]);have d:decide (((bC (a++b)).length:Nat)<((bC (a++b)).length:Nat))=false:=(by simp);simp[rT,d,au,List.drop_length,List.append_nil];rw[take_of_length_le (by omega)]
   have lc:(qc keep a b).length=(bC (a++b)).length:=(by rw[DK,length_map]);have cc:∀s∈qc keep a b,s.column.length<=800:=(by intro s hs;rw[DK,mem_map]at hs;obtain⟨t,_,rfl⟩:=hs;exact lm _);have sl:sub (qc keep a b) 0 (bC (a++b)).length=qc keep a b:=(by rw[<- lc,fJ]);simp[Bool.not_true,au,e1,e2,e3,q1,q2,q3,aj,sa,sb,sab,ai,fJ,aK,key,sl,lc];rw[TK (b:=800) (by omega) (by omega) cc (by omega) (by omega)];simp[ai,zH,if_true];by_cases qS:(iw (qc keep a b)).length>200;have:decide (((iw (qc keep a b)).length:Int)>200)=true:=(by simp;omega);simp[this,aj,ai,qS,if_true];have:decide (((iw (qc keep a b)).length:Int)>200)=false:=(by simp;omega);simp[this,au,ai,qS,if_false]
theorem adv{a b:U ax}(ha:a.length<1099511627776)(hb:b.length<1099511627776)(hna:a.length<n)(hnb:b.length<n)(hn:1000<=n):Kr n a b=some (o9 (λ p q=>p&&q) a b):=by unfold Kr;rw[LB (keep:=λp q=>p&&q) (λ p q=>by show yJ p q=_;unfold yJ;cases p<;>rfl) ha hb hna hnb hn];rfl
theorem afS{a b:U ax}(ha:a.length<1099511627776)(hb:b.length<1099511627776)(hna:a.length<n)(hnb:b.length<n)(hn:1000<=n):Jk n a b=some (o9 (λ p q=>p&&!q) a b):=by unfold Jk;rw[LB (keep:=λp q=>p&&!q) (λ p q=>by show Bz p q=_;unfold Bz;cases p<;>rfl) ha hb hna hnb hn];rfl
theorem adw{keep:Bool->Bool->Bool}(a b:U ax):(o9 keep a b).1.length<=200:=by unfold o9;split;split;simp;show(iw _).length<=200;omega;simp
def lI(r:ax):Int:=(r.x1-r.x0)*(r.y1-r.y0)
def Mk(l:U ax):Int:=(l.map lI).sum
def OY(r:ax)(x y:Int):Bool:=(decide (r.x0<=x)&&decide (x<r.x1))&&(decide (r.y0<=y)&&decide (y<r.y1))
theorem BD{r:ax}(h:d8 r=true):0<=lI r/\lI r<=1099511627776:=by simp at h;unfold lI;refine⟨Int.mul_nonneg (by omega) (by omega),?_⟩;have:=Int.mul_le_mul (show r.x1-r.x0<=1048576 by omega) (show r.y1-r.y0<=1048576 by omega) (by omega) (by omega);omega
theorem Yx:∀{l:U ax},(∀ r∈l,d8 r=true)->0<=Mk l/\Mk l<=1099511627776*l.length
 |[],_=>by simp[Mk]
 |r::l,h=>by
  have h1:=BD (h r mem_cons_self);have h2:=Yx (l:=l) λq hq=>h q (bQ _ hq);have e:Mk (r::l)=lI r+Mk l:=rfl;rw[e,gB]
  push_cast
  omega
theorem Jv{l:U ax}{φ:(ax×Unit)->J Bool}(p:ax->Bool)(h:∀x∈l,φ (x,())=some (p x))(hl:l.length<1099511627776)(hn:l.length<n):uU n l φ=some (BQ p l):=jd p h hl hn
theorem uf{l:U ax}{φ:(ax×Unit)->J Bool}(p:ax->Bool)(h:∀x∈l,φ (x,())=some (p x))(hl:l.length<1099511627776)(hn:l.length<n):jL n l φ=some (l.any p):=by unfold jL;rw[Jv p h hl hn,ai,yE]
theorem abR:∀(l:U Int) x,(l++[x]).sum=l.sum+x
 |[],x=>by simp
 |a::l,x=>by rw[List.cons_append,List.sum_cons,List.sum_cons,abR l x];omega
theorem Rp{r:ax}(h:d8 r=true):uM r=some (lI r):=by have hb:=BD h;unfold uM zk;rw[jy,h];simp;simp at h;unfold lI at*;rw[aQ (x:=r.x1-r.x0),aQ (x:=r.y1-r.y0),aQ (by omega) (by omega)]
theorem Yy{a:U ax}(ha:a.length<=900)(hn:1000<=n):Oz n a=some (bif cE a then Mk a else 0):=by
 unfold Oz;rw[mK (by omega) (by omega) hn];simp;cases hr:cE a with
 |false=>rfl
 |true=>
  have ok:=(gU hr).1;have:=jD (step:=Fj a) (λ i=>(Mk (a.take i),(i:Nat))) a.length (Mk a) (λ i hi=>?_) ?_ n (by omega);have e:Mk (a.take 0)=0:=rfl;rw[e,ky]at this;simp[this];have c:decide ((i:Int)<a.length)=true:=by simpa using hi
  have h1:=Yx (l:=a.take i) λr hr=>ok r (List.mem_of_mem_take hr);rw[length_take]at h1;have h2:=BD (ok _ (getElem_mem hi));have e:Mk (a.take (i+1))=Mk (a.take i)+lI a[i]:=by rw[iF hi];unfold Mk;rw[map_append];exact abR _ _
  simp only[Fj,c,aj,bB hi,ai,Rp (ok _ (getElem_mem hi))];rw[aO (by omega),aQ (by omega) (by omega),e];simp[Fj]
theorem Rq{α:Type}(p:α->Bool) l:(match oU p l with|some _=>true|none=>false)=l.any p:=by have:=qP p l;rw[<- this];cases oU p l<;>rfl
def VV(p q:ax):Bool:=decide (max p.x0 q.x0<min p.x1 q.x1)&&decide (max p.y0 q.y0<min p.y1 q.y1)
def LC(a b:U ax):Bool:=a.any λp=>b.any λq=>VV p q
theorem aie{a b:U ax}(ha:a.length<1099511627776)(hb:b.length<1099511627776)(hna:a.length<n)(hnb:b.length<n):VJ n a b=some (LC a b):=by
 unfold VJ LC;rw[uf (λ p=>b.any λq=>VV p q) (λ p _=>?_) ha hna];rfl;show Fx n p b=_;unfold Fx;rw[uf (λ q=>VV p q) (λ q _=>?_) hb hnb];rfl;show wM q p=_;unfold wM VV;have e1:max q.x0 p.x0=max p.x0 q.x0:=by omega
 have e2:min q.x1 p.x1=min p.x1 q.x1:=by omega
 have e3:max q.y0 p.y0=max p.y0 q.y0:=by omega
 have e4:min q.y1 p.y1=min p.y1 q.y1:=by omega
 first
  |(cases decide (max p.x0 q.x0<min p.x1 q.x1)<;>rfl)
  |(rw [e1,e2,e3,e4];cases decide (max p.x0 q.x0<min p.x1 q.x1)<;>rfl)
theorem Yz{a b:U ax}(hl:a.length<1099511627776)(hn:a.length<n):OC n a b=some (decide (a=b)):=by unfold OC;rw[DF hl hn];rfl
abbrev yf(a b:ax):Bool:=decide (a.y0<b.y0)
theorem aj4:Go.Sort.SWO yf where
 irrefl x:=by simp[yf]
 trans x y z h1 h2:=by simp only[yf,bq]at *;omega
 ntrans x y z h1 h2:=by simp only[yf,cB]at *;omega
instance:Inhabited ax:=⟨ax.mk 0 0 0 0⟩
theorem KH{l:U ax}{φ:(ax×ax×Unit)->J Int}(f:ax->ax->Int)(hφ:∀x y,φ (x,y,())=some (f x y))(hf:∀x y,decide (f x y<0)=yf x y)(hl:l.length<1099511627776)(_:l.length<n):vZ n l φ=some (qw yf l):=
 afy f hφ hf aj4 hl
structure arb(R:List bD):Prop where
 runs:Runs R
 len:R.length<=200
 col:∀s∈R,Can s.column/\∀q∈s.column,0<=q.from_/\q.from_<q.to/\q.to<=1048576
 xs:∀s∈R,0<=s.x0/\s.x0<s.x1/\s.x1<=1048576
 B4:(R.flatMap λs=>s.column.map (·.from_)).length<=200
theorem aif(p:Nat->Bool)(N:Nat):(oU p (List.range N)=none->(List.range N).any p=false)/\(∀ i,oU p (List.range N)=some i->(List.range N).any p=true):=by refine⟨λ h=>?_,λi h=>?_⟩;rw[<- qP,h];rfl;rw[<- qP,h];rfl
theorem Jw{W O:Type}{step:Int->J (Int⊕(W⊕O))}(N:Nat)(p:Nat->Bool)(w:W)(o:O)
 (h:∀i,i<N->step i=some (bif p i then .inr (.inr o)else .inl (i+1:Nat)))
 (hend:step N=some (.inr (.inl w))) (n:Nat) (hn:N<n):iter step n 0=some (bif (List.range N).any p then .inr o else .inl w):=by
 have:=pI (l:=List.range N) (step:=step) (λ i=>(i:Nat)) p w (λ _=>o) (λ i hi=>by rw[List.length_range]at hi;rw[List.getElem_range];exact h i hi) (by rw[List.length_range];exact hend) n (by rw[List.length_range];exact hn);rw[ky]at this;rw[this];have⟨r1,r2⟩:=aif p N;cases hf:oU p (List.range N)with
 |none=>rw[r1 hf];rfl
 |some i=>rw[r2 i hf];rfl
theorem Jy{p:U eU}(hl:p.length<=1000)(hn:2000<=n):iter (qR n p (gX p)) n 0=some (bif (List.range p.length).any (PC p)then .inr false else .inl ()):=by
 refine Jw p.length (PC p) () false (λ i hi=>?_) ?_ n (by omega);have nz:((p.length:Int) !=0)=true:=by simp;intro h;rw[h]at hi;simp at hi
 have md:(i+1)%p.length<p.length:=Nat.mod_lt _ (by omega);have w:i64.wrap (i+1)=(i+1:Nat):=aO (by omega);have g1:bu (gX p) ((0:Nat)+(i:Nat))=some (jM p i):=by rw[bM (by rw[eH];exact hi),zP]
 have g2:bu (gX p) ((0:Nat)+((i+1)%p.length:Nat))=some (jM p ((i+1)%p.length)):=by rw[bM (by rw[eH];exact md),zP]
 obtain⟨r,hr1,hr2⟩:=Mg (n:=n) (qu p 0) (qu p i) (by omega);have g3:bu p 0=some (qu p 0):=by rw[aox (by omega),<- VN]
 have g4:bu p (i:Nat)=some (qu p i):=by rw[bB hi,<- VN]
 have dz:decide ((i:Int)>0)=decide (0<i):=by rw[gu];simp
 have pt:eU.mk (jM p i).mw (jM p i).qn=qu p i:=rfl;simp only[qR,eH,dR hi,aj,aU hi,g1,g2,ai,nz,w,abN,aU md,pt,OT,nX,Rm,g3,g4,hr1,hr2,dz,Option.map_some];unfold PC;generalize VO (qu p i)=b1;generalize (((jM p i).mw==(jM p i).m9)==((jM p i).qn==(jM p i).vy))=b2;generalize (wd (jM p i)==wd (jM p ((i+1)%p.length)))=b3;generalize decide (0<i)=b4;generalize VP (qu p 0) (qu p i)=b5;cases b1<;>cases b2<;>cases b3<;>cases b4<;>cases b5<;>rfl;simp[qR,eH]
theorem Jz{p:U eU}(hl:p.length<=1000)(hn:2000<=n){i:Nat}(hi:i<p.length):
 iter (jr (gX p) (i:Nat)) n ((i+2:Nat))=some (bif (List.range p.length).any λk=>decide (i+2<=k)&&Uw p i k then .inr (.inr (.inr false))else .inl ()):=by
 have st:∀k,k<p.length->jr (gX p) (i:Nat) (k:Nat)=some (bif Uw p i k then .inr (.inr (.inr (.inr false)))else .inl (k+1:Nat)):=by
  intro k hk;have g1:bu (gX p) ((0:Nat)+(i:Nat))=some (jM p i):=by rw[bM (by rw[eH];exact hi),zP]
  have g2:bu (gX p) ((0:Nat)+(k:Nat))=some (jM p k):=by rw[bM (by rw[eH];exact hk),zP]
  have w:i64.wrap (i64.wrap ((i:Nat)+(p.length:Nat))-(k:Nat))=(i+p.length-k:Nat):=by rw[aQ (x:=(i:Nat)+(p.length:Nat)),aQ (by omega) (by omega)];omega
  have dz:decide (((i+p.length-k:Nat):Int)>1)=decide (i+p.length-k>1):=by rw[gu,bq,bq];omega
  simp only[jr,eH,dR hk,aj,aU hi,aU hk,g1,g2,ai,w,dz,DJ,Rm,Option.map_some,bn k];unfold Uw;cases decide (i+p.length-k>1)<;>cases V2 (jM p i) (jM p k)<;>rfl
 have main:∀m k,k+m=p.length->∀f,m<f->iter (jr (gX p) (i:Nat)) f (k:Nat)=some (bif (List.range p.length).any λj=>decide (k<=j)&&Uw p i j then .inr (.inr (.inr false))else .inl ()):=by
  intro m
  induction m with
  |zero=>
   intro k hk f hf;obtain⟨f,rfl⟩:∃g,f=g+1:=⟨f-1,by omega⟩;have:k=p.length:=(by omega);subst this;have e:((List.range p.length).any λj=>decide (p.length<=j)&&Uw p i j)=false:=(by rw[Bool.eq_false_iff];intro h;rw[any_eq_true]at h;obtain⟨j,h1,h2⟩:=h;rw[List.mem_range]at h1;simp at h2;omega);rw[e];refine dn ?_;simp[jr,eH]
  |succ m ih=>
   intro k hk f hf;obtain⟨f,rfl⟩:∃g,f=g+1:=⟨f-1,by omega⟩;have hkl:k<p.length:=(by omega);have h1:=st k hkl;cases hb:Uw p i k with
   |true=>
    rw[hb]at h1;have e:((List.range p.length).any λj=>decide (k<=j)&&Uw p i j)=true:=(by rw[any_eq_true];exact⟨k,List.mem_range.2 hkl,by simp[hb]⟩);rw[e];exact dn h1
   |false=>
    rw[hb]at h1;rw[dV h1,ih (k+1) (by omega) f (by omega)];congr 2;rw[gu,any_eq_true,any_eq_true];constructor;rintro⟨j,j1,j2⟩;simp at j2;exact⟨j,j1,by simp;exact⟨by omega,j2.2⟩⟩;rintro⟨j,j1,j2⟩;simp at j2;refine⟨j,j1,?_⟩;simp;refine⟨?_,j2.2⟩;rcases Nat.lt_or_ge k j with h|h;omega;have:j=k:=(by omega);subst this;rw[hb]at j2;simp at j2
 by_cases h2:i+2<=p.length;exact main (p.length-(i+2)) (i+2) (by omega) n (by omega);obtain⟨n,rfl⟩:∃g,n=g+1:=⟨n-1,by omega⟩;have e:((List.range p.length).any λj=>decide (i+2<=j)&&Uw p i j)=false:=by rw[Bool.eq_false_iff];intro h;rw[any_eq_true]at h;obtain⟨j,h1,h2⟩:=h;rw[List.mem_range]at h1;simp at h2;omega
 rw[e];have d:decide (((i+2:Nat):Int)<(p.length:Nat))=false:=by rw[cB];omega
 refine dn ?_;simp only[jr,eH,d,au]
theorem JA{p:U eU}(hl:p.length<=1000)(hn:2000<=n):iter (qU n (gX p)) n 0=some (bif (List.range p.length).any λi=>(List.range p.length).any λk=>decide (i+2<=k)&&Uw p i k then .inr false else .inl ()):=by
 refine Jw p.length _ () false (λ i hi=>?_) ?_ n (by omega);have w2:i64.wrap (i+2)=(i+2:Nat):=by rw[aQ (by omega) (by omega)];omega
 simp only[qU,eH,dR hi,aj,w2,Jz hl hn hi,bn i];cases (List.range p.length).any λk=>decide (i+2<=k)&&Uw p i k<;>rfl;simp[qU,eH]
theorem Rs p (hn:2000<=n):wJ n p=some (Rn p):=by
 unfold wJ Rn;by_cases h4:p.length<4;have d1:decide ((p.length:Int)<4)=true:=by simp;omega
 have d2:decide (4<=p.length)=false:=by simp;omega
 rw[d1,d2];rfl;have d1:decide ((p.length:Int)<4)=false:=by simp;omega
 have d2:decide (4<=p.length)=true:=by simp;omega
 by_cases h60:p.length>60;have d3:decide ((p.length:Int)>60)=true:=by simp;omega
 have d4:decide (p.length<=60)=false:=by simp;omega
 rw[d1,d2,d3,d4];rfl;have d3:decide ((p.length:Int)>60)=false:=by simp;omega
 have d4:decide (p.length<=60)=true:=by simp;omega
 have g:bu (gX p) ((0:Nat)+0)=some (jM p 0):=by have:=bM (l:=gX p) (i:=0) (by rw[eH];omega);rw[zP]at this;exact this
 have i0:cz 0 (gX p).length=true:=by have:=aU (i:=0) (n:=(gX p).length) (by rw[eH];omega);simpa using this
 rw[d1,d2,d3,d4];simp only[au,ai,BA (n:=n) (p:=p) (by omega) (by omega),Jy (n:=n) (p:=p) (by omega) hn,Bool.true_and];cases (List.range p.length).any (PC p)with
 |true=>rfl
 |false=>
  simp only[au,gM,JA (n:=n) (p:=p) (by omega) hn];cases (List.range p.length).any λi=>(List.range p.length).any λk=>decide (i+2<=k)&&Uw p i k with
  |true=>rfl
  |false=>
   simp only[au,gM,i0,aj,g,ai,nX];rfl
def Ca(p:U eU)(x:Int):U Int:=((gX p).filter λs=>!wd s&&(decide (min s.mw s.m9<=x)&&decide (x<max s.mw s.m9))).map (·.qn)
def Gj(x0 x1:Int):U Int->U ax
 |a::b::l=>⟨x0,a,x1,b⟩::Gj x0 x1 l
 |_=>[]
def oX(p:U eU):U Int:=AW (p.map (·.x))
def YA(p:U eU):U ax:=(eD (λ a b=>Gj a b (kR pb (Ca p a))) (oX p)).flatten
def yV(p:U eU):U ax×Int:=if Rn p=true then(if (YA p).length>200 then([],6)else(YA p,0))else([],10)
theorem aii{p:U eU}(h:Rn p=true):4<=p.length/\p.length<=60:=by unfold Rn at h;simp at h;exact⟨h.1,h.2.1⟩
theorem Gx{p:U eU}(hl:p.length<=1000)(hn:2000<=n):iter (mE p) n (0,[])=some (p.map (·.x)):=by
 have:=gD (l:=p) (step:=mE p) (λ i s=>(i,s)) (λ r s=>s++[r.x]) (λ s=>s) (λ i s=>s.length<=i)
  (λ i hi s hs=>?_) (λ s hs=>by simp[mE]) n (by omega) [] (aB _)
 rw[ky]at this;rw[this];have gen:∀(ys:U eU) s,ys.foldl (λ s r=>s++[r.x]) s=s++ys.map (·.x):=by
  intro ys
  induction ys with
  |nil=>intro s;simp
  |cons y ys ih=>intro s;rw[foldl_cons,ih];simp
 congr 1;simpa using gen p [];have ap:bR s.length s.length (sub ([(p[i]).x]:U Int) 0 1).length 1 8=true:=dS (n:=1) (by omega) (by simp[maxLen];omega);simp only[mE,dR hi,aj,bB hi,ai,ap,fI,aK];refine⟨?_,by simp;omega⟩;rw[aO (by omega)];rfl
theorem Gy{p:U eU}(hl:p.length<=1000)(hn:2000<=n) es (i:Nat) (hi:i<es.length):iter (mF ((),es) (gX p) (i:Nat)) n (0,[])=some (Ca p es[i]):=by
 have:=gD (l:=gX p) (step:=mF ((),es) (gX p) (i:Nat)) (λ i s=>(i,s)) (λ r s=>bif !wd r&&(decide (min r.mw r.m9<=es[i])&&decide (es[i] <max r.mw r.m9))then s++[r.qn]else s) (λ s=>s) (λ i s=>s.length<=i)
  (λ j hj s hs=>?_) (λ s hs=>by simp[mF]) n (by rw[eH];omega) [] (aB _)
 rw[ky]at this;rw[this];have gen:∀(ys:U j6) s,ys.foldl (λ s r=>bif !wd r&&(decide (min r.mw r.m9<=es[i])&&decide (es[i] <max r.mw r.m9))then s++[r.qn]else s) s=s++(ys.filter λs=>!wd s&&(decide (min s.mw s.m9<=es[i])&&decide (es[i] <max s.mw s.m9))).map (·.qn):=by
  intro ys
  induction ys with
  |nil=>intro s;simp
  |cons y ys ih=>
   intro s;rw[foldl_cons,ih,List.filter_cons];cases !wd y&&(decide (min y.mw y.m9<=es[i])&&decide (es[i] <max y.mw y.m9))<;>simp
 congr 1;exact gen (gX p) [];rw[eH]at hj;have g:bu (gX p) ((0:Nat)+(j:Nat))=some (gX p)[j]:=bM (by rw[eH];exact hj);have ap:bR s.length s.length (sub ([((gX p)[j]'(by rw[eH];exact hj)).qn]:U Int) 0 1).length 1 8=true:=dS (n:=1) (by omega) (by simp[maxLen];omega);generalize hr:(gX p)[j]'(by rw[eH];exact hj)=r at*;simp only[mF,eH,dR hj,aj,aU hj,g,ai,nX,aU hi,bM hi,Rm,ap,fI,aK,bn j];cases wd r<;>cases decide (min r.mw r.m9<=es[i])<;>cases decide (es[i] <max r.mw r.m9)<;>refine⟨rfl,?_⟩<;>simp<;>omega
theorem abS(x0 x1:Int):∀l:U Int,(Gj x0 x1 l).length<=l.length
 |[]|[_]=>by simp[Gj]
 |a::b::l=>by have:=abS x0 x1 l;simp[Gj];omega
theorem Gz es (i:Nat) (hi:i+1<es.length) (he:es.length<=10000) (w2 r8:U Int) (hw:w2.length=r8.length) (hr:r8.length<=1000) out (ho:out.length<=10000000) (hn:2000<=n):
 iter (jQ ((),es) (i:Nat) w2 r8) n (0,out)=some (out++Gj (es[i]'(by omega)) es[i+1] r8):=by
 have main:∀(m k:Nat) out,k+m=r8.length->out.length<=10000000+k->∀f,m<f->iter (jQ ((),es) (i:Nat) w2 r8) f ((k:Nat),out)=some (out++Gj (es[i]'(by omega)) es[i+1] (r8.drop k)):=by
  intro m
  induction m using Nat.strongRecOn with
  |ind m ih=>
   intro k out hk hko f hf;obtain⟨f,rfl⟩:∃g,f=g+1:=⟨f-1,by omega⟩;have w1:i64.wrap (k+1)=(k+1:Nat):=aO (by omega);have w3:i64.wrap (k+2)=(k+2:Nat):=(by rw[aQ (by omega) (by omega)];omega);have w4:i64.wrap (i+1)=(i+1:Nat):=aO (by omega);by_cases h2:k+1<r8.length;have d:decide (((k+1:Nat):Int)<(w2.length:Nat))=true:=(by rw[hw];exact dR h2);have ap:bR out.length out.length (sub ([(ax.mk (es[i]'(by omega)) (r8[k]'(by omega)) es[i+1] r8[k+1])]:U ax) 0 1).length 1 32=true:=dS (n:=1) (by omega) (by simp[maxLen];omega);have st:jQ ((),es) (i:Nat) w2 r8 ((k:Nat),out)=some (.inl ((k+2:Nat),out++[ax.mk (es[i]'(by omega)) (r8[k]'(by omega)) es[i+1] r8[k+1]])):=(by simp only[jQ,w1,w3,w4,d,aj,aU (show i<es.length by omega),bM (show i<es.length by omega),ai,aU (show k<w2.length by omega),bM (show k<r8.length by omega),aU hi,bM hi,aU (show k+1<w2.length by omega),bM h2,ap,fI,aK];rfl);have dr:r8.drop k=r8[k]::r8[k+1]::r8.drop (k+2):=(by rw[List.drop_eq_getElem_cons (by omega),List.drop_eq_getElem_cons h2]);rw[dV st,ih (m-2) (by omega) (k+2) _ (by omega) (by rw[dZ,length_singleton];omega) f (by omega),dr];simp[Gj];have d:decide (((k+1:Nat):Int)<(w2.length:Nat))=false:=(by rw[hw,cB];omega);have e:Gj (es[i]'(by omega)) es[i+1] (r8.drop k)=[]:=by
    have hl:(r8.drop k).length<=1:=by rw[length_drop];omega
    match r8.drop k,hl with
    |[],_|[_],_=>rfl
    |_::_::_,h=>simp at h
   rw[e,List.append_nil];refine dn ?_;simp only[jQ,w1,d,au,aK,aj]
 have:=main r8.length 0 out (by omega) (by omega) n (by omega);rw[ky,List.drop_zero]at this;exact this
theorem aoQ p:(oX p).length<=p.length:=by have h:=o8 (kR pb (p.map (·.x)));rw[dQ,length_map]at h;exact h
theorem YB p x:(Ca p x).length<=p.length:=by unfold Ca;rw[length_map,<- eH p];exact length_filter_le _ _
theorem JB{α:Type}(b:Nat):∀l:U (List α),(∀ x∈l,x.length<=b)->l.flatten.length<=l.length*b
 |[],_=>by simp
 |x::l,h=>by have h1:=JB b l λy hy=>h y (bQ _ hy);have h2:=h x mem_cons_self;rw[List.flatten_cons,dZ,gB,Nat.add_mul];omega
theorem GA{p:U eU}(hl:p.length<=1000)(hn:2000<=n):
 iter (mG n ((),oX p) (gX p)) n (0,[])=some (YA p):=by
 have hx:=aoQ p;obtain⟨p1,p2⟩:=qF (λ a b=>Gj a b (kR pb (Ca p a))) (oX p)
 let C:=eD (λ a b=>Gj a b (kR pb (Ca p a))) (oX p)
 have hC:C.length=(oX p).length-1:=p1;have cl:∀c∈C,c.length<=1000:=by intro c hc;obtain⟨i,hi,rfl⟩:=mem_iff_getElem.1 hc;have:=p2 i (by omega) hi;show(C[i]).length<=1000;rw[show C[i]=_ from this];have h1:=abS (oX p)[i] (oX p)[i+1] (kR pb (Ca p (oX p)[i]));rw[dQ]at h1;have h2:=YB p (oX p)[i];omega
 have bl:∀i,((C.take i).flatten).length<=1000*1000:=by
  intro i;have h1:=JB 1000 (C.take i) λx hx=>cl x (List.mem_of_mem_take hx);have h2:(C.take i).length<=1000:=by rw[length_take];omega
  exact Nat.le_trans h1 (Nat.mul_le_mul_right _ h2)
 have main:=jD (step:=mG n ((),oX p) (gX p)) (λ i=>((i:Nat),(C.take i).flatten)) C.length (YA p) (λ i hi=>?_) ?_ n (by omega);simpa using main;have hi2:i+1<(oX p).length:=by omega
 have hw:i64.wrap (((oX p).length:Nat)-1)=(C.length:Nat):=by rw[aQ (by omega) (by omega)];omega
 have bi:=bl i;have cr:=YB p (oX p)[i];have e:C.take (i+1)=C.take i++[Gj (oX p)[i] (oX p)[i+1] (kR pb (Ca p (oX p)[i]))]:=by rw[iF hi];congr 2;exact p2 i hi2 hi
 simp only[mG,hw,dR hi,aj,length_nil,aK,Gy hl hn (oX p) i (by omega),ai];rw[nV (by omega) (by omega)];simp;rw[Gz (oX p) i hi2 (by omega) (Ca p (oX p)[i]) (kR pb (Ca p (oX p)[i])) (by rw[dQ]) (by rw[dQ];omega) _ (by omega) hn];simp[e,bn i];have hw:i64.wrap (((oX p).length:Nat)-1)=((oX p).length:Nat)-1:=aQ (by omega) (by omega);have d:decide ((C.length:Int)<((oX p).length:Nat)-1)=false:=by rw[cB];omega
 simp[mG,hw,d];rfl
theorem OZ p (hn:2000<=n):uP n p=some (yV p):=by
 unfold uP yV;rw[Rs p hn];simp;cases hr:Rn p with
 |false=>rfl
 |true=>
  have⟨_,hl⟩:=aii hr;simp[Gx (n:=n) (p:=p) (by omega) hn];rw[nV (by rw[length_map];omega) (by rw[length_map];omega)];simp[dQ];rw[qb (by rw[dQ,length_map];omega) (by rw[dQ,length_map];omega)];simp[BA (n:=n) (p:=p) (by omega) (by omega)];have hE:jg (kR pb (p.map (·.x)))=oX p:=rfl;rw[hE,GA (by omega) hn];simp;by_cases qS:(YA p).length>200;have:decide ((((YA p).length:Nat):Int)>200)=true:=by simp;omega
  rw[this,aY qS];rfl;have:decide ((((YA p).length:Nat):Int)>200)=false:=by simp;omega
  rw[this,aT qS];rfl
theorem afT p:(yV p).1.length<=200:=by unfold yV;split;split;simp;simp;omega;simp
def aqS(a b:ax):Int:=bif(!d8 a || !d8 b)then -1 else max (max 0 (i64.wrap ((max a.x0 b.x0)-(min a.x1 b.x1)))) (i64.wrap ((max a.y0 b.y0)-(min a.y1 b.y1)))
theorem ano(a b:ax):V0 a b=some (aqS a b):=by unfold V0 aqS;rw[jy,jy];simp only[ai];cases d8 a<;>cases d8 b<;>rfl
def anp:j5:=j5.mk 0 0 [] []
def mQ(land:U j5)(id:Int):j5×Bool:=match land.find? λt=>t.id==id with
 |some t=>(t,true)
 |none=>(anp,false)
theorem Ml{α:Type}(p:α->Bool) l:(∃ (i:Nat) (h:i<l.length),oU p l=some i/\l.find? p=some l[i])\/(oU p l=none/\l.find? p=none):=by rcases EZ p l with ⟨i,hi,h1,h2,h3⟩|⟨h1,h2⟩;refine .inl ⟨i,hi,h1,?_⟩;rw[List.find?_eq_some_iff_getElem];exact⟨h2,i,hi,rfl,λj hj=>by simpa using h3 j hj⟩;refine .inr ⟨h1,?_⟩;rw[List.find?_eq_none];intro x hx;rw[h2 x hx];simp
def aqT(t:dD)(name:ByteArray):Int:=match t.rows.find? λe=>ByteArray.toList e.name==ByteArray.toList name with
 |some e=>e.n
 |none=>t.sY
theorem YC{α:Type}(p:α->Bool) l:(∃ (i:Nat) (h:i<l.length),BQ p l=i/\l.find? p=some l[i])\/(BQ p l=-1/\l.find? p=none):=by rcases Ml p l with ⟨i,hi,h1,h2⟩|⟨h1,h2⟩;exact .inl ⟨i,hi,by simp[BQ,h1],h2⟩;exact .inr ⟨by simp[BQ,h1],h2⟩
def anq:U ByteArray:=[⟨#[104,111,109,101]⟩,⟨#[115,104,111,112]⟩,⟨#[119,111,114,107]⟩,⟨#[112,97,114,107]⟩,⟨#[112,108,97,110,116]⟩,⟨#[104,97,108,108]⟩]
def nameOf(use:Int):J ByteArray:=bu anq use
theorem TW l:(AW l).length<=l.length:=by
 unfold AW;have:=o8 (kR (λ a b=>decide (a<b)) l)
 rwa [dQ]at this
theorem afU{V O:Type}{step:V->J (V⊕O)}(R:Nat->V->Prop)(N:Nat)(Q:O->Prop)(h:∀i v,i<N->R i v->∃v',step v=some (.inl v')/\R (i+1) v')(hN:∀v,R N v->∃o,step v=some (.inr o)/\Q o):
 ∀n,N<n->∀v,R 0 v->∃o,iter step n v=some o/\Q o:=by
 have main:∀k i n v,i+k=N->k<n->R i v->∃o,iter step n v=some o/\Q o:=by
  intro k
  induction k with
  |zero=>
   intro i n v hi hn hR;obtain⟨m,rfl⟩:∃m,n=m+1:=⟨n-1,by omega⟩;have:i=N:=(by omega);subst this;have⟨o,h1,h2⟩:=hN v hR;exact⟨o,dn h1,h2⟩
  |succ k ih=>
   intro i n v hi hn hR;obtain⟨m,rfl⟩:∃m,n=m+1:=⟨n-1,by omega⟩;obtain⟨v',h1,h2⟩:=h i v (by omega) hR;obtain⟨o,h3,h4⟩:=ih (i+1) m v' (by omega) (by omega) h2;exact⟨o,by rw[dV h1,h3],h4⟩
 intro n hn v hR;exact main N 0 n v (by omega) hn hR
def Cb(z:fO):U ax:=if (yV z.corners).2=0 then(yV z.corners).1 else []
theorem aij(z:fO):(Cb z).length<=200:=by unfold Cb;split;exact afT _;simp
theorem Uy(z:fO)(hn:2000<=n):yK n z=some (Cb z):=by
 unfold yK Cb;rw[OZ _ hn];simp;by_cases h:(yV z.corners).2=0;have:((yV z.corners).2 !=0)=false:=by simp[h]
 rw[this,aY h];rfl;have:((yV z.corners).2 !=0)=true:=by simp[h]
 rw[this,aT h];rfl
def vJ(a b:ax):ax:=⟨max a.x0 b.x0,max a.y0 b.y0,min a.x1 b.x1,min a.y1 b.y1⟩
theorem O3(a:ax):zk a=some (bif d8 a then(a,true)else(⟨0,0,0,0⟩,false)):=by unfold zk;rw[jy];simp[Rm]
theorem u6(a b:ax):tV a b=some (bif d8 a&&(d8 b&&d8 (vJ a b))then(vJ a b,true)else(⟨0,0,0,0⟩,false)):=by unfold tV;rw[jy,jy];simp only[ai,Rm];rw[show ax.mk (max a.x0 b.x0) (max a.y0 b.y0) (min a.x1 b.x1) (min a.y1 b.y1)=vJ a b from rfl,O3];simp only[ai];generalize d8 (vJ a b)=c;cases d8 a<;>cases d8 b<;>cases c<;>rfl
def Q1(r:ax):Int:=i64.wrap (i64.wrap (r.x1-r.x0)*i64.wrap (r.y1-r.y0))
theorem DL{r:ax}(h:d8 r=true):uM r=some (Q1 r):=by unfold uM;rw[O3,h];rfl
def YD(x:ax)(n:Int)(y:ax):Int:=bif d8 x&&(d8 y&&d8 (vJ x y))then i64.wrap (n+Q1 (vJ x y))else n
def FL(a b:U ax):Int:=a.foldl (λ n x=>b.foldl (YD x) n) 0
theorem aoR{α β:Type} c (a:α) (u v:β):(bif c then(a,u)else(a,v)).1=a:=by cases c<;>rfl
theorem JC b (x:ax) (hb:b.length<=1000) (hn:2000<=n) (m u v:Int):∃o,iter (qV n b x) n (m,0,u,v)=some o/\o.1=b.foldl (YD x) m:=by
 refine afU (λ i (w:Int×Int×Int×Int)=>w.2.1=i/\w.1=(b.take i).foldl (YD x) m) b.length (λ (o:Int×Int×Int)=>o.1=b.foldl (YD x) m) (λ i w hi hR=>?_) (λ w hR=>?_) n (by omega) _ ⟨rfl,rfl⟩;obtain⟨w1,w2,w3,w4⟩:=w;obtain⟨h1,h2⟩:=hR;simp at h1 h2;subst h1;have e:(b.take (i+1)).foldl (YD x) m=YD x w1 b[i]:=by rw[iF hi,List.foldl_append,<- h2];rfl
 simp only[qV,dR hi,aj,bB hi,ai,u6];have e0:YD x w1 b[i]=bif d8 x&&(d8 b[i]&&d8 (vJ x b[i]))then i64.wrap (w1+Q1 (vJ x b[i]))else w1:=rfl;rw[e0]at e;cases hc:d8 x&&(d8 b[i]&&d8 (vJ x b[i]))with
 |false=>
  rw[hc]at e;simp only[au,Bool.not_false,aj,ai];exact⟨_,rfl,aO (by omega),e.symm⟩
 |true=>
  rw[hc]at e;have hcc:d8 (vJ x b[i])=true:=by revert hc;generalize d8 (vJ x b[i])=c;cases c;cases d8 x<;>cases d8 b[i]<;>simp;simp
  simp only[aj,Bool.not_true,au,DL hcc,ai,jw];rw[show ∀u v:Int,sub [u,v] 0 2=[u,v]from λ_ _=>rfl,Yn _ _ (by omega)];simp only[ai,Rm];simp only[show ∀u v:Int,aE [u,v].length 2=true from λ_ _=>rfl,aj,ai];refine⟨_,rfl,bn i,?_⟩;rw[e];exact aoR _ _ _ _
 obtain⟨w1,w2,w3,w4⟩:=w;obtain⟨h1,h2⟩:=hR;simp only at h1 h2;subst h1;simp only[qV,Ym,au];exact⟨_,rfl,by rw[h2,List.take_length]⟩
theorem Rt(a b:U ax)(ha:a.length<=1000)(hb:b.length<=1000)(hn:2000<=n):∃q,wK n a b=some (FL a b,q):=by
 unfold wK;obtain⟨o,h1,h2⟩:=afU (step:=qW n a b) (λ i (w:Int×Int×Int×Int)=>w.2.1=i/\w.1=(a.take i).foldl (λ n x=>b.foldl (YD x) n) 0) a.length (λ (o:Int×Int×Int)=>o.1=FL a b) (λ i w hi hR=>by obtain⟨w1,w2,w3,w4⟩:=w;obtain⟨h1,h2⟩:=hR;simp at h1 h2;subst h1;have⟨o,g1,g2⟩:=JC (n:=n) b a[i] hb hn w1 w3 w4;obtain⟨o1,o2,o3⟩:=o;simp only[qW,dR hi,aj,bB hi,ai,g1];refine⟨_,rfl,aO (by omega),?_⟩;simp at g2;rw[iF hi,List.foldl_append,<- h2,g2];rfl) (λ w hR=>by obtain⟨w1,w2,w3,w4⟩:=w;obtain⟨h1,h2⟩:=hR;simp only at h1 h2;subst h1;simp only[qW,Ym,au];exact⟨_,rfl,by rw[h2,List.take_length];rfl⟩) n (by omega) (0,0,1048576,0) ⟨rfl,rfl⟩;obtain⟨o1,o2,o3⟩:=o;simp at h2;subst h2;exact⟨_,by rw[h1];rfl⟩
def yX(zs:U fO)(area:U ax):U Int:=bif cE area then zs.map λz=>FL area (Cb z)else []
theorem Ru(p:dh) a (hz:p.zones.length<=100) (ha:a.length<=900) (hn:2000<=n):wL n p a=some (yX p.zones a):=by
 unfold wL yX;rw[mK (by omega) (by omega) (by omega)];simp;cases cE a with
 |false=>rfl
 |true=>
  have:=gD (l:=p.zones) (step:=qX n p a) (λ i s=>(i,s)) (λ z s=>s++[FL a (Cb z)]) (λ s=>s) (λ i s=>s.length<=i)
   (λ i hi s hs=>?_) (λ s hs=>by simp[qX]) n (by omega) [] (aB _)
  rw[ky]at this;simp only[Bool.not_true,au,length_nil,aK,aj,this,ai,fJ];congr 1;have gen:∀(ys:U fO) s,ys.foldl (λ s z=>s++[FL a (Cb z)]) s=s++ys.map λz=>FL a (Cb z):=by
   intro ys
   induction ys with
   |nil=>intro s;simp
   |cons y ys ih=>intro s;rw[foldl_cons,ih];simp
  exact gen p.zones [];have cl:=aij p.zones[i];obtain⟨q,hq⟩:=Rt (n:=n) a (Cb p.zones[i]) (by omega) (by omega) hn;have ap:bR s.length s.length (sub ([FL a (Cb p.zones[i])]:U Int) 0 1).length 1 8=true:=dS (n:=1) (by omega) (by simp[maxLen];omega);simp only[qX,dR hi,aj,bB hi,ai,Uy _ hn,fJ,aK,hq,ap,fI];refine⟨?_,by simp;omega⟩;rw[aO (by omega)];rfl
theorem TY zs a:(yX zs a).length<=zs.length:=by unfold yX;cases cE a<;>simp
def yB(zs:U fO)(l:U Int)(m:Nat):Int:=(List.range m).foldl (λ b i=>if (!((zs.getD i ⟨⟨#[]⟩,false,[]⟩).overlay)&&(decide (l.getD i 0>0)&&(decide (b<0) || decide (l.getD i 0>l.getD b.toNat 0))))=true then i else b) (-1)
def FM(zs:U fO)(l:U Int)(i:Nat):Bool:=decide (i=yB zs l l.length) || ((zs.getD i ⟨⟨#[]⟩,false,[]⟩).overlay&&decide (l.getD i 0>0))
def HA(zs:U fO)(area:U ax):U ByteArray:=((List.range (yX zs area).length).filter (FM zs (yX zs area))).map λi=>(zs.getD i ⟨⟨#[]⟩,false,[]⟩).name
theorem T9 zs l:∀m,yB zs l m=-1\/∃k:Nat,k<m/\yB zs l m=k
 | 0=>.inl rfl
 |m+1=>by have ih:=T9 zs l m;unfold yB;rw[List.range_succ,List.foldl_append];simp only[foldl_cons,List.foldl_nil];split;exact .inr ⟨m,by omega,rfl⟩;rcases ih with h|⟨k,h1,h2⟩;exact .inl h;exact .inr ⟨k,by omega,h2⟩
theorem JD{α:Type}{l:U α}{i:Nat}(d:α)(h:i<l.length):l.getD i d=l[i]:=by simp[h]
theorem Rv(p:dh) l (hl:l.length<=p.zones.length) (hz:p.zones.length<=100) (hn:2000<=n):iter (qY p l) n ((-1),0)=some (yB p.zones l l.length):=by
 have main:=jD (step:=qY p l) (λ i=>(yB p.zones l i,(i:Nat))) l.length (yB p.zones l l.length) (λ i hi=>?_) (by simp[qY]) n (by omega);exact main;have hz':i<p.zones.length:=by omega
 have e:yB p.zones l (i+1)=if (!(p.zones[i]).overlay&&(decide (l[i]>0)&&(decide (yB p.zones l i<0) || decide (l[i]>l.getD (yB p.zones l i).toNat 0))))=true then(i:Int)else yB p.zones l i:=by
  conv=>lhs;unfold yB
  rw[List.range_succ,List.foldl_append];simp only[foldl_cons,List.foldl_nil,JD _ hz',JD _ hi];rfl
 rw[e];rcases T9 p.zones l i with h|⟨k,h1,h2⟩;rw[h];have d:decide (-1<0)=true:=rfl;simp only[qY,dR hi,aj,aU hi,bM hi,ai,bB hz',d,Rm,Bool.true_or,Bool.and_true,bn i];cases (p.zones[i]).overlay<;>cases decide (l[i]>0)<;>rfl;rw[h2];have d:decide ((k:Nat)<0)=false:=by simp
 have hk:k<l.length:=by omega
 simp only[qY,dR hi,aj,aU hi,bM hi,ai,bB hz',d,Rm,Bool.false_or,au,aU hk,bM hk,Int.toNat_natCast,JD _ hk,bn i];cases (p.zones[i]).overlay<;>cases decide (l[i]>0)<;>cases decide (l[i]>l[k])<;>rfl
theorem adx(p:dh) a (hz:p.zones.length<=100) (ha:a.length<=900) (hn:2000<=n):Dy n p a=some (HA p.zones a):=by
 unfold Dy;have sl:=TY p.zones a;rw[Ru p a hz ha hn];simp;rw[Rv p _ sl hz hn];simp;unfold HA;generalize hL:yX p.zones a=l at*
 have:=gD (l:=List.range l.length) (step:=yL p l (yB p.zones l l.length)) (λ i s=>(i,s)) (λ i s=>bif FM p.zones l i then s++[(p.zones.getD i ⟨⟨#[]⟩,false,[]⟩).name]else s) (λ s=>s) (λ i s=>s.length<=i)
  (λ i hi s hs=>?_) (λ s hs=>by rw[List.length_range];simp[yL]) n (by rw[List.length_range];omega) [] (aB _)
 rw[ky]at this;simp[this];congr 1;have gen:∀(ys:U Nat) s,ys.foldl (λ s i=>bif FM p.zones l i then s++[(p.zones.getD i ⟨⟨#[]⟩,false,[]⟩).name]else s) s=s++(ys.filter (FM p.zones l)).map λi=>(p.zones.getD i ⟨⟨#[]⟩,false,[]⟩).name:=by
  intro ys
  induction ys with
  |nil=>intro s;simp
  |cons y ys ih=>
   intro s;rw[foldl_cons,ih,List.filter_cons];cases FM p.zones l y<;>simp
 exact gen (List.range l.length) [];rw[List.length_range]at hi;have hz':i<p.zones.length:=by omega
 rw[List.getElem_range];have ap:bR s.length s.length (sub ([(p.zones[i]).name]:U ByteArray) 0 1).length 1 16=true:=dS (n:=1) (by omega) (by simp[maxLen];omega);have hb:((i:Nat)==yB p.zones l l.length)=decide ((i:Nat)=yB p.zones l l.length):=by rw[gu];simp
 simp only[yL,dR hi,aj,aU hi,bM hi,ai,bB hz',hb,Rm,ap,fI,aK,FM,JD _ hz',JD _ hi,bn i];cases decide ((i:Nat)=yB p.zones l l.length)<;>cases (p.zones[i]).overlay<;>cases decide (l[i]>0)<;>refine⟨rfl,?_⟩<;>simp<;>omega
theorem aoS zs a:(HA zs a).length<=zs.length:=by unfold HA;rw[length_map];have h1:=length_filter_le (FM zs (yX zs a)) (List.range (yX zs a).length);rw[List.length_range]at h1;have:=TY zs a;omega
def gA(a b:ByteArray):Bool:=ByteArray.toList a==ByteArray.toList b
theorem vK{l:U ByteArray}{a:ByteArray}(hl:l.length<1099511627776)(hn:l.length<n):gG n l a=some (l.any (gA a)):=by
 unfold gG;have e:sO n l a=ac8 n (λ x=>ByteArray.toList a==ByteArray.toList x) l:=by kernel_rfl
 rw[e,Tx hl hn,ai,yE];rfl
theorem rz{l:U ByteArray}{φ:(ByteArray×Unit)->J Bool}(p:ByteArray->Bool)(h:∀x∈l,φ (x,())=some (p x))(hl:l.length<1099511627776)(hn:l.length<n):gQ n l φ=some (l.any p):=by
 unfold gQ;have e:rF n l φ=xh n l φ:=by kernel_rfl
 rw[e,jd p h hl hn,ai,yE]
def VQ(r:dw)(zs:U ByteArray):Bool:=(decide (r.zones=[]) || r.zones.any λz=>zs.any (gA z))&&!(r.except.any λz=>zs.any (gA z))
theorem Rw(r:dw) zs (h1:r.zones.length<=100) (h2:r.except.length<=100) (h3:zs.length<=100) (hn:2000<=n):rU n r zs=some (VQ r zs):=by
 have hf:∀x:ByteArray,kX n x zs=some (zs.any (gA x)):=λx=>by unfold kX;rw[vK (by omega) (by omega)];rfl
 unfold rU VQ;rw[rz (λ z=>zs.any (gA z)) (λ x _=>hf x) (by omega) (by omega),rz (λ z=>zs.any (gA z)) (λ x _=>hf x) (by omega) (by omega)];simp;have e:((r.zones.length:Int)==0)=decide (r.zones=[]):=by rw[gu,beq_iff_eq,bq];constructor;intro h;exact List.length_eq_zero_iff.1 (by omega);intro h;rw[h];rfl
 rw[e];cases decide (r.zones=[])<;>cases (r.zones.any λz=>zs.any (gA z))<;>cases (r.except.any λz=>zs.any (gA z))<;>rfl
def sF(zs:U ByteArray)(day:Int)(r:dw):Bool:=decide (r.from_<=day)&&((r.k9==0 || decide (day<r.k9))&&VQ r zs)
def Rx(rules:U dw)(zs:U ByteArray)(day:Int):U Nat:=(List.range rules.length).filter λi=>(rules[i]?).any (sF zs day)
abbrev YE(r:dw):Prop:=r.zones.length<=100/\r.except.length<=100
theorem Uz(p:dh) zs day (hr:∀r∈p.rules,YE r) (hl:p.rules.length<=100) (h3:zs.length<=100) (hn:2000<=n):uQ n p zs day=some ((Rx p.rules zs day).map λ(i:Nat)=>(i:Int)):=by
 unfold uQ Rx
 have:=gD (l:=List.range p.rules.length) (step:=sP n p zs day) (λ i s=>(i,s)) (λ i s=>bif(p.rules[i]?).any (sF zs day)then s++[(i:Int)]else s) (λ s=>s) (λ i s=>s.length<=i)
  (λ i hi s hs=>?_) (λ s hs=>by rw[List.length_range];simp[sP]) n (by rw[List.length_range];omega) [] (aB _)
 rw[ky]at this;simp[this];congr 1;have gen:∀(ys:U Nat) s,ys.foldl (λ s (i:Nat)=>bif(p.rules[i]?).any (sF zs day)then s++[(i:Int)]else s) s=s++(ys.filter λi=>(p.rules[i]?).any (sF zs day)).map λ(i:Nat)=>(i:Int):=by
  intro ys
  induction ys with
  |nil=>intro s;simp
  |cons y ys ih=>
   intro s;rw[foldl_cons,ih,List.filter_cons];cases (p.rules[y]?).any (sF zs day)<;>simp
 exact gen (List.range p.rules.length) [];rw[List.length_range]at hi;rw[List.getElem_range];obtain⟨o1,o2⟩:=hr _ (getElem_mem hi);have ap:bR s.length s.length (sub ([(i:Nat)]:U Int) 0 1).length 1 8=true:=dS (n:=1) (by omega) (by simp[maxLen];omega);have eg:(p.rules[i]?).any (sF zs day)=sF zs day p.rules[i]:=by rw[dP hi];rfl
 rw[eg];simp only[sP,dR hi,aj,bB hi,ai,Rw _ zs o1 o2 h3 hn,Rm,ap,fI,aK,sF,bn i];cases decide ((p.rules[i]).from_<=day)<;>cases (p.rules[i]).k9==0<;>cases decide (day<(p.rules[i]).k9)<;>cases VQ p.rules[i] zs<;>refine⟨rfl,?_⟩<;>simp<;>omega
def YF(p:eO):Bool:=decide (0<=p.side/\p.side<=3)&&(decide (0<=p.base/\p.base<=4096)&&(decide (0<=p.num/\p.num<=4096)&&decide (1<=p.den/\p.den<=4096)))
theorem anr(p:eO):YF p=true↔(0<=p.side/\p.side<=3)/\(0<=p.base/\p.base<=4096)/\(0<=p.num/\p.num<=4096)/\(1<=p.den/\p.den<=4096):=by simp[YF]
theorem UA(a b c:Int):oM a b c=some (decide (b<=a/\a<=c)):=by
 unfold oM;by_cases h1:b<=a;have d:decide (b<=a)=true:=by simpa using h1
 rw[d,aj];congr 1;rw[gu];simp[h1];have d:decide (b<=a)=false:=by simpa using h1
 rw[d,au];congr 1;rw[gu];simp[h1]
theorem YG(p:eO):Bp p=some (YF p):=by unfold Bp YF;simp only[UA,ai,Rm];generalize decide (0<=p.side/\p.side<=3)=a;generalize decide (0<=p.base/\p.base<=4096)=b;generalize decide (0<=p.num/\p.num<=4096)=c;cases a<;>cases b<;>cases c<;>rfl
theorem Cc{l:U eO}{φ:(eO×Unit)->J Bool}(p:eO->Bool)(h:∀x∈l,φ (x,())=some (p x))(hl:l.length<1099511627776)(hn:l.length<n):lQ n l φ=some (l.any p):=by
 unfold lQ;have e:tH n l φ=xh n l φ:=by kernel_rfl
 rw[e,jd p h hl hn,ai,yE]
def FN(b:ax)(l:U eO):Bool:=d8 b&&!(l.any λp=>!YF p)
theorem YH(b:ax) l (hl:l.length<=1000) (hn:2000<=n):Bq n b l=some (FN b l):=by unfold Bq FN;rw[jy,Cc (λ p=>!YF p) (λ p _=>by show uR p=_;unfold uR;rw[YG];rfl) (by omega) (by omega)];simp only[ai,Rm];cases d8 b<;>rfl
theorem aik{a n:Int}(hn:0<n):(if Int.tmod a n<0 then Int.tdiv a n-1 else Int.tdiv a n)=a/n:=by
 have h1:=Int.mul_ediv_add_emod a n;have h2:=Int.emod_nonneg a (by omega:n≠0);have h3:=Int.emod_lt_of_pos a hn;rcases Int.le_total 0 a with h|h;have e1:Int.tmod a n=a%n:=Int.tmod_eq_emod_of_nonneg h;have e2:Int.tdiv a n=a/n:=Int.tdiv_eq_ediv_of_nonneg h;rw[e1,e2,aT (by omega)];obtain⟨b,rfl⟩:∃b,a=-b:=⟨-a,by omega⟩;have hb:0<=b:=by omega
 have e1:Int.tmod (-b) n=-(b%n):=by rw[Int.neg_tmod,Int.tmod_eq_emod_of_nonneg hb]
 have e2:Int.tdiv (-b) n=-(b/n):=by rw[Int.neg_tdiv,Int.tdiv_eq_ediv_of_nonneg hb]
 have g1:=Int.mul_ediv_add_emod b n;have g2:=Int.emod_nonneg b (by omega:n≠0);have g3:=Int.emod_lt_of_pos b hn;rw[e1,e2];by_cases hm:b%n=0;rw[aT (by omega)];have:(-b)/n=-(b/n):=by refine(Int.ediv_eq_iff_of_pos hn).2 ?_;constructor;rw[Int.neg_mul,Int.mul_comm (b/n)];omega;rw[Int.neg_mul,Int.mul_comm (b/n)];omega
 omega;rw[aY (by omega)];have:(-b)/n=-(b/n)-1:=by refine(Int.ediv_eq_iff_of_pos hn).2 ?_;constructor;rw[Int.sub_mul,Int.neg_mul,Int.mul_comm (b/n)];omega;rw[Int.sub_mul,Int.neg_mul,Int.mul_comm (b/n)];omega
 omega
theorem O4{a n:Int}(hn:0<n)(ha: -4611686018427387904<=a/\a<=4611686018427387904):uS a n=some (a/n):=by
 have nz:(n !=0)=true:=by simp;omega
 have hb: -4611686018427387904<=a/n/\a/n<=4611686018427387904:=by
  constructor;rw[Int.le_ediv_iff_mul_le hn];have: -4611686018427387904*n<=-4611686018427387904:=by omega
  omega;rcases Int.le_total 0 a with h|h;have:=Int.ediv_le_self n h;omega;have:a/n<=0:=by have:=(Int.ediv_lt_iff_lt_mul (a:=a) (b:=1) hn).2 (by omega);omega
  omega
 have hf:=aik (a:=a) hn;have ht: -4611686018427387904<=Int.tdiv a n/\Int.tdiv a n<=4611686018427387905:=by split at hf<;>omega
 unfold uS;simp[nz];rw[aQ (x:=Int.tdiv a n),aQ (x:=Int.tdiv a n-1),<- hf];by_cases h:Int.tmod a n<0;have d:decide (Int.tmod a n<0)=true:=by simpa using h
 rw[d,aY h];rfl;have d:decide (Int.tmod a n<0)=false:=by simpa using h
 rw[d,aT h];rfl
def YI(b:ax)(side x y:Int):Int:=if side=0 then x-b.x0 else if side=1 then b.x1-1-x else if side=2 then y-b.y0 else b.y1-1-y
def aqU(b:ax)(p:eO)(x y:Int):Int:=p.base+p.num*YI b p.side x y/p.den
def yp(b:ax)(l:U eO)(x y:Int):Int:=l.foldl (λ h p=>min h (aqU b p x y)) 4096
abbrev InG(x y:Int):Prop:=(0<=x/\x<1048576)/\(0<=y/\y<1048576)
theorem afW{b:ax}(hb:d8 b=true){x y:Int}(h:InG x y) side: -1048576<=YI b side x y/\YI b side x y<=1048576:=by simp at hb;obtain⟨h1,h2⟩:=h;unfold YI;split;omega;split;omega;split<;>omega
theorem alh{a d:Int}(ha:0<=a/\a<=4096)(hd: -1048576<=d/\d<=1048576): -4294967296<=a*d/\a*d<=4294967296:=by have h1:a*d<=a*1048576:=Int.mul_le_mul_of_nonneg_left hd.2 ha.1;have h2:a*(-1048576)<=a*d:=Int.mul_le_mul_of_nonneg_left hd.1 ha.1;omega
theorem ali{a n:Int}(hn:0<n)(ha: -4294967296<=a/\a<=4294967296): -4294967296<=a/n/\a/n<=4294967296:=by constructor;rw[Int.le_ediv_iff_mul_le hn];omega;rcases Int.le_total 0 a with h|h;have:=Int.ediv_le_self n h;omega;have:=(Int.ediv_lt_iff_lt_mul (a:=a) (b:=1) hn).2 (by omega);omega
theorem ady{b:ax}{l:U eO}{x y:Int}(hb:d8 b=true)(hp:∀p∈l,YF p=true)(h:InG x y)(hl:l.length<=1000)(hn:2000<=n):Kv n b l x y=some (yp b l x y):=by
 unfold Kv xU;have hr:=hb;simp at hr;obtain⟨h1,h2⟩:=h;rw[aQ (x:=x-b.x0),aQ (x:=b.x1-1),aQ (x:=b.x1-1-x),aQ (x:=y-b.y0),aQ (x:=b.y1-1),aQ (x:=b.y1-1-y)];simp;have:=lX (l:=l) (step:=yO b l x y ⟨x-b.x0,b.x1-1-x,y-b.y0,b.y1-1-y⟩) (λ i s=>(s,(i:Nat))) (λ p s=>min s (aqU b p x y)) (λ s=>s) (λ i hi s=>?_) (λ s=>by simp[yO]) n (by omega) 4096;rw[ky]at this;rw[this];rfl;obtain⟨s1,s2,s3,s4⟩:=(anr _).1 (hp _ (getElem_mem hi));have ib:cz (l[i]).side 4=true:=by simp[cz];omega
 have g:bu ([x-b.x0,b.x1-1-x,y-b.y0,b.y1-1-y]:U Int) (l[i]).side=some (YI b (l[i]).side x y):=by
  have hs:(l[i]).side=0\/(l[i]).side=1\/(l[i]).side=2\/(l[i]).side=3:=by omega
  rcases hs with e|e|e|e<;>rw[e]<;>simp[bu,YI]
 have db:=afW hb ⟨h1,h2⟩ (l[i]).side;have mb:=alh s3 db;have dv:=ali (n:=(l[i]).den) (by omega) mb;simp only[yO,dR hi,aj,bB hi,ai,ib,g];rw[aQ (x:=(l[i]).num*YI b (l[i]).side x y),O4 (by omega) (by omega)];simp only[ai];rw[aQ (x:=(l[i]).base+_),aO (by omega)];rfl
theorem afX(b:ax) l:FN b l=true↔d8 b=true/\∀p∈l,YF p=true:=by unfold FN;rw[aX,Bool.not_eq_true',List.any_eq_false];simp
def mR(out:U aN)(x:aN):U aN:=
 if x.area=[]then out else match out.getLast? with
 |some q=>if q.z1=x.z0/\q.area=x.area then out.dropLast++[⟨q.z0,x.z1,q.area⟩]else out++[x]
 |none=>[x]
theorem abT out (x:aN):(mR out x).length<=out.length+1:=by unfold mR;split;omega;split;split;simp only[dZ,List.length_dropLast,length_singleton];omega;simp;simp
def HK(x:aN):Bool:=decide (x.z0<0) || (decide (x.z0>=x.z1) || (decide (x.z1>4096) || (decide (x.area=[]) || !cE x.area)))
def CD(p:J aN×aN):Bool:=HK p.2 || p.1.any λq=>decide (q.z1>p.2.z0) || (q.z1==p.2.z0&&decide (q.area=p.2.area))
def Ce(s:U aN):U (Option aN×aN):=(none::s.map some).zip s
def wh(s:U aN):Bool:=decide (s.length<=80)&&!((Ce s).any CD)
theorem qJ s:(Ce s).length=s.length:=by simp[Ce]
theorem FO{s:U aN}{i:Nat}(h:i<(Ce s).length):(Ce s)[i]=(if h0:i=0 then none else some (s[i-1]'(by rw[qJ]at h;omega)),s[i]'(by rw[qJ]at h;exact h)):=by
 simp[Ce];cases i with
 |zero|succ i=>simp
theorem BF{s:U aN}(ha:∀x∈s,x.area.length<=900)(hn:1000<=n):zM n s=some (wh s):=by
 unfold zM wh;by_cases h80:s.length<=80;have d:decide ((s.length:Int)>80)=false:=by simp;omega
 have d2:decide (s.length<=80)=true:=by simpa using h80
 have z:∀l:U ax,(((l.length:Int))==0)=decide (l=[]):=λl=>by cases l<;>simp<;>omega
 have:=pI (l:=Ce s) (step:=Br n s) (λ i=>(i:Nat)) CD () (λ _=>false) (λ i hi=>?_) ?_ n (by rw[qJ];omega);rw[ky]at this;rw[d,d2,this,<- Rq];cases oU CD (Ce s)<;>rfl;rw[FO];rw[qJ]at hi;have hi':decide ((i:Int)<s.length)=true:=by simpa using hi
 have h1:=ha _ (getElem_mem hi);simp only[Br,hi',aj,bB hi,ai,z,mK (n:=n) (l:=s[i].area) (by omega) (by omega) hn,CD];rw[aO (by omega)];have b:((bif decide (s[i].z0<0)then some true else bif decide (s[i].z0>=s[i].z1)then some true else bif decide (s[i].z1>4096)then some true else bif decide (s[i].area=[])then some true else some (!cE s[i].area)):J Bool)=some (HK s[i]):=by unfold HK;cases decide (s[i].z0<0)<;>cases decide (s[i].z0>=s[i].z1)<;>cases decide (s[i].z1>4096)<;>cases decide (s[i].area=[])<;>rfl
 rw[b];simp;cases HK s[i]with
 |true=>simp
 |false=>
  by_cases h0:i=0;subst h0;have:(((0:Nat))==0)=true:=rfl;simp;have e0:((i:Int)==0)=false:=by simp;omega
  have w:i64.wrap (i-1)=(i-1:Nat):=jq (by omega) (by omega);have h2:=ha _ (getElem_mem (show i-1<s.length by omega));simp[e0,w,bB (show i-1<s.length by omega),Yz (n:=n) (a:=s[i-1].area) (b:=s[i].area) (by omega) (by omega),h0];cases decide (s[i-1].z1>s[i].z0)with
  |true=>simp
  |false=>
   cases s[i-1].z1==s[i].z0 with
   |false=>simp
   |true=>cases decide (s[i-1].area=s[i].area)<;>simp
 rw[qJ];simp[Br];have d:decide ((s.length:Int)>80)=true:=by simp;omega
 have d2:decide (s.length<=80)=false:=by simpa using h80
 rw[d,d2];rfl
structure FP(x:aN):Prop where
 lo:0<=x.z0
 lt:x.z0<x.z1
 hi:x.z1<=4096
 ne:x.area≠[]
 rt:cE x.area=true
def JE(s:U aN):Prop:=∀i (h:i+1<s.length),s[i].z1<=s[i+1].z0/\¬(s[i].z1=s[i+1].z0/\s[i].area=s[i+1].area)
theorem afZ(x:aN):HK x=false↔FP x:=by unfold HK;simp;constructor;rintro⟨h1,h2,h3,h4,h5⟩;exact⟨by omega,by omega,by omega,h4,h5⟩;rintro⟨h1,h2,h3,h4,h5⟩;exact⟨by omega,by omega,by omega,h4,h5⟩
theorem wo s:wh s=true↔s.length<=80/\(∀ x∈s,FP x)/\JE s:=by
 unfold wh;rw[aX,bq,Bool.not_eq_true',List.any_eq_false];refine and_congr_right λ_=>?_;constructor;intro h;have key:∀i (hi:i<s.length),CD ((Ce s)[i]'(by rw[qJ];exact hi))=false:=λi hi=>by have:=h _ (getElem_mem (show i<(Ce s).length by rw[qJ];exact hi));simpa using this
 refine⟨λ x hx=>?_,λi hi=>?_⟩;obtain⟨i,hi,rfl⟩:=mem_iff_getElem.1 hx;have:=key i hi;rw[FO]at this;unfold CD at this;rw[Bool.or_eq_false_iff]at this;exact(afZ _).1 this.1;have:=key (i+1) hi;rw[FO]at this;unfold CD at this;rw[Bool.or_eq_false_iff]at this;have h2:=this.2;simp only[Nat.succ_ne_zero,dif_neg,not_false_eq_true,Option.any_some,Nat.add_sub_cancel,Bool.or_eq_false_iff,cB,Bool.and_eq_false_iff,beq_eq_false_iff_ne]at h2;refine⟨by omega,λ⟨e1,e2⟩=>?_⟩;rcases h2.2 with h3|h3;exact h3 e1;exact h3 e2;rintro⟨h1,h2⟩ p hp;obtain⟨i,hi,rfl⟩:=mem_iff_getElem.1 hp;rw[FO];rw[qJ]at hi;unfold CD;have hb:=(afZ _).2 (h1 _ (getElem_mem hi));by_cases h0:i=0;simp[h0]at hb ⊢;exact hb;obtain⟨j,rfl⟩:∃j,i=j+1:=⟨i-1,by omega⟩;have⟨n1,n2⟩:=h2 j hi;simp only[Nat.succ_ne_zero,dif_neg,not_false_eq_true,Option.any_some,Nat.add_sub_cancel];rw[hb];simp only[Bool.false_or,Bool.or_eq_true,bq,aX,beq_iff_eq];rintro (h|h);omega;exact n2 h
theorem YJ{s:U aN}{x:aN}(h:JE s)(hx:∀q∈s.getLast?,q.z1<=x.z0/\¬(q.z1=x.z0/\q.area=x.area)):JE (s++[x]):=by
 intro i hi;rw[dZ,length_singleton]at hi;by_cases hl:i+1<s.length;rw[List.getElem_append_left (by omega),List.getElem_append_left hl];exact h i hl;have e:i+1=s.length:=by omega
 rw[List.getElem_append_left (by omega),List.getElem_append_right (by omega)];have:=hx s[i] (by rw[List.getLast?_eq_getElem?];simp[<- e]);simpa using this
theorem ail{s:U aN}{x:aN}(h:JE (s++[x])):JE s/\∀q∈s.getLast?,q.z1<=x.z0/\¬(q.z1=x.z0/\q.area=x.area):=by refine⟨λ i hi=>?_,λq hq=>?_⟩;have:=h i (by rw[dZ];omega);rw[List.getElem_append_left (by omega),List.getElem_append_left hi]at this;exact this;rw[List.getLast?_eq_getElem?]at hq;obtain⟨hl,rfl⟩:=dx.1 hq;have:=h (s.length-1) (by rw[dZ,length_singleton];omega);rw[List.getElem_append_left (by omega),List.getElem_append_right (by omega)]at this;simpa using this
def UB(E:U ax)(top:Int)(s:U aN):Prop:=∃c∈s,c.z1>top/\LC c.area E=true
theorem YK E top (a b:U aN):UB E top (a++b)↔UB E top a\/UB E top b:=by unfold UB;constructor;rintro⟨c,hc,h⟩;rcases bF.1 hc with hc|hc;exact .inl ⟨c,hc,h⟩;exact .inr ⟨c,hc,h⟩;rintro (⟨c,hc,h⟩|⟨c,hc,h⟩);exact⟨c,mem_append_left _ hc,h⟩;exact⟨c,List.mem_append_right _ hc,h⟩
theorem O5 E top (x:aN):UB E top [x]↔x.z1>top/\LC x.area E=true:=by
 unfold UB;constructor;rintro⟨c,hc,h⟩;have:c=x:=by simpa using hc
 rw[<- this];exact h;intro h;exact⟨x,by simp,h⟩
theorem aim{out:U aN}{x:aN}(h1:∀s∈out,FP s)(h2:JE out)(hx:x.area≠[]->FP x)(hz:x.z0<x.z1)(hq:∀q∈out.getLast?,q.z1<=x.z0):
 (∀ s∈mR out x,FP s)/\JE (mR out x)/\(∀ q∈(mR out x).getLast?,q.z1<=x.z1)/\∀E top,UB E top (mR out x)↔UB E top out\/(x.z1>top/\LC x.area E=true):=by
 unfold mR;by_cases he:x.area=[];rw[aY he];refine⟨h1,h2,λq h=>by have:=hq q h;omega,λE top=>?_⟩;have:LC x.area E=false:=by rw[he];rfl
 rw[this];simp;rw[aT he];have ok:=hx he;rcases List.eq_nil_or_concat out with rfl|⟨o,q,e⟩
 refine⟨λ s hs=>by have:s=x:=by simpa using hs
                   rw[this];exact ok,λi hi=>by simp at hi,λq h=>by simp at h;subst h;exact Int.le_refl _,λE top=>?_⟩
 show UB E top [x]↔_;rw[O5];simp[UB];rw[List.concat_eq_append]at e;subst e;have gl:(o++[q]).getLast? =some q:=by simp
 have dl:(o++[q]).dropLast=o:=by simp
 have hqx:=hq q (by rw[gl];rfl);have⟨n1,n2⟩:=ail h2;have oq:=h1 q (by simp);simp only[gl,dl];by_cases hm:q.z1=x.z0/\q.area=x.area;rw[aY hm];refine⟨λ s hs=>?_,YJ n1 λp hp=>n2 p hp,λp hp=>by simp at hp;subst hp;exact Int.le_refl _,λE top=>?_⟩;rcases bF.1 hs with hs|hs;exact h1 s (mem_append_left _ hs);have:s=⟨q.z0,x.z1,q.area⟩:=by simpa using hs
 subst this;exact⟨oq.lo,Int.lt_trans oq.lt (by show q.z1<x.z1;rw[hm.1];exact hz),ok.hi,oq.ne,oq.rt⟩;rw[YK,YK,O5,O5];simp[hm.2];have:=hm.1;constructor;rintro (h|h);exact .inl (.inl h);exact .inr h;rintro ((h|⟨h,h'⟩)|h);exact .inl h;exact .inr ⟨by omega,h'⟩;exact .inr h;rw[aT hm];refine⟨λ s hs=>?_,YJ h2 λp hp=>?_,λp hp=>by simp at hp;subst hp;exact Int.le_refl _,λE top=>?_⟩;rcases bF.1 hs with hs|hs;exact h1 s hs;have:s=x:=by simpa using hs
 rw[this];exact ok;rw[gl]at hp;have:p=q:=by simpa using hp.symm
 subst this;exact⟨hqx,hm⟩;rw[YK,O5]
def AD(s:U aN)(z:Int):U ax:=match s.find? λx=>decide (x.z0<=z)&&decide (z<x.z1)with
 |some x=>x.area
 |none=>[]
theorem af0{s:U aN}{z:Int}(hl:s.length<=900)(hn:1000<=n):Q2 n s z=some (AD s z):=by
 unfold Q2;have:=pI (l:=s) (step:=OI s z) (λ i=>i) (λ x=>decide (x.z0<=z)&&decide (z<x.z1)) () (λ i=>(s.getD i ⟨0,0,[]⟩).area) (λ i hi=>?_) (by simp[OI]) n (by omega);rw[ky]at this;rw[this];unfold AD;rcases Ml (λ x:aN=>decide (x.z0<=z)&&decide (z<x.z1)) s with ⟨i,hi,h1,h2⟩|⟨h1,h2⟩;rw[h1,h2];simp[hi];rw[h1,h2];rfl;have hi':decide ((i:Int)<s.length)=true:=by simpa using hi
 simp only[OI,hi',aj,bB hi,ai,Ri];cases decide (s[i].z0<=z)&&decide (z<s[i].z1)with
 |true=>simp[hi]
 |false=>simp only[au];rw[aO (by omega)]
theorem V1{s:U aN}(h:∀x∈s,FP x) z:cE (AD s z)=true:=by unfold AD;split;rename_i x hx;exact(h x (List.mem_of_find?_eq_some hx)).rt;rfl
theorem af2:∀(ps out:U aN),(∀ s∈out,FP s)->JE out->(∀ x∈ps,x.z0<x.z1/\(x.area≠[]->FP x))->ps.Pairwise (λ x y=>x.z1<=y.z0)->(∀ q∈out.getLast?,∀x∈ps,q.z1<=x.z0)->
 (∀ s∈ps.foldl mR out,FP s)/\JE (ps.foldl mR out)/\∀E top,UB E top (ps.foldl mR out)↔UB E top out\/∃x∈ps,x.z1>top/\LC x.area E=true
 |[],out,h1,h2,_,_,_=>⟨h1,h2,λE top=>by simp⟩
 |x::ps,out,h1,h2,h3,h4,h5=>by have hx:=h3 x mem_cons_self;obtain⟨a1,a2,a3,a4⟩:=aim h1 h2 hx.2 hx.1 λq hq=>h5 q hq x mem_cons_self;rw[pairwise_cons]at h4;obtain⟨b1,b2,b3⟩:=af2 ps (mR out x) a1 a2 (λ y hy=>h3 y (bQ _ hy)) h4.2 λq hq y hy=>Int.le_trans (a3 q hq) (h4.1 y hy);refine⟨b1,b2,λE top=>?_⟩;rw[foldl_cons,b3,a4];constructor;rintro ((h|h)|⟨y,hy,h⟩);exact .inl h;exact .inr ⟨x,mem_cons_self,h⟩;exact .inr ⟨y,bQ _ hy,h⟩;rintro (h|⟨y,hy,h⟩);exact .inl (.inl h);rcases aL.1 hy with rfl|hy;exact .inl (.inr h);exact .inr ⟨y,hy,h⟩
theorem ug{l:U aN}{φ:(aN×Unit)->J Bool}(p:aN->Bool)(h:∀x∈l,φ (x,())=some (p x))(hl:l.length<1099511627776)(hn:l.length<n):jK n l φ=some (l.any p):=by
 unfold jK uT;have:=pI (l:=l) (step:=mJ l φ) (λ i=>(i:Nat)) p () (λ i=>(i:Nat)) (λ i hi=>?_) (by simp[mJ]) n hn;rw[ky]at this;rw[this,<- Rq];cases oU p l with
 |none=>rfl
 |some i=>simp<;>omega
 have hi':decide ((i:Int)<l.length)=true:=by simpa using hi
 simp only[mJ,hi',aj,bB hi,ai,h _ (getElem_mem hi)];rw[aO (by omega)];cases p l[i]<;>rfl
def Tr(s:U aN)(lot:Int)(e:jP):Bool:=e.lot==lot&&(cE e.area&&s.any λc=>decide (c.z1>e.top)&&LC c.area e.area)
def Re(l:U jP)(lot:Int)(s:U aN):Bool:=wh s&&!(l.any (Tr s lot))
theorem aaj{l:U jP}{lot:Int}{s:U aN}(hl:l.length<=900)(he:∀e∈l,e.area.length<=900)(ha:∀x∈s,x.area.length<=900)(hn:1000<=n):Fy n l lot s=some (Re l lot s):=by
 unfold Fy Re;rw[BF ha hn];simp;cases hr:wh s with
 |false=>rfl
 |true=>
 have l80:=((wo s).1 hr).1;have:=pI (l:=l) (step:=wN n l lot s) (λ i=>(i:Nat)) (Tr s lot) () (λ _=>false) (λ i hi=>?_) (by simp[wN]) n (by omega);rw[ky]at this;simp;rw[this,<- Rq];cases oU (Tr s lot) l<;>rfl;have hi':decide ((i:Int)<l.length)=true:=by simpa using hi
 have h1:=he _ (getElem_mem hi);have cf:=ug (n:=n) (l:=s) (φ:=λy:aN×Unit=>rX n y.1 l[i]) (λ c=>decide (c.z1>l[i].top)&&LC c.area l[i].area) (λ c hc=>by have:=ha c hc;show rX n c l[i]=_;unfold rX;rw[aie (by omega) (by omega) (by omega) (by omega)];cases decide (c.z1>l[i].top)<;>rfl) (by omega) (by omega);simp only[wN,hi',aj,bB hi,ai,mK (n:=n) (l:=l[i].area) (by omega) (by omega) hn,cf];rw[aO (by omega)];unfold Tr;cases h2:l[i].lot==lot with
 |false=>
  have:(l[i].lot !=lot)=true:=by simp[bne,h2]
  simp[this]
 |true=>
  have:(l[i].lot !=lot)=false:=by simp[bne,h2]
  simp[this];cases cE l[i].area with
  |false=>simp
  |true=>cases s.any λc=>decide (c.z1>l[i].top)&&LC c.area l[i].area<;>simp
theorem DR(r:ax):d8 r=true↔(0<=r.x0/\r.x0<r.x1/\r.x1<=1048576)/\(0<=r.y0/\r.y0<r.y1/\r.y1<=1048576):=by simp;omega
theorem Ua l (x y:Int):qG l x y=true↔∃r∈l,OY r x y=true:=by simp[qG,OY]
theorem KI{b:ax}{l:U eO}(r:ax) x (hb:d8 b=true) (hp:∀p∈l,YF p=true) (hr:d8 r=true) (hx:0<=x/\x<1048576) (hl:l.length<=1000) (hn:2000<=n) v:
 iter (oZ n b l r x) n (v,0)=some (min (min v (yp b l x r.y0)) (yp b l x (r.y1-1))):=by
 have ho:=(DR r).1 hr;have w:i64.wrap (r.y1-1)=r.y1-1:=aQ (by omega) (by omega);have:=lX (l:=[r.y0,r.y1-1]) (step:=oZ n b l r x) (λ i s=>(s,(i:Nat))) (λ y m=>min m (yp b l x y)) (λ s=>s) (λ i hi s=>?_) (λ s=>by simp[oZ]) n (by simp;omega) v;rw[ky]at this;exact this;have h2:i<2:=by simpa using hi
 have yb:0<=([r.y0,r.y1-1]:U Int)[i]/\([r.y0,r.y1-1]:U Int)[i] <1048576:=by rcases i with _|_|i;simp;omega;simp;omega;omega
 simp only[oZ,dR h2,aj,aU h2,w,bM hi,ai,ady hb hp ⟨hx,yb⟩ hl hn,bn i]
def aqf(b:ax)(l:U eO)(v:Int)(r:ax):Int:=min (min (min (min v (yp b l r.x0 r.y0)) (yp b l r.x0 (r.y1-1))) (yp b l (r.x1-1) r.y0)) (yp b l (r.x1-1) (r.y1-1))
theorem KJ{b:ax}{l:U eO}(r:ax)(hb:d8 b=true)(hp:∀p∈l,YF p=true)(hr:d8 r=true)(hl:l.length<=1000)(hn:2000<=n) v:
 iter (o6 n b l r) n (v,0)=some (aqf b l v r):=by
 have ho:=(DR r).1 hr;have w:i64.wrap (r.x1-1)=r.x1-1:=aQ (by omega) (by omega);have:=lX (l:=[r.x0,r.x1-1]) (step:=o6 n b l r) (λ i s=>(s,(i:Nat))) (λ x m=>min (min m (yp b l x r.y0)) (yp b l x (r.y1-1))) (λ s=>s) (λ i hi s=>?_) (λ s=>by simp[o6]) n (by simp;omega) v;rw[ky]at this;exact this;have h2:i<2:=by simpa using hi
 have xb:0<=([r.x0,r.x1-1]:U Int)[i]/\([r.x0,r.x1-1]:U Int)[i] <1048576:=by rcases i with _|_|i;simp;omega;simp;omega;omega
 simp only[o6,dR h2,aj,aU h2,w,bM hi,ai,KI r _ hb hp hr xb hl hn,bn i]
def To(b:ax)(l:U eO)(a:U ax):Int:=a.foldl (aqf b l) 4096
theorem UC{b:ax}{l:U eO}{a:U ax}(hb:d8 b=true)(hp:∀p∈l,YF p=true)(ha:∀r∈a,d8 r=true)(hal:a.length<=1000)(hl:l.length<=1000)(hn:2000<=n):yP n b l a=some (To b l a):=by unfold yP;have:=lX (l:=a) (step:=sS n b l a) (λ i s=>(s,(i:Nat))) (λ r m=>aqf b l m r) (λ s=>s) (λ i hi s=>?_) (λ s=>by simp[sS]) n (by omega) 4096;rw[ky]at this;rw[this];rfl;simp only[sS,dR hi,aj,bB hi,ai,KJ a[i] hb hp (ha _ (getElem_mem hi)) hl hn,bn i]
theorem aoV(r:ax):d8 r=true↔(0<=r.x0/\r.x0<r.x1/\r.x1<=1048576)/\(0<=r.y0/\r.y0<r.y1/\r.y1<=1048576):=by simp;omega
abbrev GW(t:j5):Prop:=t.area.length<=900/\t.from_.length*8<=140737488355328
theorem aio{t:j5}(h:GW t):Oh t=some t:=by unfold Oh;have h2:=h.2;rw[Rc (by omega),ai,show uG t.from_=some t.from_ from Bb (b:=8) (by omega) (by simp[maxLen];omega),ai];simp
theorem alk{land:U j5}{id:Int}(h:∀t∈land,GW t)(hl:land.length<1099511627776)(hn:land.length<n):Oi n land id=some (mQ land id):=by
 unfold Oi;have:=pI (l:=land) (step:=Ff land id) (λ i=>i) (λ t=>t.id==id) () (λ i=>(land.getD i anp,true)) (λ i hi=>?_) ?_ n hn;rw[ky]at this;rw[this];unfold mQ;rcases Ml (λ t:j5=>t.id==id) land with ⟨i,hi,h1,h2⟩|⟨h1,h2⟩;rw[h1,h2];simp[hi];rw[h1,h2];rfl;simp only[Ff,dR hi,aj,bB hi,ai,aio (h _ (getElem_mem hi))];cases land[i].id==id with
 |true=>simp[hi]
 |false=>simp only[au];rw[aO (by omega)]
 simp[Ff]
theorem abU{land:U j5}(h:∀t∈land,GW t) id:GW (mQ land id).1:=by unfold mQ;split;rename_i t ht;exact h t (List.mem_of_find?_eq_some ht);simp[GW,anp]
structure arj(t:gL):Prop where
 rules:t.br.length<=20
 YY:∀r∈t.br,YE r
 zones:t.cm.length<=20
 land:t.land.length<=20
 lots:∀l∈t.land,GW l
 cA:t.cA.length<=5
 ar6:∀e∈t.cA,e.area.length<=10
theorem Ub{α:Type}(p:α->Bool):∀l:U α,((List.range l.length).filter λi=>(l[i]?).any p).filterMap (λ i=>l[i]?)=l.filter p
 |[]=>rfl
 |a::l=>by
  have ih:=Ub p l;rw[gB,List.range_succ_eq_map,List.filter_cons,List.filter_cons];have e:(List.filter (λ i=>((a::l)[i]?).any p) (List.map Nat.succ (List.range l.length))).filterMap (λ i=>(a::l)[i]?)=l.filter p:=by rw[List.filter_map,List.filterMap_map];exact ih
  cases hp:p a with
  |true|false=>simp[hp];simpa using e
def In(a r:ax):ax:=⟨min a.x0 r.x0,min a.y0 r.y0,max a.x1 r.x1,max a.y1 r.y1⟩
def aj5:U ax->ax
 |[]=>⟨0,0,0,0⟩
 |r::l=>l.foldl In r
def VU(a:U ax):ax×Bool:=bif decide (a≠[])&&cE a then(aj5 a,true)else(⟨0,0,0,0⟩,false)
theorem af4{a:U ax}(ha:a≠[])(hv:∀r∈a,d8 r=true)(hl:a.length<=900)(hn:2000<=n):OA n a=some (aj5 a,true):=by
 unfold OA;have:=lX (l:=a.zip (List.range a.length)) (step:=Bo a) (λ i (s:Bool×Int×Int×Int×Int)=>(s.1,(i:Nat),s.2)) (λ p s=>bif !s.1 then(true,p.1.x0,p.1.y0,p.1.x1,p.1.y1)else(s.1,min s.2.1 p.1.x0,min s.2.2.1 p.1.y0,max s.2.2.2.1 p.1.x1,max s.2.2.2.2 p.1.y1)) (λ s=>s) (λ i hi s=>?_) (λ s=>?_) n (by simp;omega) (false,0,0,0,0);rw[ky]at this;simp only at this;rw[this];cases a with
 |nil=>exact absurd rfl ha
 |cons r l=>
  have gen:∀(l:U ax)(k:U Nat)(s:ax),l.length<=k.length->(l.zip k).foldl (λ (s:Bool×Int×Int×Int×Int) p=>bif !s.1 then(true,p.1.x0,p.1.y0,p.1.x1,p.1.y1)else(s.1,min s.2.1 p.1.x0,min s.2.2.1 p.1.y0,max s.2.2.2.1 p.1.x1,max s.2.2.2.2 p.1.y1)) (true,s.x0,s.y0,s.x1,s.y1)=(true,(l.foldl In s).x0,(l.foldl In s).y0,(l.foldl In s).x1,(l.foldl In s).y1):=by
   intro l
   induction l with
   |nil=>intro k s _;rfl
   |cons r l ih=>
    intro k s hk;cases k with
    |nil=>simp at hk
    |cons j k=>
     rw[List.zip_cons_cons,foldl_cons,foldl_cons];exact ih k (In s r) (by simpa using hk)
  rw[gB,List.range_succ_eq_map,List.zip_cons_cons,foldl_cons];simp only[Bool.not_false,aj];rw[gen l _ r (by simp)];rfl
 have hi':i<a.length:=by simpa using hi
 obtain⟨s1,s2,s3,s4,s5⟩:=s;have ok:=hv _ (getElem_mem hi');simp only[Bo,dR hi',aj,bB hi',ai,jy,ok,Bool.not_true,au,Rm,List.getElem_zip,bn i];obtain⟨s1,s2,s3,s4,s5⟩:=s;have:(a.zip (List.range a.length)).length=a.length:=by simp
 simp[Bo]
theorem adA a (hl:a.length<=900) (hn:2000<=n):Ku n a=some (VU a):=by
 unfold Ku VU;cases a with
 |nil=>rfl
 |cons r l=>
  have e:((((r::l).length:Nat):Int)==0)=false:=by simp;omega
  have e2:decide (r::l≠[])=true:=by simp
  rw[mK (by omega) (by omega) (by omega),e,e2];simp;cases hr:cE (r::l)with
  |false=>rfl
  |true=>
   simp;rw[af4 (by simp) (gU hr).1 hl hn];rfl
theorem Kz{V O:Type}{step:V->J (V⊕O)}(f:Nat->V){s:V}(N:Nat)(o:O)(h0:s=f 0)
 (h1:∀i,i<N->step (f i)=some (.inl (f (i+1)))) (h2:step (f N)=some (.inr o)) (n:Nat) (hn:N<n):iter step n s=some o:=by rw[h0];exact jD f N o h1 h2 n hn
def tb(f:Nat->Nat->Bool):U Bool:=(List.range 144).map λi=>f (i/12) (i%12)
def upd(f:Nat->Nat->Bool)(a b:Nat)(v:Bool):Nat->Nat->Bool:=λx y=>if x=a/\y=b then v else f x y
def aqV(p:Nat->Bool):Bool:=(List.range 12).any p
def R0(w:Nat->Nat->Bool):Nat->Nat->Bool:=λa c=>w a c || aqV λb=>w a b&&w b c
inductive Tc(e:Nat->Nat->Bool):Nat->Nat->Prop
 |one {a b:Nat}:a<12->b<12->e a b=true->Tc e a b
 |trans {a b c:Nat}:Tc e a b->Tc e b c->Tc e a c
theorem Tc.lt{e:Nat->Nat->Bool}{a b:Nat}(h:Tc e a b):a<12/\b<12:=by
 induction h with
 |one h1 h2 _=>exact⟨h1,h2⟩
 |trans _ _ i1 i2=>exact⟨i1.1,i2.2⟩
def bT(v:ay):ax:=ax.mk v.bj v.bo v.be v.bk
def okV(v:ay):Bool:=d8 (bT v)&&(decide (0<=v.ca)&&(decide (v.ca<v.cg)&&(decide (v.cg<=4096)&&((decide (v.use=0) || decide (v.units=0))&&(decide (0<=v.use)&&(decide (v.use<6)&&(decide (0<=v.units)&&decide (v.units<=1048576))))))))
theorem lJ(v:ay):fV v=some (okV v):=by
 unfold fV okV;rw[jy];have e1:decide (v.ca<0)=!decide (0<=v.ca):=by rw[<- decide_not,decide_eq_decide];omega
 have e2:decide (v.ca>=v.cg)=!decide (v.ca<v.cg):=by rw[<- decide_not,decide_eq_decide];omega
 have e3:decide (v.cg>4096)=!decide (v.cg<=4096):=by rw[<- decide_not,decide_eq_decide];omega
 have e4:(v.use !=0)=!decide (v.use=0):=by by_cases h:v.use=0<;>simp[h]
 have e5:(v.units !=0)=!decide (v.units=0):=by by_cases h:v.units=0<;>simp[h]
 rw[e1,e2,e3,e4,e5,show ax.mk v.bj v.bo v.be v.bk=bT v from rfl];simp;generalize d8 (bT v)=a1;generalize decide (0<=v.ca)=a2;generalize decide (v.ca<v.cg)=a3;generalize decide (v.cg<=4096)=a4;generalize decide (v.use=0)=a5;generalize decide (v.units=0)=a6;generalize decide (0<=v.use)=a7;generalize decide (v.use<6)=a8;generalize decide (0<=v.units)=a9;generalize decide (v.units<=1048576)=kO;cases a1<;>cases a2<;>cases a3<;>cases a4<;>cases a5<;>cases a6<;>cases a7<;>cases a8<;>cases a9<;>rfl
theorem pq{v:ay}(h:okV v=true):d8 (bT v)=true:=by rw[okV,aX]at h;exact h.1
def ch(d:aG):U ay:=d.phases.flatMap (·.az)
theorem eM{l:U dF}(h:∀p∈l,p.az.length<=1000):(l.flatMap (·.az)).length<=l.length*1000:=by
 induction l with
 |nil=>simp
 |cons p l ih=>
  have h1:=h p (by simp);have h2:=ih λq hq=>h q (by simp[hq]);simp only[List.flatMap_cons,dZ,gB];omega
def xV(d:aG):Prop:=d.phases.length<=1000/\∀p∈d.phases,p.az.length<=1000
theorem Mq{d:aG}(h:xV d)(hn:1001<=n):lY n d 0 d.phases.length=some (ch d):=by
 obtain⟨h1,h2⟩:=h;unfold lY;have key:=Kz (step:=oF d 0 d.phases.length) (λ i=>(i,(d.phases.take i).flatMap (·.az))) (s:=(0,[])) d.phases.length (ch d) rfl (λ i hi=>by
  have e2:decide (i>=0)=true:=by simp
  have hl:=eM (l:=d.phases.take i) λp hp=>h2 p (List.mem_of_mem_take hp);rw[length_take]at hl;have hv:=h2 _ (getElem_mem hi);generalize hL:(d.phases.take i).flatMap (·.az)=L at hl;have hap:bR L.length L.length d.phases[i].az.length d.phases[i].az.length 72=true:=dS (by omega) (by simp[maxLen];omega);simp only[oF,dR hi,aj,bB hi,ai,e2,hap,fI,aK,bn i];rw[iF hi,List.flatMap_append,hL];simp) (by simp[oF,ch]) n (by omega)
 have hz:aE 0 ([]:U ay).length=true:=rfl;simp[key]
def Rd(v:ay):Int:=(jV v).getD 0
theorem YL(v:ay):jV v=some (Rd v):=by unfold Rd jV;rw[lJ];cases v.extra<;>cases okV v<;>rfl
def FQ(v:ay):Int:=(ng v).getD 0
theorem af6(v:ay):ng v=some (FQ v):=by
 unfold FQ ng;rw[lJ,YL];cases h:okV v with
 |false=>rfl
 |true=>
  have e:=DL (pq h);unfold bT at e;simp[e]
def HJ(f:ay->Int)(l:U ay):Int:=l.foldl (λ s v=>i64.wrap (s+f v)) 0
def Tl(f:ay->Int)(l:U ay):Int:=l.foldl (λ s v=>max s (f v)) 0
theorem aqg a1 a8 {a9:U ay} (hl:a9.length<=1000) (hn:1001<=n):∀a0 a2 a3 a4 a5 a6 a7,lK n a0 a1 a2 a3 a4 a5 a6 a7 a8 a9=some (HJ FQ a9,a0,a1,a2,a3,a4,a5,a6,a7,a8,a9):=by have key:=lX (l:=a9) (step:=ku a9) (λ i s=>(s,i)) (λ v s=>i64.wrap (s+FQ v)) (λ s=>s) (λ i hi s=>by simp only[ku,dR hi,aj,aU hi,bM hi,ai,af6,bn i]) (λ s=>by simp[ku]) n (by omega) 0;rw[ky]at key;unfold lK rG;simp only[key,ai,aK,aj];exact λ_ _ _ _ _ _ _=>rfl
theorem aqh a1 a8 {a9:U ay} (hl:a9.length<=1000) (hn:1001<=n):∀a0 a2 a3 a4 a5 a6 a7,lM n a0 a1 a2 a3 a4 a5 a6 a7 a8 a9=some (HJ (·.units) a9,a0,a1,a2,a3,a4,a5,a6,a7,a8,a9):=by have key:=lX (l:=a9) (step:=kD a9) (λ i s=>(s,i)) (λ v s=>i64.wrap (s+v.units)) (λ s=>s) (λ i hi s=>by simp only[kD,dR hi,aj,aU hi,bM hi,ai,pV,bn i]) (λ s=>by simp[kD]) n (by omega) 0;rw[ky]at key;unfold lM rH;simp only[key,ai,aK,aj];exact λ_ _ _ _ _ _ _=>rfl
theorem ant a1 a8 {a9:U ay} (hl:a9.length<=1000) (hn:1001<=n):∀a0 a2 a3 a4 a5 a6 a7,kz n a0 a1 a2 a3 a4 a5 a6 a7 a8 a9=some (Tl Rd a9,a0,a1,a2,a3,a4,a5,a6,a7,a8,a9):=by have key:=lX (l:=a9) (step:=iP a9) (λ i s=>(s,i)) (λ v s=>max s (Rd v)) (λ s=>s) (λ i hi s=>by simp only[iP,dR hi,aj,aU hi,bM hi,ai,YL,bn i]) (λ s=>by simp[iP]) n (by omega) 0;rw[ky]at key;unfold kz ni;simp only[key,ai,aK,aj];exact λ_ _ _ _ _ _ _=>rfl
theorem anu a1 a8 {a9:U ay} (hl:a9.length<=1000) (hn:1001<=n):∀a0 a2 a3 a4 a5 a6 a7,kC n a0 a1 a2 a3 a4 a5 a6 a7 a8 a9=some (Tl (·.cg) a9,a0,a1,a2,a3,a4,a5,a6,a7,a8,a9):=by have key:=lX (l:=a9) (step:=iQ a9) (λ i s=>(s,i)) (λ v s=>max s v.cg) (λ s=>s) (λ i hi s=>by simp only[iQ,dR hi,aj,aU hi,bM hi,ai,oH,bn i]) (λ s=>by simp[iQ]) n (by omega) 0;rw[ky]at key;unfold kC nk;simp only[key,ai,aK,aj];exact λ_ _ _ _ _ _ _=>rfl
theorem aln(e:bG)(a:Ko){u:Int}(h0:0<=u)(h6:u<6):∃b,lC e a u=some b:=by
 obtain⟨k,rfl⟩:∃k:Nat,u=k:=⟨u.toNat,by omega⟩;have hk:k<6:=by omega
 unfold lC;rw[aU hk,bB (l:=[a.a0,a.a1,a.a2,a.a3,a.a4,a.a5]) hk];exact⟨_,rfl⟩
theorem FR{l:U bG}{φ:(bG×Unit)->J Bool}(p:bG->Bool)(h:∀x∈l,φ (x,())=some (p x))(hl:l.length<=9223372036854775807)(hn:l.length<n):lD n l φ=some (BQ p l):=Gg p h hl hn
theorem aqi(p:dh){u:Int}(h0:0<=u)(h6:u<6)(ht:p.tables.length<n)(ht2:p.tables.length<=9223372036854775807)(hr:∀t∈p.tables,t.rows.length<n/\t.rows.length<=9223372036854775807):∃r,Bg n p u=some r:=by
 have key:∃o,iter (lF n p u) n 0=some o/\True:=by
  have step:∀i (hi:i<p.tables.length),lF n p u i=some (.inl (i+1:Nat))\/∃z,lF n p u i=some (.inr (.inr z)):=by
   intro i hi;obtain⟨r1,r2⟩:=hr _ (getElem_mem hi);simp only[lF,dR hi,aj,bB hi,ai,bn i];cases ByteArray.toList p.tables[i].name==ByteArray.toList ⟨#[116,114,97,102,102,105,99]⟩with
   |false=>exact Or.inl rfl
   |true=>
    right;simp;generalize Ko.mk _ _ _ _ _ _=A;have hx:=FR (n:=n) (l:=p.tables[i].rows) (φ:=λy1=>lC y1.1 A u) (λ e=>(lC e A u).getD false) (λ e _=>by have⟨b,hb⟩:=aln e A h0 h6;simp[hb]) r2 r1;rw[hx];simp[yE];cases hany:p.tables[i].rows.any λe=>(lC e A u).getD false with
    |false=>exact⟨_,rfl⟩
    |true=>
     have⟨j,hj,h1,_⟩:=amI hany;rw[h1];simp only[aj,bB hj,ai];exact⟨_,rfl⟩
  have main:∀k i m,i+k=p.tables.length->k<m->∃o,iter (lF n p u) m i=some o/\True:=by
   intro k
   induction k with
   |zero=>
    intro i m hi hm;obtain⟨q,rfl⟩:∃q,m=q+1:=⟨m-1,by omega⟩;have:i=p.tables.length:=(by omega);subst this;exact⟨.inl (),dn (by simp[lF]),trivial⟩
   |succ k ih=>
    intro i m hi hm;obtain⟨q,rfl⟩:∃q,m=q+1:=⟨m-1,by omega⟩;rcases step i (by omega)with h|⟨z,h⟩;rw[dV h];exact ih (i+1) q (by omega) (by omega);exact⟨_,dn h,trivial⟩
  exact main p.tables.length 0 n (by omega) ht
 obtain⟨o,h1,_⟩:=key;unfold Bg;rw[h1];cases o with
 |inl w|inr r=>exact⟨_,rfl⟩
theorem aip(p:dh){v:ay}(hv:okV v=true)(ht:p.tables.length<n)(ht2:p.tables.length<=9223372036854775807)(hr:∀t∈p.tables,t.rows.length<n/\t.rows.length<=9223372036854775807):∃r,jW n p v=some r:=by
 simp[okV]at hv;have⟨r,h1⟩:=aqi (n:=n) p (u:=v.use) hv.2.2.2.2.2.1 hv.2.2.2.2.2.2.1 ht ht2 hr;unfold jW;rw[h1,af6];simp;have e100:(100 !=0)=true:=rfl;by_cases h:r>0;have e:(r !=0)=true:=by simp;omega
 have e2:decide (r>0)=true:=by simpa using h
 rw[e,e2];simp;cases decide (FQ v>i64.wrap (Int.tdiv 109951162777600 r))<;>exact⟨_,rfl⟩;have e2:decide (r>0)=false:=by simpa using h
 rw[e2];exact⟨_,rfl⟩
def apE(n:Nat)(ts:U dD)(v:ay):Int:=(jW n (dh.mk [] ts [] [] [] [] [] 0) v).getD 0
theorem aqj a1 a8 {a9:U ay} (hl:a9.length<=1000) (hn:1001<=n) (hv:∀v∈a9,okV v=true) (ht:a1.length<n) (ht2:a1.length<=9223372036854775807) (hr:∀t∈a1,t.rows.length<n/\t.rows.length<=9223372036854775807):∀a0 a2 a3 a4 a5 a6 a7,jS n a0 a1 a2 a3 a4 a5 a6 a7 a8 a9=some (HJ (apE n a1) a9,a0,a1,a2,a3,a4,a5,a6,a7,a8,a9):=by have key:=λa0 a2 a3 a4 a5 a6 a7=>gD (l:=a9) (step:=kF n a9) (λ i s=>(s,i,a0,a1,a2,a3,a4,a5,a6,a7,a8,a9)) (λ v s=>i64.wrap (s+(jW n (dh.mk [] a1 [] [] [] [] [] 0) v).getD 0)) (λ s=>(s,a0,a1,a2,a3,a4,a5,a6,a7,a8,a9)) (λ _ _=>True) (λ i hi s _=>⟨by obtain⟨r,h1⟩:=aip (n:=n) (dh.mk [] a1 [] [] [] [] [] 0) (hv _ (getElem_mem hi)) ht ht2 hr;have h2:jW n (dh.mk a0 a1 a2 a3 a4 a5 a6 a7) a9[i]=some r:=h1;simp only[kF,dR hi,aj,aU hi,bM hi,ai,lG,h1,h2,aK,bn i,Option.getD_some],trivial⟩) (λ s _=>by simp[kF]) n (by omega) 0 trivial;have key:=λa0 a2 a3 a4 a5 a6 a7=>(ky) ▸ key a0 a2 a3 a4 a5 a6 a7;unfold jS rJ;simp only[key,ai,aK,aj];exact λ_ _ _ _ _ _ _=>rfl
theorem anv{α β:Type}(l:U α)(f:α->β)(z:β){i:Nat}(hi:i<l.length):((l.take i).map f++List.replicate (l.length-i) z).set i (f l[i])=(l.take (i+1)).map f++List.replicate (l.length-(i+1)) z:=by
 have h1:((l.take i).map f).length=i:=by simp;omega
 rw[List.set_append_right _ _ (by omega),h1,Nat.sub_self,show l.length-i=(l.length-(i+1))+1 by omega,List.replicate_succ,List.set_cons_zero,iF hi,map_append,aV];rfl
theorem anw{α β:Type}(l:U α)(f:α->β)(z:β){i:Nat}(hi:i<=l.length):((l.take i).map f++List.replicate (l.length-i) z).length=l.length:=by simp;omega
theorem anx{α β:Type}(l:U α)(f:α->β)(z:β){i:Nat}(hi:i<l.length):((l.take (i+1)).map f++List.replicate (l.length-(i+1)) z)[i]? =some (f l[i]):=by rw[List.getElem?_append_left (by simp;omega)];simp[hi]
theorem anz{l:U ay}(hl:l.length<=1000)(hn:1001<=n):iter (ic l) n (0,List.replicate l.length (ax.mk 0 0 0 0),[])=some (l.map bT,l.flatMap λv=>[v.bj,v.be]):=by
 refine Kz (step:=ic l) (λ i=>(i,(l.take i).map bT++List.replicate (l.length-i) (ax.mk 0 0 0 0),(l.take i).flatMap λv=>[v.bj,v.be])) l.length _ ?_ (λ i hi=>?_) ?_ n (by omega);simp;have h1:=anw l bT (ax.mk 0 0 0 0) (Nat.le_of_lt hi);have h2:=anv l bT (ax.mk 0 0 0 0) hi;have h3:=anx l bT (ax.mk 0 0 0 0) hi;have h4:((l.take i).flatMap λv=>[v.bj,v.be]).length=2*i:=by
  have:∀m:U ay,(m.flatMap λv=>[v.bj,v.be]).length=2*m.length:=by
   intro m;induction m with
   |nil=>rfl
   |cons a m ih=>simp[ih];omega
  rw[this,length_take];omega
 generalize (l.take i).map bT++List.replicate (l.length-i) (ax.mk 0 0 0 0)=B at h1 h2;have e0:(((0:Nat):Int)+i).toNat=i:=by omega
 have et:(l.length:Int).toNat=l.length:=by omega
 have hb:ax.mk l[i].bj l[i].bo l[i].be l[i].bk=bT l[i]:=rfl;have hiB:i<B.length:=by omega
 rw[<- h2]at h3;have g3:bu (B.set i (bT l[i])) ((0:Nat)+i)=some (bT l[i]):=by rw[oC];exact h3
 have hs:sub ([(bT l[i]).x0,(bT l[i]).x1]:U Int) 0 2=[(bT l[i]).x0,(bT l[i]).x1]:=rfl;have hap:bR (2*i) (2*i) 2 2 8=true:=dS (by omega) (by simp[maxLen];omega);have hl2:([(bT l[i]).x0,(bT l[i]).x1]:U Int).length=2:=rfl;simp only[ic,dR hi,aj,aU hi,bM hi,ai,et,bM hiB,e0,hb,g3,hs,hl2,h4,hap,fI,aK,bn i];rw[<- h2,iF hi,List.flatMap_append];rfl;simp only[ic,Ym,au,aK,aj,List.take_length];simp
def cst(x w:Int)(s:Int×Int)(r:ax):Int×Int:=
 bif decide (r.x0<=x)&&(decide (x<r.x1)&&decide (r.y1>s.2))then(i64.wrap (s.1+i64.wrap (i64.wrap w*i64.wrap (r.y1-max s.2 r.y0))),r.y1)else s
def Th(R:U ax)(X:U Int)(n:Int)(k:Nat):Int:=(R.foldl (cst (X.getD k 0) (X.getD (k+1) 0-X.getD k 0)) (n,0)).1
def aiq(R:U ax)(X:U Int):Int:=(List.range (X.length-1)).foldl (Th R X) 0
def Wg(l:U ay):Int:=aiq (qw yf (l.map bT)) (kR pb (l.flatMap λv=>[v.bj,v.be]))
theorem anA{l:U ay}{R:U ax}{X:U Int} w2 (hR:R.length=l.length) (hX:X.length=w2.length) (hl:l.length<=1000) (hn:1001<=n) {k:Nat} (hk:k+1<w2.length) (hw:w2.length<=10000) s:iter (ig l w2 R X k) n (s,0,0)=some (Th R X s k):=by
 have et:((l.length:Int).toNat)=l.length:=by omega
 have ew:i64.wrap (k+1)=(k+1:Nat):=aO (by omega);have g1:X.getD k 0=X[k]'(by omega):=by simp[show k<X.length by omega]
 have g2:X.getD (k+1) 0=X[k+1]'(by omega):=by simp[show k+1<X.length by omega]
 unfold Th;rw[g1,g2];refine lX (l:=R) (step:=ig l w2 R X k) (λ i (s:Int×Int)=>(s.1,s.2,i)) (λ r s=>cst (X[k]'(by omega)) (X[k+1]'(by omega)-X[k]'(by omega)) s r) (λ s=>s.1) (λ i hi v=>?_) (λ v=>?_) n (by omega) (s,0);obtain⟨a,b⟩:=v;simp only[ig,et,dR (show i<l.length by omega),aj,aU (show i<l.length by omega),bM (show i<R.length by omega),ai,aU (show k<w2.length by omega),bM (show k<X.length by omega),ew,aU hk,bM (show k+1<X.length by omega),bn i,cst];cases decide ((R[i]'(by omega)).x0<=X[k]'(by omega))with
 |false=>rfl
 |true=>
  simp;cases decide (X[k]'(by omega)<(R[i]'(by omega)).x1)with
  |false=>rfl
  |true=>
   cases decide ((R[i]'(by omega)).y1>b)<;>rfl
 obtain⟨a,b⟩:=v;simp[ig,hR]
theorem anB a1 a8 {a9:U ay} (hl:a9.length<=1000) (hn:10000<=n):∀a0 a2 a3 a4 a5 a6 a7,ji n a0 a1 a2 a3 a4 a5 a6 a7 a8 a9=some (Wg a9,a0,a1,a2,a3,a4,a5,a6,a7,a8,a9):=by
 have et:((a9.length:Int).toNat)=a9.length:=by omega
 have mk:xN (a9.length:Nat) 32=true:=aj2 (by omega) (by simp[maxLen];omega);have d1:decide ((a9.length:Nat)<=(a9.length:Nat))=true:=by simp
 have d2:decide (0<=(a9.length:Nat))=true:=by simp
 have hz:aE 0 ([]:U Int).length=true:=rfl;have hx:(a9.flatMap λv=>[v.bj,v.be]).length<=2000:=by
  have:∀m:U ay,(m.flatMap λv=>[v.bj,v.be]).length=2*m.length:=by
   intro m;induction m with
   |nil=>rfl
   |cons a m ih=>simp[ih];omega
  rw[this];omega
 unfold ji;rw[et,anz hl (by omega)];unfold Wg;generalize (a9.flatMap λv=>[v.bj,v.be])=W at hx;have srt:=KH (n:=n) (l:=a9.map bT) (φ:=λy1=>jh y1.1 y1.2.1) (λ x y=>if x.y0<y.y0 then -1 else if y.y0<x.y0 then 1 else 0) (λ x y=>by show jh x y=_;unfold jh;rw[jw];rfl) (λ x y=>by unfold yf;rw[decide_eq_decide];constructor;intro h;split at h;assumption;split at h<;>omega;intro h;rw[aY h];decide) (by simp;omega) (by simp;omega);have hm:aE a9.length (a9.map bT).length=true:=by simp
 have hR:(qw yf (a9.map bT)).length=a9.length:=by rw[E9 aj4];simp
 have hX:(kR pb W).length=W.length:=(Fb pb W).length_eq;simp[mk,srt,nV (show W.length<1099511627776 by omega) (show W.length<n by omega)];generalize qw yf (a9.map bT)=R at hR;generalize kR pb W=X at hX;have key:iter (iq n a9 W R X) n (0,0)=some (aiq R X):=by
  have eN:max 0 (i64.wrap ((W.length:Nat)-1))=(W.length-1:Nat):=by
   cases h:W.length with
   |zero=>rfl
   |succ k=>rw[jq (by omega) (by omega)];omega
  have hrl:(List.range (X.length-1)).length=W.length-1:=by rw[List.length_range];omega
  unfold aiq;refine lX (l:=List.range (X.length-1)) (step:=iq n a9 W R X) (λ i s=>(s,i)) (λ k s=>Th R X s k) (λ s=>s) (λ i hi s=>?_) (λ s=>?_) n (by omega) 0;have hi':i<W.length-1:=by omega
  simp only[iq,eN,dR hi',aj,anA (n:=n) (l:=a9) (R:=R) (X:=X) W hR hX hl (by omega) (k:=i) (by omega) (by omega) s,ai,bn i,List.getElem_range];simp[iq,eN,hrl]
 rw[key];exact λ_ _ _ _ _ _ _=>rfl
def Q4(b:ax)(k:Int):ax:=⟨b.x0-k,b.y0-k,b.x1+k,b.y1+k⟩
def FT(area:U ax)(b:ax)(k:Int):Bool:=d8 (Q4 b k)&&decide (area.foldl (λ s y=>YD (Q4 b k) s y) 0=Q1 (Q4 b k))
theorem alo(b:ax) k a2 a3 a4 a5 a6 a7 a8 a9 {kO:U ax} tP (hb:d8 b=true) (h0:0<=k) (h1:k<=1048576) (hl:kO.length<=1000) (hn:1001<=n):
 kE n b k a2 a3 a4 a5 a6 a7 a8 a9 kO tP=some (FT kO b k,a2,a3,a4,a5,a6,a7,a8,a9,kO,tP):=by
 rw[aoV]at hb;unfold kE BV FT;rw[aQ (x:=b.x0-k),aQ (x:=b.y0-k),aQ (x:=b.x1+k),aQ (x:=b.y1+k),show ax.mk (b.x0-k) (b.y0-k) (b.x1+k) (b.y1+k)=Q4 b k from rfl,jy];generalize Q4 b k=g;simp;cases hg:d8 g with
 |false=>simp
 |true=>
  have key:=lX (l:=kO) (step:=je kO (g,true)) (λ i s=>(s,i)) (λ y s=>YD g s y) (λ s=>s) (λ i hi s=>by
   simp only[je,dR hi,aj,bB hi,ai,u6,bn i,YD];cases h1:d8 g with
   |false=>rfl
   |true=>
    cases h2:d8 kO[i]with
    |false=>rfl
    |true=>
     cases h3:d8 (vJ g kO[i])with
     |false=>rfl
     |true=>simp[DL h3]) (λ s=>by simp[je]) n (by omega) 0
  rw[ky]at key;simp[key,DL hg];congr 2
def Ry(p:Int->Bool):Nat->Int->Int->Int
 | 0,lo,_=>lo
 |k+1,lo,hi=>bif decide (lo<hi)then(bif p ((lo+hi+1)/2)then Ry p k ((lo+hi+1)/2) hi else Ry p k lo ((lo+hi+1)/2-1))else lo
theorem adC(p:Int->Bool):∀k lo hi,lo<=hi->lo<=Ry p k lo hi/\Ry p k lo hi<=hi
 | 0,lo,hi,h=>by simp[Ry];omega
 |k+1,lo,hi,h=>by
  simp[Ry];by_cases h1:lo<hi;have e:decide (lo<hi)=true:=by simpa using h1
  rw[e,aj];cases p ((lo+hi+1)/2)with
  |true=>have:=adC p k ((lo+hi+1)/2) hi (by omega);simp;omega
  |false=>have:=adC p k lo ((lo+hi+1)/2-1) (by omega);simp;omega
  have e:decide (lo<hi)=false:=by simpa using h1
  rw[e,au];omega
theorem air{v:ay}(hv:d8 (bT v)=true) a2 a3 a4 a5 a6 a7 a8 a9 {kO:U ax} tP (hl:kO.length<=1000) (hn:1001<=n):
 ∀(k:Nat) lo hi m,0<=lo->lo<=hi->hi<=1048576->hi-lo<2 ^ k->k<m->iter (fq n v) m (lo,hi,a2,a3,a4,a5,a6,a7,a8,a9,kO,tP)=some (Ry (FT kO (bT v)) k lo hi,a2,a3,a4,a5,a6,a7,a8,a9,kO,tP):=by
 intro k
 induction k with
 |zero=>
  intro lo hi m h0 h1 h2 h3 hm;obtain⟨q,rfl⟩:∃q,m=q+1:=⟨m-1,by omega⟩;have:lo=hi:=by simp at h3;omega
  subst this;refine dn ?_;have e:decide (lo<lo)=false:=by simp
  simp[fq,Ry]
 |succ k ih=>
  intro lo hi m h0 h1 h2 h3 hm;obtain⟨q,rfl⟩:∃q,m=q+1:=⟨m-1,by omega⟩;have hp:(2:Int) ^ (k+1)=2*2 ^ k:=by rw[Int.pow_succ];omega
  rw[hp]at h3;by_cases hlt:lo<hi;have e:decide (lo<hi)=true:=by simpa using hlt
  have e2:((2:Nat) !=0)=true:=rfl;have em:i64.wrap (Int.tdiv (i64.wrap (i64.wrap (lo+hi)+1)) 2)=(lo+hi+1)/2:=by rw[aQ (x:=lo+hi),aQ (x:=lo+hi+1),Int.tdiv_eq_ediv_of_nonneg (by omega),aQ (by omega) (by omega)]
  have hi2:=alo (n:=n) (bT v) ((lo+hi+1)/2) a2 a3 a4 a5 a6 a7 a8 a9 (kO:=kO) tP hv (by omega) (by omega) hl hn;unfold bT at hi2;cases hc:FT kO (bT v) ((lo+hi+1)/2)with
  |true=>
   rw[dV (v':=((lo+hi+1)/2,hi,a2,a3,a4,a5,a6,a7,a8,a9,kO,tP)) (by unfold bT at hc;simp[fq,e,em,hi2,hc]),ih _ _ _ (by omega) (by omega) (by omega) (by omega) (by omega)];simp[Ry,e,hc]
  |false=>
   rw[dV (v':=(lo,(lo+hi+1)/2-1,a2,a3,a4,a5,a6,a7,a8,a9,kO,tP)) (by unfold bT at hc;simp[fq,e,em,hi2,hc,aQ (x:=(lo+hi+1)/2-1)]),ih _ _ _ (by omega) (by omega) (by omega) (by omega) (by omega)];simp[Ry,e,hc]
  have e:decide (lo<hi)=false:=by simpa using hlt
  refine dn ?_;simp[fq,e,Ry]
def DT(area:U ax)(l:U ay):Int:=l.foldl (λ b v=>Ry (FT area (bT v)) 21 0 b) 1048576
theorem ais a0 a1 a2 a3 a4 a5 a6 a7 {a8:U ax} {a9:U ay} (hv:∀v∈a9,okV v=true) (hl:a9.length<=1000) (h8:a8.length<=1000) (hn:1001<=n):jR n a0 a1 a2 a3 a4 a5 a6 a7 a8 a9=some (DT a8 a9,a0,a1,a2,a3,a4,a5,a6,a7,a8,a9):=by have key:=gD (l:=a9) (step:=iY n a9) (λ i s=>(s,i,a0,a1,a2,a3,a4,a5,a6,a7,a8,a9)) (λ v s=>Ry (FT a8 (bT v)) 21 0 s) (λ s=>(s,a0,a1,a2,a3,a4,a5,a6,a7,a8,a9)) (λ _ s=>0<=s/\s<=1048576) (λ i hi s hs=>by have h1:=air (n:=n) (pq (hv _ (getElem_mem hi))) a0 a1 a2 a3 a4 a5 a6 a7 (kO:=a8) a9 h8 hn 21 0 s n (by omega) hs.1 hs.2 (by have:2 ^ 21=2097152:=rfl;omega) (by omega);have h2:=adC (FT a8 (bT a9[i])) 21 0 s hs.1;refine⟨?_,by omega,by omega⟩;simp only[iY,dR hi,aj,aU hi,bM hi,ai,aK,h1,bn i]) (λ s _=>by simp[iY]) n (by omega) 1048576 (by omega);rw[ky]at key;unfold jR;simp[key];rfl
def iL(d:aG):U ay:=((ch d).take 40).filter okV
theorem adD(d:aG):∀v∈iL d,okV v=true:=λv hv=>(mem_filter.1 hv).2
theorem aak(d:aG):(iL d).length<=40:=Nat.le_trans (length_filter_le _ _) (by rw[length_take];omega)
def sG(lot:j5):U ax:=bif cE lot.area then lot.area else []
theorem aqW{l:U ay} a0 a1 a2 a3 a4 a5 a6 a7 a8 (hl:l.length<=9223372036854775807) (hn:l.length<n):
 iter (rV l) n (0,a0,a1,a2,a3,a4,a5,a6,a7,a8,[])=some (a0,a1,a2,a3,a4,a5,a6,a7,a8,(l.take 40).filter okV):=by
 refine Kz (step:=rV l) (λ i=>(i,a0,a1,a2,a3,a4,a5,a6,a7,a8,((l.take i).take 40).filter okV)) l.length _ (by simp) (λ i hi=>?_) ?_ n hn;have hlen:(((l.take i).take 40).filter okV).length<=40:=Nat.le_trans (length_filter_le _ _) (by rw[length_take];omega);have e40:decide ((i:Int)<40)=decide (i<40):=by rw[decide_eq_decide];omega
 have hs:sub ([l[i]]:U ay) 0 1=[l[i]]:=rfl;have hN:((l.take (i+1)).take 40).filter okV=((l.take i).take 40).filter okV++(bif decide (i<40)&&okV l[i]then [l[i]]else []):=by
  by_cases h:i<40;have h1:(l.take i).take 40=l.take i:=take_of_length_le (by rw[length_take];omega);have h2:(l.take (i+1)).take 40=l.take (i+1):=take_of_length_le (by rw[length_take];omega);have h3:decide (i<40)=true:=by simpa using h
  rw[h1,h2,iF hi,List.filter_append,h3];cases h4:okV l[i]<;>simp[h4];have h3:decide (i<40)=false:=by simpa using h
  rw[List.take_take,List.take_take,h3,show min 40 (i+1)=40 by omega,show min 40 i=40 by omega];simp
 rw[hN];generalize ((l.take i).take 40).filter okV=L at hlen;have hap:bR L.length L.length 1 1 72=true:=dS (by omega) (by simp[maxLen];omega);simp only[rV,dR hi,aj,aU hi,bM hi,ai,e40,lJ,bn i];cases decide (i<40)with
 |false=>simp
 |true=>
  simp;cases okV l[i]with
  |false=>simp
  |true=>simp[hs,hap]
 simp[rV]
def ait(n:Nat)(p:dh):Prop:=p.tables.length<n/\p.tables.length<=9223372036854775807/\∀t∈p.tables,t.rows.length<n/\t.rows.length<=9223372036854775807
def DU:ByteArray:=⟨#[115,101,116,98,97,99,107]⟩
def aqX(n:Nat)(ts:U dD)(A:U ax)(l:U ay):U bG:=[⟨⟨#[97,114,101,97]⟩,bif cE A then Mk A else 0⟩,⟨⟨#[99,111,118,101,114]⟩,Wg l⟩,⟨⟨#[102,108,111,111,114]⟩,HJ FQ l⟩,⟨⟨#[102,108,111,111,114,115]⟩,Tl Rd l⟩,⟨⟨#[104,101,105,103,104,116]⟩,Tl (·.cg) l⟩,⟨⟨#[104,111,109,101,115]⟩,HJ (·.units) l⟩,⟨⟨#[114,117,110,111,102,102]⟩,Wg l⟩,⟨DU,DT A l⟩,⟨⟨#[116,114,97,102,102,105,99]⟩,HJ (apE n ts) l⟩]
theorem aqY{p:dh}{lot:j5}{d:aG}(hp:ait n p)(hl:lot.area.length<=900)(hd:xV d)(hn:2000000<=n):∀D Z R C V S H,oI n (dh.mk D p.tables Z R C V S H) lot d=some (aqX n p.tables (sG lot) (iL d)):=by
 have hs1:sG lot=(bif cE lot.area then lot.area else []):=rfl;have hsl:(sG lot).length<=900:=by unfold sG;cases cE lot.area<;>simp[hl]
 have hvl:=aak d;have HE:=adD d;have hfl:=eM hd.2;have hd1:=hd.1;obtain⟨hp1,hp2,hp3⟩:=hp;have hz:aE 0 ([]:U ay).length=true:=rfl;have L5:∀D Z R C V S H,((bif cE lot.area then some (D,p.tables,Z,R,C,V,S,H,lot.area)else some (D,p.tables,Z,R,C,V,S,H,[])):J ((List gZ)×(List dD)×(List fO)×(List dw)×(List jE)×(List iD)×(List dI)×Int×(List ax)))=some (D,p.tables,Z,R,C,V,S,H,sG lot):=by intro D Z R C V S H;rw[hs1];cases cE lot.area<;>rfl
 have h2:=anB (n:=n) p.tables (sG lot) (a9:=iL d) (by omega) (by omega);have h3:=aqg (n:=n) p.tables (sG lot) (a9:=iL d) (by omega) (by omega);have h4:=ant (n:=n) p.tables (sG lot) (a9:=iL d) (by omega) (by omega);have h5:=anu (n:=n) p.tables (sG lot) (a9:=iL d) (by omega) (by omega);have h6:=aqh (n:=n) p.tables (sG lot) (a9:=iL d) (by omega) (by omega);have h8:=λD Z R C V S H=>ais (n:=n) D p.tables Z R C V S H (a8:=sG lot) (a9:=iL d) HE (by omega) (by omega) (by omega);have h9:=aqj (n:=n) p.tables (sG lot) (a9:=iL d) (by omega) (by omega) HE hp1 hp2 hp3;intro D Z R C V S H;unfold oI;rw[mK (by omega) (by omega) (by omega),Mq hd (by omega)];simp[L5];rw[aqW (n:=n) D p.tables Z R C V S H (sG lot) (by show(ch d).length<=_;unfold ch;omega) (by show(ch d).length<_;unfold ch;omega)];have hr:((ch d).take 40).filter okV=iL d:=rfl;have s1:∀e:bG,sub ([e]:U bG) 0 1=[e]:=λ_=>rfl;have ap:∀k,k<=20->bR k k 1 1 24=true:=λk hk=>dS (by omega) (by simp[maxLen];omega);have lot:nL n D p.tables Z R C V S H (sG lot) (iL d)=some (bif cE (sG lot)then Mk (sG lot)else 0,D,p.tables,Z,R,C,V,S,H,sG lot,iL d):=by unfold nL;rw[Yy (by omega) (by omega)];simp
 simp[hr,lot,h2,h3,h4,ap 4 (by omega),h5,ap 5 (by omega),h6,ap 6 (by omega),h8,ap 7 (by omega),h9,ap 8 (by omega),Nat.reduceAdd,fJ];rfl
theorem aqk{p:dh}{lot:j5}{d:aG}(hp:ait n p)(hl:lot.area.length<=900)(hd:xV d)(hn:2000000<=n):∃e1 e2 e3 e4 e5 e6 e7 e8:Int,∀D Z R C V S H,oI n (dh.mk D p.tables Z R C V S H) lot d=some [⟨⟨#[97,114,101,97]⟩,e1⟩,⟨⟨#[99,111,118,101,114]⟩,e2⟩,⟨⟨#[102,108,111,111,114]⟩,e3⟩,⟨⟨#[102,108,111,111,114,115]⟩,e4⟩,⟨⟨#[104,101,105,103,104,116]⟩,e5⟩,⟨⟨#[104,111,109,101,115]⟩,e6⟩,⟨⟨#[114,117,110,111,102,102]⟩,e7⟩,⟨DU,DT (sG lot) (iL d)⟩,⟨⟨#[116,114,97,102,102,105,99]⟩,e8⟩]:=⟨_,_,_,_,_,_,_,_,aqY (n:=n) hp hl hd hn⟩
theorem aqZ{p:dh}{lot:j5}{d:aG}(hp:ait n p)(hl:lot.area.length<=900)(hd:xV d)(hn:2000000<=n):∃e1 e2 e3 e4 e5 e6 e7 e8:Int,∀R:U dw,oI n (dh.mk p.defs p.tables p.zones R p.caps p.views p.xa p.hours) lot d=some [⟨⟨#[97,114,101,97]⟩,e1⟩,⟨⟨#[99,111,118,101,114]⟩,e2⟩,⟨⟨#[102,108,111,111,114]⟩,e3⟩,⟨⟨#[102,108,111,111,114,115]⟩,e4⟩,⟨⟨#[104,101,105,103,104,116]⟩,e5⟩,⟨⟨#[104,111,109,101,115]⟩,e6⟩,⟨⟨#[114,117,110,111,102,102]⟩,e7⟩,⟨DU,DT (sG lot) (iL d)⟩,⟨⟨#[116,114,97,102,102,105,99]⟩,e8⟩]:=by have⟨e1,e2,e3,e4,e5,e6,e7,e8,h⟩:=aqk (n:=n) hp hl hd hn;exact⟨e1,e2,e3,e4,e5,e6,e7,e8,λR=>h _ _ R _ _ _ _⟩
theorem aj6(ds:U (ByteArray×ET)) s:∀(k:Nat) i,N9 ds s k=some i->0<=i/\i<k
 | 0,i,h=>by simp[N9]at h
 |k+1,i,h=>by simp[N9]at h;split at h;cases h;omega;have:=aj6 ds s k i h;omega
theorem aoY{ds:U (ByteArray×ET)}(h:sq ds<=4000000):yq (pU ds) ds.length:=by have hl:=VH ds;refine⟨by simp[pU],by omega,λl hl=>?_⟩;simp only[pU,mem_map]at hl;obtain⟨d,hd,rfl⟩:=hl;have h1:=VI hd;have h2:=ET.py d.2;have h3:=aft d.2.names;refine⟨Nat.le_trans (List.length_filterMap_le _ _) (by omega),λk hk=>?_⟩;simp[iW]at hk;obtain⟨s,_,hk⟩:=hk;exact aj6 ds s _ k hk
theorem af8{M:U ByteArray}(hM:M.length<=1000)(hn:1001<=n)(w0:U (ByteArray×Bool)):∃w,iter (oW M) n (0,w0)=some w:=by obtain⟨o,h,_⟩:=fu (step:=oW M) (λ i (v:Int×List (ByteArray×Bool))=>∃w,v=((i:Int),w)/\i<=M.length) (λ _=>True) M.length (λ k v ⟨_,_,h⟩=>h) (by rintro i v ⟨w,rfl,hi⟩;by_cases hlt:i<M.length;simp only[oW,show decide ((i:Int)<M.length)=true from by simp;omega,aj,aU hlt,bM hlt,ai,bn i];exact .inl ⟨_,rfl,_,rfl,hlt⟩;simp only[oW,show decide ((i:Int)<M.length)=false from by simp;omega,au];exact .inr ⟨_,rfl,trivial⟩) n 0 (0,w0) ⟨_,rfl,Nat.zero_le _⟩ (by omega);exact⟨o,h⟩
theorem af9{p:dh}(hp:p.defs.length<=4000000)(hn:4000001<=n)(w0:U (ByteArray×Bool)):iter (l6 p) n (0,w0)=some (.inl ())\/iter (l6 p) n (0,w0)=some (.inr ([],[],5)):=by
 obtain⟨o,h,h2⟩:=fu (step:=l6 p) (λ i (v:Int×List (ByteArray×Bool))=>∃w,v=((i:Int),w)/\i<=p.defs.length) (λ o=>o=.inl ()\/o=.inr ([],[],5)) p.defs.length (λ k v ⟨_,_,h⟩=>h) (by
  rintro i v ⟨w,rfl,hi⟩;by_cases hlt:i<p.defs.length;simp only[l6,show decide ((i:Int)<p.defs.length)=true from by simp;omega,aj,bB hlt,ai,bn i];cases (iC Gb.gA p.defs[i].name w).getD false with
  |true=>exact .inr ⟨_,rfl,.inr rfl⟩
  |false=>exact .inl ⟨_,rfl,_,rfl,hlt⟩
  simp only[l6,show decide ((i:Int)<p.defs.length)=false from by simp;omega,au];exact .inr ⟨_,rfl,.inl rfl⟩) n 0 (0,w0) ⟨_,rfl,Nat.zero_le _⟩ (by omega)
 rcases h2 with rfl|rfl;exact .inl h;exact .inr h
theorem aga:∃M,xS=some M/\M.length=9:=⟨_,rfl,rfl⟩
def io(l:U gZ):Prop:=sq (l.map toD)<=4000000
theorem io.len{l:U gZ}(h:io l):l.length<=4000000:=by have:=VH (l.map toD);rw[length_map]at this;unfold io at h;omega
theorem io.body{l:U gZ}(h:io l){d:gZ}(hd:d∈l):(toE (bZ.mk d.ju d.mn d.lj d.jn d.ez)).wt<=4000000:=by have h1:=VI (mem_map.2 ⟨d,hd,rfl⟩:toD d∈l.map toD);unfold io at h;simp[toD,ET.wt]at h1;simp[toE,ET.wt];omega
theorem UD{p:dh}(hp:io p.defs)(hn:5000003<=n):∃r,oL n p=some r/\r.1.length<=p.defs.length/\(∀ k∈r.1,0<=k/\k<p.defs.length)/\r.2.1.length<=p.defs.length+1:=by
 obtain⟨M,hM,hM9⟩:=aga;obtain⟨w,hw⟩:=af8 (n:=n) (M:=M) (by omega) (by omega) [];have hg:yq (pU (p.defs.map toD)) p.defs.length:=by have:=aoY hp;rwa [length_map]at this
 have SD:l5 p.defs=some (p.defs,pU (p.defs.map toD)):=by unfold l5;rw[Nat.ble_eq_true_of_le hp];rfl
 simp only[oL,hM,ai,hw];rcases af9 (n:=n) (p:=p) hp.len (by omega) w with h|h;have⟨c,hc,hc2,hc3⟩:=afF (n:=n) (a0:=p.defs) hg rfl hn;simp only[h,gM,SD,ai,hc];cases h0:(c.length==0)with
 |true=>
  have e:c=[]:=List.eq_nil_of_length_eq_zero (by simpa using h0);obtain⟨l,hl,hll,hlr⟩:=ane (n:=n) (a0:=qx.mk p.defs (pU (p.defs.map toD))) hg rfl (hc2 e) (by omega);simp only[aj,ai,au,hl,fJ,aK];exact⟨_,rfl,by simp[hll],hlr,by simp⟩
 |false=>
  simp only[aj,ai,au,fJ,aK];exact⟨_,rfl,by simp,by simp,hc3⟩
 simp only[h,nO];exact⟨_,rfl,by simp,by simp,by simp⟩
theorem DW(x:bZ):bZ.mk x.op x.n x.s x.key x.args=x:=by cases x;rfl
theorem O6:∀l:U bZ,Jg l=l.map toE
 |[]=>rfl
 |x::xs=>by simp[Jg,O6 xs]
theorem aj7:∀{l:U ET}{t:ET},t∈l->t.wt<=ET.tU l
 |x::l,t,h=>by simp[ET.tU];rcases aL.1 h with rfl|h;omega;have:=aj7 h;omega
theorem aiu{e x:bZ}(h:x∈e.args):(toE x).wt<(toE e).wt:=by have h1:(toE x).wt<=ET.tU (Jg e.args):=aj7 (by rw[O6];exact mem_map.2 ⟨x,h,rfl⟩);cases e;simp[toE,ET.wt]at *;omega
theorem adE(e:bZ):e.args.length<(toE e).wt:=by have h1:=ET.rS (Jg e.args);rw[O6,length_map]at h1;cases e;simp[toE,ET.wt,O6]at *;omega
def VR:Nat->bZ->Prop
 | 0,_=>False
 |k+1,e=>zK e.op=some ((e.args.length:Int),true)/\∀x∈e.args,VR k x
theorem aiv op:∃a b,zK op=some (a,b):=by simp only[zK];cases (op==0)<;>cases (op==1)<;>cases (op==2)<;>cases (op==3)<;>cases (op==9)<;>cases (op==15)<;>cases (op==16)<;>cases (decide (op>=0))<;>exact⟨_,_,rfl⟩
theorem abW(hn:4000002<=n):∀(m:Nat)(e:bZ)(a:Int),m<=9223372036854775000->0<=a->a<=12->13<=a+m->(toE e).wt<=4000000->∃r,tY n m e a=some r/\1<=r/\r<=13+m/\(r<=12->VR m e)
 | 0,_,_,_,_,_,h,_=>absurd h (by omega)
 |m+1,e,a,hm,h0,h1,h2,h3=>by
  have⟨x,b,hx⟩:=aiv e.op;have hla:=adE e;show ∃r,Bh n (tY n m) e a=some r/\_;simp[Bh,hx];have bad:∃r,some (13:Int)=some r/\1<=r/\r<=13+(m+1:Nat)/\(r<=12->VR (m+1) e):=⟨13,rfl,by omega,by omega,λh=>absurd h (by omega)⟩;cases b with
  |false=>simpa[Bool.not_false,aj,ai]using bad
  |true=>
   simp;by_cases hxl:x=e.args.length;subst hxl;simp;by_cases ha:a>=12;simpa[ha,decide_true,aj]using bad;simp[ha]
   obtain⟨o,g1,g2,g3,g4⟩:=fu (step:=yM n (tY n m) e a) (λ i (v:Int×Int)=>v.2=i/\i<=e.args.length/\0<=v.1/\v.1<=13+m/\(v.1<=11->∀y∈e.args.take i,VR m y))
    (λ o=>0<=o/\o<=13+m/\(o<=11->∀y∈e.args,VR m y)) e.args.length (λ k v h=>h.2.1) (by rintro i ⟨v2,v3⟩ ⟨hv,hi,i1,i2,i3⟩;simp at hv i1 i2 i3;subst hv;by_cases hlt:i<e.args.length;left;have hwx:=aiu (getElem_mem hlt);obtain⟨r,r1,r2,r3,r4⟩:=abW hn m e.args[i] (a+1) (by omega) (by omega) (by omega) (by omega) (by omega);refine⟨(max v2 r,(i+1:Nat)),?_,rfl,hlt,by show 0<=max v2 r;omega,by show max v2 r<=_;omega,λh y hy=>?_⟩;simp only[yM,show decide ((i:Int)<e.args.length)=true from by simp;omega,aj,bB hlt,ai,DW,aQ (show -9223372036854775808<=a+1 by omega) (show a+1<=9223372036854775807 by omega),r1,bn i];have h':max v2 r<=11:=h;rw[List.take_add_one,dP hlt]at hy;rw[bF]at hy;rcases hy with hy|hy;exact i3 (by omega) y hy;simp at hy;subst hy;exact r4 (by omega);right;refine⟨v2,?_,i1,i2,λh y hy=>i3 h y (by rw[take_of_length_le (by omega)];exact hy)⟩;simp only[yM,show decide ((i:Int)<e.args.length)=false from by simp;omega,au]) n 0 (0,0) ⟨rfl,Nat.zero_le _,by simp,by show 0<=_;omega,by simp⟩ (by omega)
   simp only[g1,ai];rw[aQ (by omega) (by omega)];exact⟨o+1,rfl,by omega,by omega,λh=>⟨hx,g4 (by omega)⟩⟩;simpa[show (x !=(e.args.length:Nat))=true from by simpa using hxl,aj,ai]using bad
theorem Uc(hn:4000002<=n)(hn2:n<=9223372036854775000){e:bZ}(h:(toE e).wt<=4000000):∃b,Jf n e=some b/\(b=true->VR n e):=by obtain⟨r,h1,h2,h3,h4⟩:=abW hn n e 0 hn2 (by omega) (by omega) (by omega) h;refine⟨decide (r<=12),?_,λh=>h4 (by simpa using h)⟩;simp[Jf,DW,Ra,h1]
def aq0(tables:U dD)(s key:ByteArray):Int:=match tables.find? λt=>ByteArray.toList t.name==ByteArray.toList s with
 |some t=>aqT t key
 |none=>0
def VM(ts:U dD):Prop:=ts.length<=4000000/\∀t∈ts,t.rows.length<=4000000
theorem alp(hn:4000002<=n){a0:U gZ}{ts:U dD}{a2:U fO}{a3:U dw}{a4:U jE}{a5:U iD}{a6:U dI}{a7:Int}{zs:U ByteArray}(ht:VM ts)(e:bZ)(kn:U (ByteArray×Int)):jT n a0 ts a2 a3 a4 a5 a6 a7 zs e kn=some (aq0 ts e.s e.key,kn):=by
 have h1:=ht.1;simp[jT];rw[Gv (λ t=>ByteArray.toList t.name==ByteArray.toList e.s) (λ x _=>rfl) (by omega) (by omega)];simp[aq0];rcases YC (λ t:dD=>ByteArray.toList t.name==ByteArray.toList e.s) ts with ⟨i,hi,h1,h2⟩|⟨h1,h2⟩;rw[h1,h2];have d:decide ((i:Int)<0)=false:=by simp
 have hr:=ht.2 _ (getElem_mem hi);simp[d,bB hi];rw[Gw (λ x=>ByteArray.toList x.name==ByteArray.toList e.key) (λ x _=>rfl) (by omega) (by omega)];simp[aqT];rcases YC (λ x:bG=>ByteArray.toList x.name==ByteArray.toList e.key) ts[i].rows with ⟨j,hj,g1,g2⟩|⟨g1,g2⟩;rw[g1,g2];have d:decide ((j:Nat)>=0)=true:=by simp
 simp[bB hj];rw[g1,g2];rfl;rw[h1,h2];rfl
theorem fE{α:Type}{c:Bool}{x y:J α}(hx:∃r,x=some r)(hy:∃r,y=some r):∃r,(bif c then x else y)=some r:=by cases c<;>assumption
theorem aal(a b:Int):∃r,xG a b=some r:=by
 simp[xG];cases h:(b==0)with
 |true=>exact⟨_,rfl⟩
 |false=>
  have:(b !=0)=true:=by simp[bne,h]
  simp[this];cases (Int.tmod a b !=0)<;>cases (decide (Int.tmod a b<0)==decide (b<0))<;>exact⟨_,rfl⟩
theorem YM b:∃r,zL b=some r:=fE ⟨_,rfl⟩ ⟨_,rfl⟩
theorem rf{α β:Type}{x:J α}{f:α->J β}(hx:∃r,x=some r)(hf:∀r,∃s,f r=some s):∃s,x.bind f=some s:=by obtain⟨r,rfl⟩:=hx;exact hf r
theorem agb(op a b:Int):∃r,Kt op a b=some r:=by
 have q:=aal a b;have t:=λc=>YM c;unfold Kt
 repeat' first
  |exact⟨_,rfl⟩
  |exact q
  |exact t _
  |apply fE
  |(refine rf ?_ λr=>?_)
theorem JF(h:0<n):cz 0 n=true:=by simp[cz];omega
theorem agc(h:1<n):cz 1 n=true:=by simp[cz];omega
theorem anC(h:2<n):cz 2 n=true:=by simp[cz];omega
theorem O7{α:Type}{l:U α}(h:0<l.length):bu l ((0:Nat)+0)=some l[0]:=bM (i:=0) h
theorem aj9{α:Type}{l:U α}(h:1<l.length):bu l ((0:Nat)+1)=some l[1]:=bM (i:=1) h
theorem aoZ{α:Type}{l:U α}(h:2<l.length):bu l ((0:Nat)+2)=some l[2]:=bM (i:=2) h
theorem aam{l:U ByteArray}{s:ByteArray}(hl:l.length<=4000000)(hn:4000002<=n):∃r,gG n l s=some r:=by
 obtain⟨o,h,_⟩:=fu (step:=oG l s) (λ i v=>v=i/\i<=l.length) (λ _=>True) l.length (λ k v h=>h.2) (by
  rintro i v ⟨rfl,hi⟩;by_cases hlt:i<l.length;simp only[oG,show decide ((i:Int)<l.length)=true from by simp;omega,aj,bB hlt,ai,bn i];cases (ByteArray.toList s==ByteArray.toList l[i])with
  |true=>exact .inr ⟨_,rfl,trivial⟩
  |false=>exact .inl ⟨_,rfl,rfl,hlt⟩
  simp only[oG,show decide ((i:Int)<l.length)=false from by simp;omega,au];exact .inr ⟨_,rfl,trivial⟩) n 0 0 ⟨rfl,Nat.zero_le _⟩ (by omega)
 simp only[gG,sO,h];cases o with
 |inl u=>cases u;simp only[gM,ai];exact⟨_,rfl⟩
 |inr r=>simp only[nO,ai];exact⟨_,rfl⟩
theorem alq{op a:Int}(h0:(op==0)=false)(h1:(op==1)=false)(h2:(op==2)=false)(h3:(op==3)=false)(h9:(op==9)=false)(SP:(op==15)=false)(h16:(op==16)=false)(h:zK op=some (a,true)):a=2:=by
 simp[zK,h0,h1,h2,h3,h9,SP,h16]at h;cases hd:decide (op>=0)with
 |true=>rw[hd]at h;simp at h;exact h.1.symm
 |false=>rw[hd]at h;simp at h
section
variable {n:Nat} {a0:List gZ} {ts:List dD} {a2:List fO} {a3:List dw} {a4:List jE} {a5:List iD} {a6:List dI} {a7:Int} {zs:List ByteArray}
theorem YN(hn:4000002<=n)(ht:VM ts)(hz:zs.length<=4000000):∀(m:Nat)(e:bZ)(kn:U (ByteArray×Int)),VR m e->(toE e).wt<=4000000->∃v,bX n m a0 ts a2 a3 a4 a5 a6 a7 zs e kn=some (v,kn)
 | 0,_,_,h,_=>h.elim
 |m+1,e,kn,⟨ha,hr⟩,hw=>by
  have hla:=adE e;have hmx:maxLen=9223372036854775807:=rfl;show ∃v,fZ n (bX n m) a0 ts a2 a3 a4 a5 a6 a7 zs e kn=some (v,kn)
  obtain⟨o,h1,l,rfl,hl⟩:=fu (step:=fK n (bX n m) a0 ts a2 a3 a4 a5 a6 a7 zs e) (λ i (v:Int×List (ByteArray×Int)×List Int)=>∃l,v=((i:Int),kn,l)/\i<=e.args.length/\l.length=i)
   (λ o=>∃l,o=(kn,l)/\l.length=e.args.length) e.args.length (λ k v ⟨_,_,h,_⟩=>h) (by
   rintro i v ⟨l,rfl,hi,hl⟩;by_cases hlt:i<e.args.length;left;have hwx:=aiu (getElem_mem hlt);obtain⟨x,hx⟩:=YN hn ht hz m e.args[i] kn (hr _ (getElem_mem hlt)) (by omega);have key:∃b,((bif (e.op==(16:Int))then(bif (decide ((i:Int)>(0:Int)))then(ck (cz 0 l.length) ((bu l ((0:Nat)+0:Int)).bind λx2=>some (!((x2 !=(0:Int))==((i:Int)==1)))))else some false)else some false):J (Bool))=some b:=(by refine fE ?_ ⟨_,rfl⟩;by_cases h0:(i:Int)>0;simp only[h0,decide_true,aj,JF (show 0<l.length by omega),O7 (show 0<l.length by omega),ai];exact⟨_,rfl⟩;simp only[h0,decide_false,au];exact⟨_,rfl⟩);obtain⟨b,hb⟩:=key;have hap:∀z:Int,bR l.length l.length (sub [z] 0 1).length 1 8=true:=λz=>(by simp[bR,sub];omega);simp only[fK,show decide ((i:Int)<e.args.length)=true from by simp;omega,aj,bB hlt,ai,hb,DW,hx,hap,fI,aK,bn i];cases b with
   |true|false=>exact⟨_,rfl,_,rfl,hlt,by simp[sub,hl]⟩
   right;refine⟨(kn,l),?_,l,rfl,by omega⟩;simp only[fK,show decide ((i:Int)<e.args.length)=false from by simp;omega,au,aK,aj]) n 0 (0,kn,[]) ⟨[],rfl,Nat.zero_le _,rfl⟩ (by omega)
  simp only[fZ,length_nil,aK,aj,h1,ai,DW,alp hn ht];cases h0:(e.op==0)with
  |true=>exact⟨_,rfl⟩
  |false=>
  cases h1:(e.op==1)with
  |true=>exact⟨_,rfl⟩
  |false=>
  cases h2:(e.op==2)with
  |true=>exact⟨_,rfl⟩
  |false=>
  cases h3:(e.op==3)with
  |true=>
   have⟨r,hr⟩:=aam (n:=n) (l:=zs) (s:=e.s) hz hn;have⟨r2,hr2⟩:=YM r;simp only[au,aj,hr,hr2,ai];exact⟨_,rfl⟩
  |false=>
  cases h9:(e.op==9)with
  |true=>
   have e9:e.op=9:=(by simpa using h9);rw[e9]at ha;have:l.length=1:=(by have h:some (1,true)=some ((e.args.length:Int),true):=ha;simp at h;omega);simp only[au,aj,JF (show 0<l.length by omega),O7 (show 0<l.length by omega),ai];exact⟨_,rfl⟩
  |false=>
  cases SP:(e.op==15)with
  |true=>
   have e15:e.op=15:=(by simpa using SP);rw[e15]at ha;have:l.length=1:=(by have h:some (1,true)=some ((e.args.length:Int),true):=ha;simp at h;omega);obtain⟨r2,hr2⟩:=YM (l[0]'(by omega)==0);simp only[au,aj,JF (show 0<l.length by omega),O7 (show 0<l.length by omega),ai,hr2];exact⟨_,rfl⟩
  |false=>
  cases h16:(e.op==16)with
  |true=>
   have e16:e.op=16:=(by simpa using h16);rw[e16]at ha;have:l.length=3:=(by have h:some (3,true)=some ((e.args.length:Int),true):=ha;simp at h;omega);simp only[au,aj,JF (show 0<l.length by omega),O7 (show 0<l.length by omega),agc (show 1<l.length by omega),aj9 (show 1<l.length by omega),anC (show 2<l.length by omega),aoZ (show 2<l.length by omega),ai];cases (l[0]'(by omega) !=0)<;>exact⟨_,rfl⟩
  |false=>
   have:l.length=2:=(by have:=alq h0 h1 h2 h3 h9 SP h16 ha;omega);obtain⟨r,hr⟩:=agb e.op (l[0]'(by omega)) (l[1]'(by omega));simp only[au,aj,JF (show 0<l.length by omega),O7 (show 0<l.length by omega),agc (show 1<l.length by omega),aj9 (show 1<l.length by omega),ai,hr];exact⟨_,rfl⟩
end
theorem aiw{ms:U bG}(h:ms.length<=4000000)(hn:4000002<=n):∃o,iter (jv n ms) n (0,[],[])=some o:=by obtain⟨o,h,_⟩:=fu (step:=jv n ms) (λ i (v:Int×List (ByteArray×Int)×List (ByteArray×Bool))=>∃a b,v=((i:Int),a,b)/\i<=ms.length) (λ _=>True) ms.length (λ k v ⟨_,_,_,h⟩=>h) (by rintro i v ⟨a,b,rfl,hi⟩;by_cases hlt:i<ms.length;left;simp only[jv,show decide ((i:Int)<ms.length)=true from by simp;omega,aj,bB hlt,ai,bn i];cases (!((iC Gb.gA ms[i].name b).getD false))<;>exact⟨_,rfl,_,_,rfl,hlt⟩;right;simp only[jv,show decide ((i:Int)<ms.length)=false from by simp;omega,au];exact⟨_,rfl,trivial⟩) n 0 _ ⟨[],[],rfl,Nat.zero_le _⟩ (by omega);exact⟨o,h⟩
structure aix(p:dh):Prop where
 defs:io p.defs
 tabs:VM p.tables
theorem VW(a b:ByteArray):Gb.gA a b=true↔a=b:=by unfold Gb.gA;rw[beq_iff_eq,ByteArray.toList_eq,ByteArray.toList_eq];exact⟨λ h=>ByteArray.ext (Array.toList_inj.1 h),λh=>by rw[h]⟩
theorem agf{V:Type}(k k':ByteArray)(v:V)(h:k≠k'):∀l:U (ByteArray×V),iC Gb.gA k (Gq Gb.gA k' v l)=iC Gb.gA k l
 |[]=>by
  have:Gb.gA k k'=false:=by rw[Bool.eq_false_iff];exact λe=>h ((VW _ _).1 e)
  simp[Gq,iC,this]
 |p::l=>by
  have e:Gb.gA k k'=false:=by rw[Bool.eq_false_iff];exact λe=>h ((VW _ _).1 e)
  have ih:=agf k k' v h l;simp[Gq];cases c:Gb.gA k' p.1 with
  |true=>
   have:=(VW _ _).1 c;subst this;simp[iC,e]
  |false=>simp[iC,ih]
theorem Mr{p:dh}{ms:U bG}{zs:U ByteArray}(hp:aix p)(hm:ms.length<=4000000)(hz:zs.length<=4000000)(hn:5000003<=n)(hn2:n<=9223372036854775000):∃kn out,ny n p ms zs=some (p.defs,p.tables,p.zones,p.rules,p.caps,p.views,p.xa,p.hours,zs,kn,out)/\out.length=p.defs.length/\∀w,iter (jv n ms) n (0,[],[])=some w->∀s,(iC Gb.gA s w.2).getD false=true->iC Gb.gA s kn=iC Gb.gA s w.1:=by
 obtain⟨⟨w1,w2⟩,hs1⟩:=aiw (n:=n) hm (by omega);have⟨r,hr,hrl,hrr,_⟩:=UD (n:=n) hp.defs hn;have hl:=hp.defs.len;have hmx:maxLen=9223372036854775807:=rfl;have hmk:xN p.defs.length 8=true:=by simp[xN];omega
 simp only[ny,hs1,ai,Int.le_refl,decide_true,Bool.true_and,show decide (0<=p.defs.length)=true from by simp,hmk,aj,hr];cases hb:(r.2.2 !=0)with
 |true=>
  simp only[aj,Int.toNat_natCast,List.length_replicate,aK];exact⟨_,_,rfl,by simp,λw hw s _=>by cases hw;rfl⟩
 |false=>
  obtain⟨o,h1,kn,out,rfl,h2,h3⟩:=fu (step:=iH n p zs w2 r) (λ i (v:Int×List (ByteArray×Int)×List Int)=>∃kn out,v=((i:Int),kn,out)/\i<=r.1.length/\out.length=p.defs.length/\∀s,(iC Gb.gA s w2).getD false=true->iC Gb.gA s kn=iC Gb.gA s w1)
   (λ o=>∃kn out,o=(kn,out)/\out.length=p.defs.length/\∀s,(iC Gb.gA s w2).getD false=true->iC Gb.gA s kn=iC Gb.gA s w1) r.1.length (λ k v ⟨_,_,_,h,_⟩=>h) (by
   rintro i v ⟨kn,out,rfl,hi,hol,hK⟩;by_cases hlt:i<r.1.length;left;have hk:=hrr r.1[i] (getElem_mem hlt);obtain⟨k,hk2⟩:=Int.eq_ofNat_of_zero_le hk.1;have hkd:k<p.defs.length:=(by omega);have hko:k<out.length:=(by omega);have hbw:=hp.defs.body (getElem_mem hkd);obtain⟨b,hb1,hb2⟩:=Uc (n:=n) (by omega) hn2 hbw;simp only[iH,show decide ((i:Int)<r.1.length)=true from by simp;omega,aj,aU hlt,bM hlt,ai,hk2,bB hkd,hb1,Int.toNat_natCast,aU hkd,bM hko,bn i,show(((0:Nat):Int)+k).toNat=k by omega];have step2:∀(So:U (ByteArray×Int)) out',out'.length=p.defs.length->(∀ s,(iC Gb.gA s w2).getD false=true->iC Gb.gA s So=iC Gb.gA s w1)->∃Lt,((bif (!((iC Gb.gA p.defs[k].name w2).getD false))then(bu out' ((0:Nat)+k:Int)).bind λx5=>some ((Gq Gb.gA p.defs[k].name x5 So),out')else some (So,out')):J ((List (ByteArray×Int))×(List Int)))=some (Lt,out')/\∀s,(iC Gb.gA s w2).getD false=true->iC Gb.gA s Lt=iC Gb.gA s w1:=by
    intro So out' ho hK;cases hc:(iC Gb.gA p.defs[k].name w2).getD false with
    |false=>
     simp only[Bool.not_false,aj,bM (show k<out'.length by omega),ai];exact⟨_,rfl,λs hs=>by rw[agf _ _ _ (λ e=>by rw[e,hc]at hs;cases hs)];exact hK s hs⟩
    |true=>exact⟨_,rfl,hK⟩
   cases b with
   |true=>
    obtain⟨v,hv⟩:=YN (n:=n) (a0:=p.defs) (a2:=p.zones) (a3:=p.rules) (a4:=p.caps) (a5:=p.views) (a6:=p.xa) (a7:=p.hours) (by omega) hp.tabs hz n _ kn (hb2 rfl) hbw;simp only[gW,hv,aj,ai];obtain⟨kn2,h2,h3⟩:=step2 kn (out.set k v) (by simp[hol]) hK;rw[h2];exact⟨_,rfl,_,_,rfl,hlt,by simp[hol],h3⟩
   |false=>
    simp only[au,ai];have⟨kn2,h2,h3⟩:=step2 kn out hol hK;rw[h2];exact⟨_,rfl,_,_,rfl,hlt,hol,h3⟩
   right;simp only[iH,show decide ((i:Int)<r.1.length)=false from by simp;omega,au];exact⟨_,rfl,_,_,rfl,hol,hK⟩) n 0 (0,w1,List.replicate p.defs.length 0) ⟨_,_,rfl,Nat.zero_le _,by simp,λ_ _=>rfl⟩ (by omega)
  simp only[au,Int.toNat_natCast,h1,ai,h2,aK,aj];exact⟨_,_,rfl,h2,λw hw=>by cases hw;exact h3⟩
theorem all_eq{d:aG}(h:xV d)(hn:1001<=n):xu n d=some (ch d):=by simp[xu,Mq h hn]
theorem aan(a b:ByteArray)(h:a.size<=4000000):∃r,strings_Contains a b=some r:=by simp only[strings_Contains,Nat.ble_eq_true_of_le h,aj];exact⟨_,rfl⟩
theorem Ud c:∃b,Fh c=some b:=fE ⟨_,rfl⟩ ⟨_,rfl⟩
theorem aiy c:∃b,Q7 c=some b:=fE ⟨_,rfl⟩ ⟨_,rfl⟩
theorem alr c:∃b,Be c=some b:=rf (Ud c) λ_=>fE ⟨_,rfl⟩ (rf (aiy c) λ_=>⟨_,rfl⟩)
theorem agh{s:ByteArray}{i:Nat}(h:i<s.size):∃c,Tg s i=some c:=by simp only[Tg,show decide (0<=i)=true from by simp,aj,Int.toNat_natCast];rw[getElem?_pos s i h];exact⟨_,rfl⟩
theorem als{s:ByteArray}{φ:(Int×Unit)->J Bool}(h:∀c,∃b,φ (c,())=some b)(hs:s.size<=4000000)(hn:4000002<=n):∃r,Oj n s φ=some r:=by
 obtain⟨o,h1,_⟩:=fu (step:=Bd s φ) (λ i v=>v=i/\i<=s.size) (λ _=>True) s.size (λ k v h=>h.2) (by
  rintro i v ⟨rfl,hi⟩;by_cases hlt:i<s.size;have⟨c,hc⟩:=agh hlt;have⟨b,hb⟩:=h c;simp only[Bd,show decide ((i:Int)<s.size)=true from by simp;omega,aj,hc,ai,hb,bn i];cases b with
  |true=>exact .inl ⟨_,rfl,rfl,hlt⟩
  |false=>exact .inr ⟨_,rfl,trivial⟩
  simp only[Bd,show decide ((i:Int)<s.size)=false from by simp;omega,au,ai];exact .inr ⟨_,rfl,trivial⟩) n 0 0 ⟨rfl,Nat.zero_le _⟩ (by omega)
 simp only[Oj,h1,ai];exact⟨_,rfl⟩
theorem alu(s:ByteArray)(hn:4000002<=n):∃b,Ol n s=some b/\(b=true->s.size<=20):=by
 simp only[Ol];cases h0:(ByteArray.toList s==ByteArray.toList (⟨#[]⟩))with
 |true=>exact⟨false,by simp,λh=>(by cases h)⟩
 |false=>
  have hs:0<s.size:=by refine Nat.pos_of_ne_zero λh=>?_;have:s=⟨#[]⟩:=(by obtain⟨⟨l⟩⟩:=s;have:l.length=0:=h;rw[List.eq_nil_of_length_eq_zero this]);rw[this]at h0;simp at h0
  have⟨c,hc⟩:=agh hs;have hc':Tg s 0=some c:=hc;have⟨b,hb⟩:=Ud c;simp only[au,hc',ai,hb];cases b with
  |false=>exact⟨false,by simp,λh=>(by cases h)⟩
  |true=>
   simp only[Bool.not_true,au,ai];by_cases h20:(s.size:Int)>20;exact⟨false,by simp[h20],λh=>(by cases h)⟩;obtain⟨r,hr⟩:=als (n:=n) (s:=s) (φ:=λ(y1:Int×Unit)=>Be y1.1) (λ c=>alr c) (by omega) hn;simp only[h20,decide_false,au,hr,ai];exact⟨_,rfl,λ_=>by omega⟩
theorem alv(s:ByteArray)(hn:4000002<=n):∃b,xw n s=some b:=by
 have⟨b,hb,h20⟩:=alu (n:=n) s hn;simp only[xw,hb,ai];cases b with
 |false=>exact⟨_,rfl⟩
 |true=>
  have hs:=h20 rfl;have hmx:maxLen=9223372036854775807:=rfl;have c1:WX (⟨#[32]⟩) s=true:=by have:(⟨#[32]⟩:ByteArray).size=1:=rfl;simp[WX];omega
  have c2:WX ((⟨#[32]⟩)++s) (⟨#[32]⟩)=true:=by have h1:(⟨#[32]⟩:ByteArray).size=1:=rfl;simp[WX];omega
  simp only[aj,c1,c2];refine rf (aan _ _ (Nat.le_of_ble_eq_true ?_)) λ_=>⟨_,rfl⟩
  kernel_rfl
theorem abX(a b:qf):∃r,uH a b=some r:=by unfold uH;rw[u6];exact fE (fE ⟨_,rfl⟩ ⟨_,rfl⟩) ⟨_,rfl⟩
theorem fH{l:U ay}{φ:(ay×Unit)->J Bool}(p:ay->Bool)(h:∀x∈l,φ (x,())=some (p x))(hl:l.length<1099511627776)(hn:l.length<n):gP n l φ=some (l.any p):=by have:rE n l φ=some (BQ p l):=jd p h hl hn;simp[gP,this,yE]
theorem yY{l:U ay}{φ:(ay×Unit)->J Bool}(h:∀x∈l,∃b,φ (x,())=some b)(hl:l.length<1099511627776)(hn:l.length<n):gP n l φ=some (l.any λx=>(φ (x,())).getD false):=
 fH _ (λ x hx=>by have⟨b,hb⟩:=h x hx;rw[hb];rfl) hl hn
def YO(d:aG):Prop:=∀p∈d.phases,p.gives.length<=1000
theorem aiz{l:U ay}(hl:l.length<=1000000)(hn:4000002<=n):iter (gI n l) n 0=some (.inr false)\/(iter (gI n l) n 0=some (.inl ())/\∀v∈l,okV v=true):=by
 obtain⟨o,h1,h2⟩:=fu (step:=gI n l) (λ i v=>v=i/\i<=l.length/\∀x∈l.take i,okV x=true) (λ o=>o=.inr false\/(o=.inl ()/\∀v∈l,okV v=true)) l.length (λ k v h=>h.2.1) (by
  rintro i v ⟨rfl,hi,hall⟩;by_cases hlt:i<l.length;simp only[gI,show decide ((i:Int)<l.length)=true from by simp;omega,aj,aU hlt,bM hlt,ai,lJ,bn i];cases hv:okV l[i]with
  |false=>exact .inr ⟨_,by simp only[Bool.not_false,aj,ai];rfl,.inl rfl⟩
  |true=>
   have hsub:(sub l 0 i).length=i:=(by simp[sub];omega);have hc:=yY (n:=n) (l:=sub l 0 i) (φ:=λ(y1:ay×Unit)=>iy y1.1 l[i]) (λ x _=>rf (abX _ _) λ_=>⟨_,rfl⟩) (by omega) (by omega);simp[vT (show 0<=0 by omega) (show (0:Int)<=i by omega) (show (i:Int)<=l.length by omega),pR hsub,hc];cases ((sub l 0 i).any λx=>((λ (y1:ay×Unit)=>iy y1.1 l[i]) (x,())).getD false)with
   |true=>exact .inr ⟨_,rfl,.inl rfl⟩
   |false=>
    refine .inl ⟨_,rfl,rfl,hlt,λx hx=>?_⟩;rw[List.take_add_one,dP hlt,bF]at hx;rcases hx with hx|hx;exact hall x hx;simp at hx;subst hx;exact hv
  refine .inr ⟨.inl (),?_,.inr ⟨rfl,λv hv=>hall v (by rw[take_of_length_le (by omega)];exact hv)⟩⟩;simp only[gI,show decide ((i:Int)<l.length)=false from by simp;omega,au]) n 0 0 ⟨rfl,Nat.zero_le _,by simp⟩ (by omega)
 rcases h2 with rfl|⟨rfl,h2⟩;exact .inl h1;exact .inr ⟨h1,h2⟩
theorem aiA{p:dF}(hp:p.gives.length<=1000)(hn:4000002<=n):iter (lZ n p) n (0,[])=some (.inl ())\/iter (lZ n p) n (0,[])=some (.inr (.inr (.inr false))):=by
 obtain⟨o,h1,h2⟩:=fu (step:=lZ n p) (λ i (v:Int×List (ByteArray×Bool))=>∃m,v=((i:Int),m)/\i<=p.gives.length) (λ o=>o=.inl ()\/o=.inr (.inr (.inr false))) p.gives.length (λ k v ⟨_,_,h⟩=>h) (by
  rintro i v ⟨m,rfl,hi⟩;by_cases hlt:i<p.gives.length;have key:∃b,((bif ((iC Gb.gA p.gives[i].name m).getD false)then some true else(xw n p.gives[i].name).bind λr4=>(bif (!r4)then some true else(bif (decide (p.gives[i].n<0))then some true else some (decide (p.gives[i].n>1073741824))))):J (Bool))=some b:=
   fE ⟨_,rfl⟩ (rf (alv _ hn) λ_=>fE ⟨_,rfl⟩ (fE ⟨_,rfl⟩ ⟨_,rfl⟩))
  obtain⟨b,hb⟩:=key;simp only[lZ,show decide ((i:Int)<p.gives.length)=true from by simp;omega,aj,bB hlt,ai,hb,bn i];cases b with
  |true=>exact .inr ⟨_,rfl,.inr rfl⟩
  |false=>exact .inl ⟨_,rfl,_,rfl,hlt⟩
  simp only[lZ,show decide ((i:Int)<p.gives.length)=false from by simp;omega,au];exact .inr ⟨_,rfl,.inl rfl⟩) n 0 _ ⟨[],rfl,Nat.zero_le _⟩ (by omega)
 rcases h2 with rfl|rfl;exact .inl h1;exact .inr h1
theorem YP{d:aG}(hd:xV d)(hg:YO d)(hn:4000002<=n):iter (gJ n d) n 0=some (.inl ())\/iter (gJ n d) n 0=some (.inr false):=by
 have hd1:=hd.1;obtain⟨o,h1,h2⟩:=fu (step:=gJ n d) (λ i v=>v=i/\i<=d.phases.length) (λ o=>o=.inl ()\/o=.inr false) d.phases.length (λ k v h=>h.2) (by
  rintro i v ⟨rfl,hi⟩;by_cases hlt:i<d.phases.length;simp only[gJ,show decide ((i:Int)<d.phases.length)=true from by simp;omega,aj,bB hlt,ai,bn i];rcases aiA (n:=n) (hg _ (getElem_mem hlt)) hn with h|h;simp[h];cases decide ((d.phases[i].gives.length:Int)>30)with
  |true=>exact .inr ⟨_,rfl,.inr rfl⟩
  |false=>exact .inl ⟨_,rfl,rfl,hlt⟩
  simp only[h,nO];exact .inr ⟨_,rfl,.inr rfl⟩;simp only[gJ,show decide ((i:Int)<d.phases.length)=false from by simp;omega,au];exact .inr ⟨_,rfl,.inl rfl⟩) n 0 0 ⟨rfl,Nat.zero_le _⟩ (by omega)
 rcases h2 with rfl|rfl;exact .inl h1;exact .inr h1
theorem wu{d:aG}(hd:xV d):(ch d).length<=1000000:=by have:=eM hd.2;have:=hd.1;unfold ch;omega
theorem adF{d:aG}(hd:xV d)(hg:YO d)(hn:4000002<=n):∃b,eY n d=some b/\(b=true->∀v∈ch d,okV v=true):=by
 simp only[eY,all_eq hd (show 1001<=n by omega),ai];have key:∀c1 c2 c3 c4 c5 c6:Bool,∃b,((bif c1 then some true else(bif c2 then some true else(bif c3 then some true else(bif c4 then some true else(bif c5 then some true else some c6))))):J Bool)=some b:=by intro c1 c2 c3 c4 c5 c6;exact fE ⟨_,rfl⟩ (fE ⟨_,rfl⟩ (fE ⟨_,rfl⟩ (fE ⟨_,rfl⟩ (fE ⟨_,rfl⟩ ⟨_,rfl⟩))))
 have⟨b,hb⟩:=key (decide (d.lot<0)) (decide (d.lot>1073741824)) (decide ((d.phases.length:Int)<1)) (decide ((d.phases.length:Int)>8)) (decide (((ch d).length:Int)<1)) (decide (((ch d).length:Int)>40));rw[hb];cases b with
 |true=>exact⟨false,rfl,λh=>(by cases h)⟩
 |false=>
  simp only[ai,au];rcases aiz (n:=n) (wu hd) hn with h|⟨h,hall⟩;simp only[h,nO];exact⟨false,rfl,λh=>(by cases h)⟩;simp only[h,gM];rcases YP (n:=n) hd hg hn with h2|h2;simp only[h2,gM];exact⟨true,rfl,λ_=>hall⟩;simp only[h2,nO];exact⟨false,rfl,λh=>(by cases h)⟩
theorem FU{l:U jE}{φ:(jE×Unit)->J Bool}(p:jE->Bool)(h:∀x∈l,φ (x,())=some (p x))(hl:l.length<1099511627776)(hn:l.length<n):nK n l φ=some (l.any p):=by have:vX n l φ=some (BQ p l):=jd p h hl hn;simp[nK,this,yE]
theorem anD{lot:j5}{l:U ay}(ha:lot.area.length<=900)(hv:∀v∈l,okV v=true)(hl:l.length<=1000000)(hn:4000002<=n):iter (kU n lot l) n 0=some (.inl ())\/iter (kU n lot l) n 0=some (.inr false):=by
 obtain⟨o,h1,h2⟩:=fu (step:=kU n lot l) (λ i v=>v=i/\i<=l.length) (λ o=>o=.inl ()\/o=.inr false) l.length (λ k v h=>h.2) (by
  rintro i v ⟨rfl,hi⟩;by_cases hlt:i<l.length;have hb:=pq (hv _ (getElem_mem hlt));have hcl:=adw (keep:=λp q=>p&&q) lot.area [bT l[i]];have hc:=adv (n:=n) (a:=lot.area) (b:=[bT l[i]]) (by omega) (by simp) (by omega) (by simp;omega) (by omega);have hA:=Yy (n:=n) (a:=(o9 (λ p q=>p&&q) lot.area [bT l[i]]).1) (by omega) (by omega);have hr:=DL hb;simp[bT]at hc hA hr;simp only[kU,show decide ((i:Int)<l.length)=true from by simp;omega,aj,aU hlt,bM hlt,ai,show ∀r:ax,sub [r] 0 1=[r]from λ_=>rfl,length_singleton,aK,hc,hA,hr,bn i];have key:∀c x:Bool,∃b,((bif c then some true else some x):J Bool)=some b:=λc x=>fE ⟨_,rfl⟩ ⟨_,rfl⟩;obtain⟨b,hb2⟩:=key ((o9 (λ p q=>p&&q) lot.area [⟨l[i].bj,l[i].bo,l[i].be,l[i].bk⟩]).2 !=0) (decide ((bif cE (o9 (λ p q=>p&&q) lot.area [⟨l[i].bj,l[i].bo,l[i].be,l[i].bk⟩]).1 then Mk (o9 (λ p q=>p&&q) lot.area [⟨l[i].bj,l[i].bo,l[i].be,l[i].bk⟩]).1 else 0)<Q1 ⟨l[i].bj,l[i].bo,l[i].be,l[i].bk⟩));rw[hb2];cases b with
  |true=>exact .inr ⟨_,rfl,.inr rfl⟩
  |false=>exact .inl ⟨_,rfl,rfl,hlt⟩
  simp only[kU,show decide ((i:Int)<l.length)=false from by simp;omega,au];exact .inr ⟨_,rfl,.inl rfl⟩) n 0 0 ⟨rfl,Nat.zero_le _⟩ (by omega)
 rcases h2 with rfl|rfl;exact .inl h1;exact .inr h1
theorem anE{p:dh}{ph:dF}(hc:p.caps.length<=4000000)(hp:ph.gives.length<=1000)(hn:4000002<=n):iter (kV n p ph) n 0=some (.inl ())\/iter (kV n p ph) n 0=some (.inr (.inr (.inr false))):=by
 obtain⟨o,h1,h2⟩:=fu (step:=kV n p ph) (λ i v=>v=i/\i<=ph.gives.length) (λ o=>o=.inl ()\/o=.inr (.inr (.inr false))) ph.gives.length (λ k v h=>h.2) (by
  rintro i v ⟨rfl,hi⟩;by_cases hlt:i<ph.gives.length;simp only[kV,show decide ((i:Int)<ph.gives.length)=true from by simp;omega,aj,bB hlt,ai,FU (n:=n) (l:=p.caps) (φ:=λ(y1:jE×Unit)=>vW y1.1 ph.gives[i]) (λ c=>ByteArray.toList c.name==ByteArray.toList ph.gives[i].name) (λ _ _=>rfl) (by omega) (by omega),bn i];cases (p.caps.any λc=>ByteArray.toList c.name==ByteArray.toList ph.gives[i].name)with
  |false=>exact .inr ⟨_,rfl,.inr rfl⟩
  |true=>exact .inl ⟨_,rfl,rfl,hlt⟩
  simp only[kV,show decide ((i:Int)<ph.gives.length)=false from by simp;omega,au];exact .inr ⟨_,rfl,.inl rfl⟩) n 0 0 ⟨rfl,Nat.zero_le _⟩ (by omega)
 rcases h2 with rfl|rfl;exact .inl h1;exact .inr h1
theorem anF{p:dh}{d:aG}(hc:p.caps.length<=4000000)(hd:xV d)(hg:YO d)(hn:4000002<=n):iter (kW n p d) n 0=some (.inl ())\/iter (kW n p d) n 0=some (.inr false):=by have hd1:=hd.1;obtain⟨o,h1,h2⟩:=fu (step:=kW n p d) (λ i v=>v=i/\i<=d.phases.length) (λ o=>o=.inl ()\/o=.inr false) d.phases.length (λ k v h=>h.2) (by rintro i v ⟨rfl,hi⟩;by_cases hlt:i<d.phases.length;simp only[kW,show decide ((i:Int)<d.phases.length)=true from by simp;omega,aj,bB hlt,ai,bn i];rcases anE (n:=n) hc (hg _ (getElem_mem hlt)) hn with h|h;simp only[h,gM];exact .inl ⟨_,rfl,rfl,hlt⟩;simp only[h,nO];exact .inr ⟨_,rfl,.inr rfl⟩;simp only[kW,show decide ((i:Int)<d.phases.length)=false from by simp;omega,au];exact .inr ⟨_,rfl,.inl rfl⟩) n 0 0 ⟨rfl,Nat.zero_le _⟩ (by omega);rcases h2 with rfl|rfl;exact .inl h1;exact .inr h1
theorem alx{p:dh}{lot:j5}{d:aG}(hc:p.caps.length<=4000000)(ha:lot.area.length<=900)(hd:xV d)(hg:YO d)(hn:4000002<=n):∃b,kS n p lot d=some b/\(b=true->∀v∈ch d,okV v=true):=by
 have⟨b,hb,hv⟩:=adF (n:=n) hd hg hn;simp only[kS,hb,ai];cases b with
 |false=>exact⟨false,by simp,λh=>(by cases h)⟩
 |true=>
  simp only[Bool.not_true,au,mK (n:=n) (l:=lot.area) (by omega) (by omega) (by omega),ai];cases (lot.id !=d.lot)with
  |true=>exact⟨false,by simp,λh=>(by cases h)⟩
  |false=>
   cases cE lot.area with
   |false=>exact⟨false,by simp,λh=>(by cases h)⟩
   |true=>
    simp only[Bool.not_true,au,ai,all_eq hd (show 1001<=n by omega)];rcases anD (n:=n) ha (hv rfl) (wu hd) hn with h|h;simp only[h,gM];rcases anF (n:=n) hc hd hg hn with h2|h2;simp only[h2,gM];exact⟨true,rfl,λ_=>hv rfl⟩;simp only[h2,nO];exact⟨false,rfl,λh=>(by cases h)⟩;simp only[h,nO];exact⟨false,rfl,λh=>(by cases h)⟩
theorem ao0{p:dh}{ms:U bG}{zs:U ByteArray}{e:bZ}(hp:aix p)(hm:ms.length<=4000000)(hz:zs.length<=4000000)(he:(toE e).wt<=4000000)(hn:5000003<=n)(hn2:n<=9223372036854775000):∃v,Bn n p ms zs e=some v:=by
 obtain⟨b,hb,hv⟩:=Uc (n:=n) (by omega) hn2 he;simp[Bn,DW,hb];cases b with
 |false=>exact⟨_,rfl⟩
 |true=>
  have⟨kn,out,h1,_⟩:=Mr (n:=n) hp hm hz hn hn2;obtain⟨v,h2⟩:=YN (n:=n) (a0:=p.defs) (a2:=p.zones) (a3:=p.rules) (a4:=p.caps) (a5:=p.views) (a6:=p.xa) (a7:=p.hours) (by omega) hp.tabs hz n e kn (hv rfl) he;simp only[Bool.not_true,au,h1,ai,gW,h2];exact⟨_,rfl⟩
section
variable {n:Nat} {d:List gZ} {ts:List dD} {z z':List fO} {r r':List dw} {c c':List jE} {v v':List iD} {su ta:List dI} {h h':Int} {zs:List ByteArray}
theorem JG:∀(m:Nat)(e:bZ)(kn:U (ByteArray×Int)),bX n m d ts z r c v su h zs e kn=bX n m d ts z' r' c' v' ta h' zs e kn
 | 0,_,_=>rfl
 |m+1,e,kn=>by
  have ih:=JG m;have hs:fK n (bX n m) d ts z r c v su h zs e=fK n (bX n m) d ts z' r' c' v' ta h' zs e:=by funext ⟨v1,v2,v3⟩;simp only[fK,ih]
  have hr:∀w,jT n d ts z r c v su h zs e w=jT n d ts z' r' c' v' ta h' zs e w:=λ_=>rfl;show fZ n (bX n m) d ts z r c v su h zs e kn=fZ n (bX n m) d ts z' r' c' v' ta h' zs e kn;simp only[fZ,hs,DW,hr]
theorem aiB{ms:U bG}:(ny n (dh.mk d ts z r c v su h) ms zs).map (λ q=>q.2.2.2.2.2.2.2.2.2)=(ny n (dh.mk d ts z' r' c' v' ta h') ms zs).map (λ q=>q.2.2.2.2.2.2.2.2.2):=by
 have hs:∀w2 r1,iH n (dh.mk d ts z r c v su h) zs w2 r1=iH n (dh.mk d ts z' r' c' v' ta h') zs w2 r1:=by intro w2 r1;funext ⟨v6,v7,v8⟩;have hv:∀e kn,gW n d ts z r c v su h zs e kn=gW n d ts z' r' c' v' ta h' zs e kn:=λe kn=>JG n e kn;simp only[iH,hv]
 have ho:oL n (dh.mk d ts z r c v su h)=oL n (dh.mk d ts z' r' c' v' ta h'):=rfl;simp only[ny,hs,ho];cases iter (jv n ms) n (0,([]:(List (ByteArray×Int))),([]:(List (ByteArray×Bool))))with
 |none=>rfl
 |some w=>
  obtain⟨w1,w2⟩:=w;simp only[ai];cases (decide ((d.length:Int)<=d.length)&&(decide (0<=(d.length:Int))&&xN d.length 8))with
  |false=>rfl
  |true=>
   simp only[aj];cases oL n (dh.mk d ts z' r' c' v' ta h')with
   |none=>rfl
   |some r1=>
    simp only[ai];cases (r1.2.2 !=0)with
    |true=>
     simp only[aj];cases aE ((d.length:Int).toNat) (List.replicate (d.length:Int).toNat (0:Int)).length<;>rfl
    |false=>
     simp only[au];cases iter (iH n (dh.mk d ts z' r' c' v' ta h') zs w2 r1) n (0,w1,(List.replicate (d.length:Int).toNat 0))with
     |none=>rfl
     |some q=>
      obtain⟨w3,w4⟩:=q;simp only[ai];cases aE ((d.length:Int).toNat) w4.length<;>rfl
theorem aiC{ms:U bG}{e:bZ}(hp:io d)(ht:VM ts)(hm:ms.length<=4000000)(hz:zs.length<=4000000)(hn:5000003<=n)(hn2:n<=9223372036854775000):Bn n (dh.mk d ts z r c v su h) ms zs e=Bn n (dh.mk d ts z' r' c' v' ta h') ms zs e:=by have⟨kn,out,h1,_⟩:=Mr (n:=n) (p:=dh.mk d ts z r c v su h) ⟨hp,ht⟩ hm hz hn hn2;have⟨kn2,out2,h2,_⟩:=Mr (n:=n) (p:=dh.mk d ts z' r' c' v' ta h') ⟨hp,ht⟩ hm hz hn hn2;have h3:=aiB (n:=n) (d:=d) (ts:=ts) (z:=z) (z':=z') (r:=r) (r':=r') (c:=c) (c':=c') (v:=v) (v':=v') (su:=su) (ta:=ta) (h:=h) (h':=h') (zs:=zs) (ms:=ms);rw[h1,h2]at h3;simp only[Option.map_some,bV,Prod.mk.injEq]at h3;obtain⟨rfl,rfl⟩:=h3;simp only[Bn,h1,h2,ai,gW,JG (z:=z) (z':=z') (r:=r) (r':=r') (c:=c) (c':=c') (v:=v) (v':=v') (su:=su) (ta:=ta) (h:=h) (h':=h')]
end
theorem UE{b:ax}{l:U eO}{s:U aN}(ha:∀c∈s,c.area.length<=200)(hs:s.length<=1000)(hl:l.length<=1000)(hn:2000<=n):
 yQ n b l s=some (FN b l&&(wh s&&!(s.any λc=>decide (To b l c.area<c.z1)))):=by
 unfold yQ;rw[YH b l hl hn];simp;cases hv:FN b l with
 |false=>simp
 |true=>
  have⟨v1,v2⟩:=(afX b l).1 hv;simp[BF (n:=n) (s:=s) (λ x hx=>by have:=ha x hx;omega) (by omega)];cases hr:wh s with
  |false=>simp
  |true=>
   have⟨_,sok,_⟩:=(wo s).1 hr;simp;rw[ug (λ c=>decide (To b l c.area<c.z1)) (λ c hc=>by have:=ha c hc;show sU n c b l=_;unfold sU;rw[UC v1 v2 (gU (sok c hc).rt).1 (by omega) hl hn];rfl) (by omega) (by omega)];simp
def wz(v:ay):U aN:=[⟨v.ca,v.cg,[bT v]⟩]
theorem agi(v:ay):yN v=some (wz v):=rfl
def VX(b:ax)(p:eO)(v:ay):Bool:=FN b [p]&&(wh (wz v)&&!((wz v).any λc=>decide (To b [p] c.area<c.z1)))
def YQ(r:dw):eO:=eO.mk r.i7 r.i8 r.kf r.kh
theorem adG(v:ay)(b:ax)(r:dw)(hn:2000<=n):kK n v b r=some (!VX b (YQ r) v):=by have h:=UE (n:=n) (b:=b) (l:=[YQ r]) (s:=wz v) (by simp[wz]) (by simp[wz]) (by simp) hn;unfold YQ at h;have hl:(wz v).length=1:=rfl;simp[kK,agi,show ∀x:eO,sub [x] 0 1=[x]from λ_=>rfl,h,VX];rfl
def T1(r:dw)(v:ay):Bool:=bits .and .i64 r.uses (i64.wrap (1*2 ^ v.use.toNat))==0
theorem adH{v:ay}(h:okV v=true)(r:dw):kL v r=some (T1 r v):=by
 have hu:0<=v.use/\v.use<6:=by simp[okV]at h;omega
 have hb:i64.bits=64:=rfl;simp[kL,T1,show(decide (0<=v.use)&&decide (v.use<=i64.bits))=true from by simp;omega]
def Wf(lot:Int)(r:dw)(v:ay)(b:iX):Bool:=(d9 b (mZ.mk [] [] [] [] [] [] [] 0 [] [] [] [] [] 0 0 [] [] lot [] [] []) v r).getD false
theorem agj{b:iX}{s:mZ}{v:ay}{r:dw}:d9 b s v r=some (Wf s.eb r v b):=by
 have key:∃x,d9 b (mZ.mk [] [] [] [] [] [] [] 0 [] [] [] [] [] 0 0 [] [] s.eb [] [] []) v r=some x:=by simp only[d9,jy,ano,ai];refine rf (fE ⟨_,rfl⟩ (fE ⟨_,rfl⟩ (fE ⟨_,rfl⟩ ⟨_,rfl⟩))) λ_=>fE ⟨_,rfl⟩ (rf (fE (fE ⟨_,rfl⟩ (fE ⟨_,rfl⟩ ⟨_,rfl⟩)) (fE ⟨_,rfl⟩ ⟨_,rfl⟩)) λ_=>fE ⟨_,rfl⟩ ⟨_,rfl⟩)
 have e:d9 b s v r=d9 b (mZ.mk [] [] [] [] [] [] [] 0 [] [] [] [] [] 0 0 [] [] s.eb [] [] []) v r:=rfl;obtain⟨x,hx⟩:=key;rw[e,Wf,hx];rfl
theorem Am{l:U iX}{φ:(iX×Unit)->J Bool}(p:iX->Bool)(h:∀x∈l,φ (x,())=some (p x))(hl:l.length<1099511627776)(hn:l.length<n):kM n l φ=some (l.any p):=by have:rM n l φ=some (BQ p l):=jd p h hl hn;simp[kM,this,yE]
def We(built:U iX)(lot:Int)(r:dw)(v:ay):Bool:=built.any (Wf lot r v)
theorem adK{s:mZ}{v:ay}{r:dw}(hb:s.gx.length<=1000)(hn:2000<=n):kN n v s r=some (We s.gx s.eb r v):=by simp[kN,tJ,Am (n:=n) (l:=s.gx) (φ:=λ(y1:iX×Unit)=>d9 y1.1 s v r) (Wf s.eb r v) (λ x _=>agj) (by omega) (by omega),We]
def mf(r:dw):bZ:=bZ.mk r.lp r.nq r.np r.ke r.gz
def mi(t:gL):dh:=dh.mk t.cw t.co t.cm [] t.cx t.cp t.cL t.ct
structure yn(t:gL):Prop where
 lots:∀l∈t.land,GW l
 land:t.land.length<=1000
 eas:t.cA.length<=900/\∀e∈t.cA,e.area.length<=900
 built:t.built.length<=1000
 zones:t.cm.length<=100
 caps:t.cx.length<=4000000
 rules:t.br.length<=100
 rule:∀r∈t.br,YE r/\(toE (mf r)).wt<=4000000
 plan:aix (mi t)
def YR(d:aG):Prop:=xV d/\YO d
def AI(n:Nat):Prop:=5000003<=n/\n<=9223372036854775000
def wB(t:gL)(lot:j5):U ByteArray:=HA t.cm lot.area
def th(t:gL)(lot:j5)(d:aG):mZ:=mZ.mk t.cw t.co t.cm t.br t.cx t.cp t.cL t.ct t.land t.cA t.windows t.built t.base lot.id lot.owner lot.area lot.from_ d.lot d.phases (ch d) (wB t lot)
theorem agk{d:aG}(h:xV d)(hn:1001<=n):uN n d=some (ch d):=by obtain⟨h1,h2⟩:=h;unfold uN;have key:=Kz (step:=p8 d) (λ i=>(i,(d.phases.take i).flatMap (·.az))) (s:=(0,[])) d.phases.length (ch d) rfl (λ i hi=>by have hl:=eM (l:=d.phases.take i) λp hp=>h2 p (List.mem_of_mem_take hp);rw[length_take]at hl;have hv:=h2 _ (getElem_mem hi);generalize hL:(d.phases.take i).flatMap (·.az)=L at hl;have hap:bR L.length L.length d.phases[i].az.length d.phases[i].az.length 72=true:=dS (by omega) (by simp[maxLen];omega);simp only[p8,dR hi,aj,bB hi,ai,hap,fI,aK,bn i];rw[iF hi,List.flatMap_append,hL];simp) (by simp[p8,ch]) n (by omega);have hz:aE 0 ([]:U ay).length=true:=rfl;simp[key]
def T0(n:Nat)(t:gL)(d:aG):Bool:=(kS n (mi t) (mQ t.land d.lot).1 d).getD false
def xW(n:Nat)(t:gL)(d:aG):Int:=bif(mQ t.land d.lot).2 then(bif T0 n t d then 0 else 1)else 4
def aq1:mZ:=mZ.mk ([]) ([]) ([]) ([]) ([]) ([]) ([]) 0 ([]) ([]) ([]) ([]) ([]) 0 0 ([]) ([]) 0 ([]) ([]) ([])
theorem look_eq{t:gL}{d:aG}(ht:yn t)(hd:YR d)(hn:AI n):Bf n t d=some (bif xW n t d==0 then th t (mQ t.land d.lot).1 d else aq1,xW n t d)/\(xW n t d=0->∀v∈ch d,okV v=true):=by
 obtain⟨hn1,hn2⟩:=hn;have hl:=ht.land;have e1:Oi n t.land d.lot=some (mQ t.land d.lot):=alk ht.lots (by omega) (by omega);have hw:=abU ht.lots d.lot;obtain⟨b,hb,hv⟩:=alx (n:=n) (p:=mi t) (lot:=(mQ t.land d.lot).1) (d:=d) ht.caps hw.1 hd.1 hd.2 (by omega);have e2:kS n (dh.mk t.cw t.co t.cm t.br t.cx t.cp t.cL t.ct) (mQ t.land d.lot).1 d=some b:=hb;have e3:Dy n (dh.mk t.cw t.co t.cm t.br t.cx t.cp t.cL t.ct) (mQ t.land d.lot).1.area=some (HA t.cm (mQ t.land d.lot).1.area):=adx _ _ ht.zones hw.1 (by omega);have e4:T0 n t d=b:=by unfold T0;rw[hb];rfl
 simp[Bf,e1,e2,e3,agk hd.1 (show 1001<=n by omega),xW,e4];cases (mQ t.land d.lot).2 with
 |false=>exact⟨rfl,λh=>absurd (show (4:Int)=0 from h) (by decide)⟩
 |true=>
  cases b with
  |false=>exact⟨rfl,λh=>absurd (show (1:Int)=0 from h) (by decide)⟩
  |true=>exact⟨rfl,λ_=>hv rfl⟩
def apF(n:Nat)(t:gL)(lot:j5)(d:aG)(r:dw):Bool:=((oI n (mi t) lot d).bind λms=>Bn n (mi t) ms (wB t lot) (mf r)).getD 1==0
def HI(n:Nat)(t:gL)(lot:j5)(d:aG)(r:dw):Bool:=
 bif r.kind==0 then apF n t lot d r else bif r.kind==1 then(ch d).any (λ v=>!VX (VU lot.area).1 (YQ r) v)else bif r.kind==2 then(ch d).any (T1 r)else bif r.kind==3 then(ch d).any (We t.built d.lot r)else false
theorem YS{t:gL}(ht:yn t)(lot:j5):(wB t lot).length<=100:=Nat.le_trans (aoS _ _) ht.zones
theorem alz{t:gL}{lot:j5}{d:aG}{r:dw}(ht:yn t)(hl:lot.area.length<=900)(hd:YR d)(hv:∀v∈ch d,okV v=true)(hr:(toE (mf r)).wt<=4000000)(hn:AI n):nN n (th t lot d) r=some (HI n t lot d r):=by
 obtain⟨hn1,hn2⟩:=hn;have hvl:=wu hd.1;have hz:=YS ht lot;simp only[nN,iJ,HI];cases (r.kind==0)with
 |true=>
  have htb:=ht.plan.tabs;obtain⟨e1,e2,e3,e4,e5,e6,e7,e8,hOf⟩:=aqZ (n:=n) (p:=mi t) (lot:=lot) (d:=d) ⟨by have:=htb.1;omega,by have:=htb.1;omega,λx hx=>by have:=htb.2 x hx;omega⟩ hl hd.1 (by omega);have h1:=hOf t.br;have h2:=hOf [];have h2':oI n (mi t) lot d=_:=h2;have h1':oI n (dh.mk t.cw t.co t.cm t.br t.cx t.cp t.cL t.ct) (j5.mk lot.id lot.owner lot.area lot.from_) (aG.mk d.lot d.phases)=_:=h1;obtain⟨v,hE⟩:=ao0 (n:=n) (p:=mi t) (ms:=[⟨⟨#[97,114,101,97]⟩,e1⟩,⟨⟨#[99,111,118,101,114]⟩,e2⟩,⟨⟨#[102,108,111,111,114]⟩,e3⟩,⟨⟨#[102,108,111,111,114,115]⟩,e4⟩,⟨⟨#[104,101,105,103,104,116]⟩,e5⟩,⟨⟨#[104,111,109,101,115]⟩,e6⟩,⟨⟨#[114,117,110,111,102,102]⟩,e7⟩,⟨DU,DT (sG lot) (iL d)⟩,⟨⟨#[116,114,97,102,102,105,99]⟩,e8⟩]) (zs:=wB t lot) (e:=mf r) ht.plan (by simp) (by omega) hr hn1 hn2;have hE':=(aiC (n:=n) (d:=t.cw) (ts:=t.co) (z:=t.cm) (r:=t.br) (r':=[]) (c:=t.cx) (v:=t.cp) (su:=t.cL) (h:=t.ct) (zs:=wB t lot) (ms:=[⟨⟨#[97,114,101,97]⟩,e1⟩,⟨⟨#[99,111,118,101,114]⟩,e2⟩,⟨⟨#[102,108,111,111,114]⟩,e3⟩,⟨⟨#[102,108,111,111,114,115]⟩,e4⟩,⟨⟨#[104,101,105,103,104,116]⟩,e5⟩,⟨⟨#[104,111,109,101,115]⟩,e6⟩,⟨⟨#[114,117,110,111,102,102]⟩,e7⟩,⟨DU,DT (sG lot) (iL d)⟩,⟨⟨#[116,114,97,102,102,105,99]⟩,e8⟩]) (e:=mf r) ht.plan.defs ht.plan.tabs (by simp) (by omega) hn1 hn2).trans hE;unfold mf at hE';simp[th,h1',hE',apF,h2',hE]
 |false=>
  cases (r.kind==1)with
  |true=>
   simp only[aj,au,show(th t lot d).lh=lot.area from rfl,show(th t lot d).az=ch d from rfl,adA (n:=n) lot.area hl (by omega),ai];rw[fH (λ v=>!VX (VU lot.area).1 (YQ r) v) (λ v _=>adG v _ r (by omega)) (by omega) (by omega)];rfl
  |false=>
   cases (r.kind==2)with
   |true=>
    simp only[aj,au,show(th t lot d).az=ch d from rfl];rw[fH (T1 r) (λ v hm=>adH (hv v hm) r) (by omega) (by omega)];rfl
   |false=>
    cases (r.kind==3)with
    |true=>
     simp only[aj,au,show(th t lot d).az=ch d from rfl];rw[fH (We t.built d.lot r) (λ v _=>adK (s:=th t lot d) ht.built (by omega)) (by omega) (by omega)];rfl
    |false=>rfl
def addN(out:U ByteArray)(name:ByteArray)(bad:Bool):U ByteArray:=bif bad&&!(out.any (gA name))then out++[name]else out
theorem agl out (name:ByteArray) bad:(addN out name bad).length<=out.length+1:=by unfold addN;cases (bad&&!(out.any (gA name)))<;>simp
theorem agm{name:ByteArray}{bad:Bool}{out:U ByteArray}(hl:out.length<=1000)(hn:2000<=n):kg n name bad out=some (addN out name bad):=by
 have hmx:maxLen=9223372036854775807:=rfl;have hap:bR out.length out.length (sub [name] 0 1).length 1 16=true:=by simp[bR,sub];omega
 simp[kg,vK (n:=n) (l:=out) (a:=name) (by omega) (by omega),addN,hap];cases bad with
 |false=>rfl
 |true=>cases (out.any (gA name))<;>rfl
def anG(t:gL)(d:aG):Bool:=(ch d).any λv=>!Re t.cA d.lot (wz v)
def alA:ByteArray:=⟨#[101,97,115,101,109,101,110,116]⟩
def Rz(n:Nat)(t:gL)(lot:j5)(d:aG)(l:U dw):U ByteArray:=l.foldl (λ out r=>addN out r.name (HI n t lot d r)) []
theorem LD(f:dw->Bool):∀(l:U dw) out,(l.foldl (λ out r=>addN out r.name (f r)) out).length<=out.length+l.length
 |[],out=>by simp
 |r::l,out=>by have h1:=LD f l (addN out r.name (f r));have h2:=agl out r.name (f r);rw[foldl_cons,gB];omega
def applied(t:gL)(lot:j5)(day:Int):U dw:=t.br.filter (sF (wB t lot) day)
def vF(t:gL)(d:aG):j5:=(mQ t.land d.lot).1
def O8(n:Nat)(t:gL)(d:aG)(day:Int):U ByteArray:=bif xW n t d==0 then addN (Rz n t (vF t d) d (applied t (vF t d) day)) alA (anG t d)else []
theorem abY{t:gL}{d:aG} day (ht:yn t) (hd:YR d) (hn:AI n):rY n t d day=some (O8 n t d day,xW n t d):=by
 obtain⟨hk,hv⟩:=look_eq (n:=n) ht hd hn;have hn1:=hn.1;have hvl:=wu hd.1;simp[rY,hk,O8];by_cases h0:xW n t d=0;have h0b:(xW n t d==0)=true:=by simp[h0]
 have h0c:(xW n t d !=0)=false:=by simp[h0]
 have hw:=abU ht.lots d.lot;have hz:=YS ht (vF t d);have hA:uQ n (dh.mk t.cw t.co t.cm t.br t.cx t.cp t.cL t.ct) (wB t (vF t d)) day=some ((Rx t.br (wB t (vF t d)) day).map λ(i:Nat)=>(i:Int)):=Uz _ _ _ (λ r hr=>(ht.rule r hr).1) ht.rules hz (by omega);have hal:(Rx t.br (wB t (vF t d)) day).length<=100:=Nat.le_trans (length_filter_le _ _) (by rw[List.length_range];exact ht.rules);have hpick:(Rx t.br (wB t (vF t d)) day).filterMap (λ i=>t.br[i]?)=applied t (vF t d) day:=Ub (sF (wB t (vF t d)) day) t.br;have hloop:∀A:U Nat,A.length<=100->(∀ i∈A,i<t.br.length)->iter (nR n t (th t (vF t d) d,xW n t d) (A.map λ(i:Nat)=>i)) n (0,[])=some (Rz n t (vF t d) d (A.filterMap λi=>t.br[i]?)):=by
  intro A hA hAr
  have key:=gD (l:=A) (step:=nR n t (th t (vF t d) d,xW n t d) (A.map λ(i:Nat)=>i)) (λ i s=>(i,s)) (λ i s=>match t.br[i]? with
   |some r=>addN s r.name (HI n t (vF t d) d r)
   |none=>s) (λ s=>s) (λ i s=>s.length<=i) (λ i hi s hs=>by have hr:=hAr _ (getElem_mem hi);have hlm:(A.map λ(i:Nat)=>(i:Int)).length=A.length:=(by simp);have hg:bu (A.map λ(i:Nat)=>(i:Int)) ((0:Nat)+i)=some ((A[i]:Nat):Int):=(by rw[bM (by omega)];simp);have hrr:=ht.rule _ (getElem_mem hr);have hb:=alz (n:=n) (t:=t) (lot:=vF t d) (d:=d) ht hw.1 hd (hv h0) hrr.2 hn;have e:=dP hr;simp only[nR,hlm,dR hi,aj,aU hi,hg,ai,bB hr,hb,aK,agm (n:=n) (name:=t.br[A[i]].name) (bad:=HI n t (vF t d) d t.br[A[i]]) (out:=s) (by omega) (by omega),bn i,e];exact⟨trivial,Nat.le_trans (agl _ _ _) (by omega)⟩) (λ s _=>by have hlm:(A.map λ(i:Nat)=>i).length=A.length:=(by simp);simp[nR]) n (by omega) [] (aB _)
  rw[ky]at key;rw[key];congr 1;unfold Rz;generalize []=s0;clear key hA
  induction A generalizing s0 with
  |nil=>rfl
  |cons a A ih=>
   have ha:=hAr a (by simp);rw[foldl_cons,List.filterMap_cons];simp only[dP ha];rw[foldl_cons];exact ih (λ i hi=>hAr i (by simp[hi])) _
 have hlo:=hloop (Rx t.br (wB t (vF t d)) day) hal (λ i hi=>by have:=(mem_filter.1 hi).1;simpa using this);rw[hpick]at hlo;have hrl:(Rz n t (vF t d) d (applied t (vF t d) day)).length<=100:=by have h1:=LD (HI n t (vF t d) d) (applied t (vF t d) day) [];have h2:(applied t (vF t d) day).length<=100:=Nat.le_trans (length_filter_le _ _) ht.rules;unfold Rz;simp at h1;omega
 have hany:iJ n (th t (vF t d) d) (λ (y1:ay×Unit)=>nQ n y1.1 t d)=some (anG t d):=by
  have hs:∀v,nQ n v t d=some (!Re t.cA d.lot (wz v)):=by intro v;have hl1:(wz v).length=1:=rfl;have h:=aaj (n:=n) (l:=t.cA) (lot:=d.lot) (s:=wz v) ht.eas.1 ht.eas.2 (by simp[wz]) (by omega);simp[nQ,agi,h]
  simp[iJ,show(th t (vF t d) d).az=ch d from rfl];rw[fH (λ v=>!Re t.cA d.lot (wz v)) (λ v _=>hs v) (by omega) (by omega)];rfl
 have hsc:th t (mQ t.land d.lot).1 d=th t (vF t d) d:=rfl;simp only[h0b,h0c,aj,au,hsc,show(th t (vF t d) d).zones=wB t (vF t d)from rfl,hA,ai,length_nil,aK,hlo,hany,agm (n:=n) (name:=⟨#[101,97,115,101,109,101,110,116]⟩) (bad:=anG t d) (out:=Rz n t (vF t d) d (applied t (vF t d) day)) (by omega) (by omega),fJ];rw[h0];rfl;have h0b:(xW n t d==0)=false:=by simpa using h0
 have h0c:(xW n t d !=0)=true:=by simpa using h0
 simp[h0b,h0c]
theorem alB{t:gL}{d:aG} day (ht:yn t) (hd:YR d) (hn:AI n):rZ n t d day=some ((xW n t d==0)&&decide (O8 n t d day=[])):=by
 simp[rZ,abY day ht hd hn];cases (xW n t d==0)with
 |false=>rfl
 |true=>
  simp;cases O8 n t d day with
  |nil=>rfl
  |cons x l=>
   have:(((x::l).length:Nat):Int)≠0:=(by simp;omega);rw[beq_eq_false_iff_ne.2 this];simp
end Go.Proofs
