import Derived.Test.YtlhamcjimbeggaaGreatDoorTD1
open Go.IntKind (i64)
open List (length_take mem_map all_eq_true getElem_mem length_map mem_iff_getElem append_nil length_drop length_nil foldl_cons take_of_length_le mem_filter any_eq_true mem_cons_self pairwise_cons map_nil all_cons drop_eq_getElem_cons set_append_right length_filter_le mem_flatMap map_append pairwise_append getElem_drop)
namespace Go.Proofs
open Go.Gb Go.RowKit
variable {n:Nat}
theorem jA(a b:Int):cmp_Compare_int a b=some (if a<b then -1 else if b<a then 1 else 0):=by by_cases h1:a<b;simp[cmp_Compare_int,cmp_isNaN_int,h1];by_cases h2:b<a;simp[cmp_Compare_int,cmp_isNaN_int,h1,h2];simp[cmp_Compare_int,cmp_isNaN_int,h1,h2]
theorem lN{l:U Int}(hl:l.length<1099511627776)(_:l.length<n):mO n l=some (jP mT l):=by show NB l=_;unfold NB;rw[Nat.ble_eq_true_of_le (show l.length<=1099511627775 by omega),ak]
theorem ny{l:U Int}(hl:l.length<1099511627776)(hn:l.length<n):lF n l=some ((),iE l):=by rw[<- agx];exact abk (eq:=λx y=>x==y) (ne:=λx y=>x !=y) (λ x y=>by simp[bne]) hl hn
theorem VI{l:U Int}{a:Int}(hl:l.length<1099511627776)(hn:l.length<n):Gp n l a=some (CU (λ x=>a==x) l):=U2 hl hn
theorem NH{l:U Int}{a:Int}(hl:l.length<1099511627776)(hn:l.length<n):tV n l a=some (l.any λx=>a==x):=by unfold tV;rw[VI hl hn,ai,yZ]
theorem H8{l:U dX}{Z:(dX×Unit)->J Bool}(p:dX->Bool)(h:∀x∈l,Z (x,())=some (p x))(hl:l.length<1099511627776)(hn:l.length<n):uh n l Z=some (CU p l):=jc p h hl hn
theorem H9{l:U bZ}{Z:(bZ×Unit)->J Bool}(p:bZ->Bool)(h:∀x∈l,Z (x,())=some (p x))(hl:l.length<1099511627776)(hn:l.length<n):lJ n l Z=some (CU p l):=jc p h hl hn
theorem Sz{l:U aj}(h:l.length<1099511627776):xh l=some l:=U3 (b:=32) (by omega) (by simp[maxLen];omega)
theorem Ql{l:U (List aj)}(hf:l.flatten.length<1099511627776)(hl:l.length<1099511627776)(hn:l.length<n):Al n l=some l.flatten:=Py (aj.mk 0 0 0 0) (b:=32) hf (by omega) hl hn
theorem EH{a b:U aj}(hl:a.length<1099511627776)(hn:a.length<n):nP n a b=some (decide (a=b)):=by
 have e:nP n a b=Pz n (λ x1 x2:aj=>!((x1.x0==x2.x0)&&((x1.y0==x2.y0)&&((x1.x1==x2.x1)&&((x1.y1==x2.y1)&&true))))) a b:=by kernel_rfl
 rw[e];refine JI (λ x y=>?_) hl hn;obtain⟨a,b,c,d⟩:=x;obtain⟨e,f,g,h⟩:=y;simp;rw[dH];simp
theorem EI{a b:U aN}(hl:a.length<1099511627776)(hn:a.length<n):xk n a b=some (decide (a=b)):=by
 have e:xk n a b=Pz n (λ x1 x2:aN=>!((x1.from_==x2.from_)&&((x1.to==x2.to)&&true))) a b:=by kernel_rfl
 rw[e];refine JI (λ x y=>?_) hl hn;obtain⟨a,b⟩:=x;obtain⟨c,d⟩:=y;simp;rw[dH];simp
abbrev t8(a b:aN):Bool:=decide (a.from_<b.from_)
theorem Qm:Go.Sort.SWO t8 where
 irrefl x:=by simp[t8]
 trans x y z h1 h2:=by simp only[t8,bF]at *;omega
 ntrans x y z h1 h2:=by simp only[t8,dQ]at *;omega
theorem LP{l:U aN}{Z:(aN×aN×Unit)->J Int}(f:aN->aN->Int)(hφ:∀x y,Z (x,y,())=some (f x y))(hf:∀x y,decide (f x y<0)=t8 x y)(hl:l.length<1099511627776)(_:l.length<n):wO n l Z=some (rX t8 l):=
 agG f hφ hf Qm hl
theorem ak3{Θ O:Type}{step:Θ->J (Θ⊕O)}(Inv:Θ->Prop)(Post:O->Prop)(μ:Θ->Nat)
 (h:∀v,Inv v->(∃ v',step v=some (.inl v')/\Inv v'/\μ v'< μ v)\/∃o,step v=some (.inr o)/\Post o):∀(n:Nat)(v:Θ),Inv v->μ v<n->∃o,iter step n v=some o/\Post o
 | 0,_,_,hn=>absurd hn (Nat.not_lt_zero _)
 |n+1,v,hi,hn=>by rcases h v hi with ⟨v',h1,h2,h3⟩|⟨o,h1,h2⟩;rw[mM h1];exact ak3 Inv Post μ h n v' h2 (by omega);exact⟨o,iD h1,h2⟩
theorem J2:∀(N:Nat)(l:U Nat),l.Nodup->(∀ y∈l,y<N)->l.length<=N
 | 0,[],_,_=>aB _
 | 0,x::l,_,h=>absurd (h x (by simp)) (by omega)
 |N+1,l,hn,h=>by
  have h1:=J2 N (l.filter λy=>decide (y≠N)) (hn.filter _) (λ y hy=>by rw[mem_filter]at hy;have:=h y hy.1;have:=hy.2;simp at this;omega);have h2:=List.length_eq_countP_add_countP (λ y=>decide (y≠N)) (l:=l);rw[List.countP_eq_length_filter]at h2;have h3:List.countP (λ a=>decide ¬(decide (a≠N)=true)) l=l.count N:=by rw[List.count];refine List.countP_congr λy _=>?_;simp
  have h4:=List.nodup_iff_count.1 hn N;omega
def xv(us:U (List Int))(N:Nat):Prop:=us.length=N/\N<=4000000/\∀l∈us,l.length<=4000000/\∀k∈l,0<=k/\k<N
structure BI(us:List (List Int))(N to h:Nat)(d:List Int)(F:List Nat):Prop where
 dl:d.length=N
 nd:F.Nodup
 rg:∀x∈F,x<N
 mem:∀i:Nat,i<N->(0<=d.getD i 0↔i∈F)
 ub:∀j x:Nat,F[j]? =some x->d.getD x 0<=(j:Int)
 pre:∀j x:Nat,F[j]? =some x->0<j->∃p y:Nat,p<j/\F[p]? =some y/\(y:Int)∈us.getD x []/\d.getD y 0=d.getD x 0-1
 hd:F[0]? =some to/\d.getD to 0=0
 hh:h<=F.length
 cl:∀p y:Nat,p<h->F[p]? =some y->∀i:Nat,i<N->(y:Int)∈us.getD i []->0<=d.getD i 0
theorem BI.len{us:U (List Int)}{N to h:Nat}{d:U Int}{F:U Nat}(b:BI us N to h d F):F.length<=N:=by exact J2 N F b.nd b.rg
theorem BI.push{us:U (List Int)}{N to h:Nat}{d:U Int}{F:U Nat}(b:BI us N to h d F){i x p:Nat}(hi:i<N)(hd:d.getD i 0<0)(hp:F[p]? =some x)(hx:(x:Int)∈us.getD i []):
 BI us N to h (d.set i (d.getD x 0+1)) (F++[i]):=by
 have hiF:i∉F:=λhm=>by have:=(b.mem i hi).2 hm;omega
 have TO:x∈F:=dM hp;have hne:∀y,y∈F->i≠y:=λy hy e=>hiF (e ▸ hy);have hset:∀y,y∈F->(d.set i (d.getD x 0+1)).getD y 0=d.getD y 0:=λy hy=>by simp[List.getElem?_set_ne (hne y hy)]
 have wy:(d.set i (d.getD x 0+1)).getD i 0=d.getD x 0+1:=by
  have:i<d.length:=by rw[b.dl];exact hi
  simp[this]
 have hx0:0<=d.getD x 0:=(b.mem x (b.rg x TO)).2 TO;have hlt:p<F.length:=(dO.1 hp).1;refine⟨by simpa using b.dl,?_,?_,?_,?_,?_,?_,?_,?_⟩;rw[List.nodup_append];exact⟨b.nd,by simp,λa ha c hc=>by simp at hc;subst hc;exact λe=>hiF (e ▸ ha)⟩;intro y hy;rw[bD]at hy;rcases hy with hy|hy;exact b.rg y hy;simp at hy;omega;intro j hj;by_cases e:i=j;subst e;rw[wy];exact⟨λ _=>by simp,λ_=>by omega⟩;simp only[List.getD,List.getElem?_set_ne e];rw[bD];have:=b.mem j hj;simp at this;rw[this];simp[Ne.symm e];intro j y hy;rw[List.getElem?_append]at hy;split at hy;rw[hset y (dM hy)];exact b.ub j y hy;rename_i hj;have:y=i/\j=F.length:=by
  cases h:j-F.length with
  |zero=>rw[h]at hy;simp at hy;exact⟨hy.symm,by omega⟩
  |succ z=>rw[h]at hy;simp at hy
 obtain⟨rfl,rfl⟩:=this;rw[wy];have:=b.ub p x hp;omega;intro j y hy hj;rw[List.getElem?_append]at hy;split at hy;have⟨p',y',h1,h2,h3,h4⟩:=b.pre j y hy hj;exact⟨p',y',h1,by rw[List.getElem?_append_left (by have:=(dO.1 h2).1;exact this)];exact h2,h3,by rw[hset y' (dM h2),hset y (dM hy)];exact h4⟩;rename_i hj';have:y=i/\j=F.length:=by
  cases h:j-F.length with
  |zero=>rw[h]at hy;simp at hy;exact⟨hy.symm,by omega⟩
  |succ z=>rw[h]at hy;simp at hy
 obtain⟨rfl,rfl⟩:=this;exact⟨p,x,hlt,by rw[List.getElem?_append_left hlt];exact hp,hx,by rw[wy,hset x TO];omega⟩;have h0:=(dO.1 b.hd.1).1;exact⟨by rw[List.getElem?_append_left h0];exact b.hd.1,by rw[hset _ (dM b.hd.1)];exact b.hd.2⟩;have:=b.hh;simp;omega;intro p' y hp' hy j hj hm;rw[List.getElem?_append_left (by have:=b.hh;omega)]at hy;have:=b.cl p' y hp' hy j hj hm;rw[hset j ((b.mem j hj).1 this)];exact this
theorem pr{α:Type}(o:Nat)(l:U α):Yd o l=l.drop o:=by cases o<;>simp[Yd]
def BS(us:U (List Int))(N to h x:Nat):(Int×Int×List Int×List Int)->Prop
 |(v4,v5,d,v7)=>∃(o i:Nat)(F:U Nat),v4=o/\v5=i/\o<=v7.length/\v7.drop o=(F.drop (h+1)).map (λ k:Nat=>(k:Int))/\i<=N/\BI us N to h d F/\F[h]? =some x/\∀i',i'<i->(x:Int)∈us.getD i' []->0<=d.getD i' 0
theorem apT{n N to h x:Nat}{a0:qO}{r1:U Int}(hg:xv a0.uses N)(hr:r1.length=N)(hn:4000001<=n)(v:Int×Int×List Int×List Int)(hv:BS a0.uses N to h x v):
 (∃ v',gM n a0 r1 x v=some (.inl v')/\BS a0.uses N to h x v'/\N-v'.2.1.toNat<N-v.2.1.toNat)\/
 ∃q,gM n a0 r1 x v=some (.inr q)/\∃(o:Nat)(F:U Nat),q.1=(o:Int)/\o<=q.2.2.length/\q.2.2.drop o=(F.drop (h+1)).map (λ k:Nat=>(k:Int))/\BI a0.uses N to (h+1) q.2.1 F:=by
 obtain⟨v4,v5,d,v7⟩:=v;obtain⟨o,i,F,rfl,rfl,ho,hq,hi,hb,hx,hc⟩:=hv;have hx':x<N:=hb.rg x (dM hx);have Hb:=hg.1;have hdl:=hb.dl;by_cases hlt:i<N;left;have xt:i<a0.uses.length:=by omega
 have hl:=hg.2.2 a0.uses[i] (getElem_mem xt);have hcon:=NH (n:=n) (l:=a0.uses[i]) (a:=(x:Int)) (by omega) (by omega);have hud:a0.uses.getD i []=a0.uses[i]:=by simp[xt]
 have hdi:d[i]'(by omega)=d.getD i 0:=by simp[show i<d.length by omega]
 have Hc:d[x]'(by omega)=d.getD x 0:=by simp[show x<d.length by omega]
 simp only[gM,show decide ((i:Int)<((a0.uses.length:Int)))=true from by simp;omega,ak,bB xt,ai,bC (show i<r1.length by omega),bC (show x<r1.length by omega),
  bH (show i<d.length by omega),bH (show x<d.length by omega),hcon,hdi,Hc]
 have hFl:=hb.len;have hN:=hg.2.1;have hlen:v7.length-o=F.length-(h+1):=by have:=congrArg List.length hq;simpa using this
 have hmx:maxLen=9223372036854775807:=rfl;by_cases hA:d.getD i 0<0/\(x:Int)∈a0.uses[i];have h1:(a0.uses[i].any λy=>(x:Int)==y)=true:=any_eq_true.2 ⟨_,hA.2,by simp⟩;have hx0:0<=d.getD x 0:=(hb.mem x hx').2 (dM hx);have hxu:=hb.ub h x hx;have Wa:h<F.length:=(dO.1 hx).1;have hap:bP (v7.drop o).length (v7.length-o) (sub [(i:Int)] 0 1).length 1 8=true:=by simp[bP,sub];omega
 have hw:i64.wrap (d.getD x 0+1)=d.getD x 0+1:=bT (by omega) (by omega);refine⟨(((0:Nat):Int),((i+1:Nat):Int),d.set i (d.getD x 0+1),v7.drop o++[(i:Int)]),?_,?_,by show N-((i+1:Nat):Int).toNat<N-(i:Int).toNat;omega⟩;simp only[hA.1,decide_true,ak,ai,h1,Int.toNat_natCast,pr,hap,eH,hw,aW i];simp[sub];refine⟨0,i+1,F++[i],rfl,rfl,Nat.zero_le _,?_,by omega,hb.push hlt hA.1 hx (by rw[hud];exact hA.2),by rw[List.getElem?_append_left Wa];exact hx,?_⟩;rw[List.drop_zero,hq,List.drop_append_of_le_length (by omega)];simp;intro i' hi' hm;have hpush:=hb.push hlt hA.1 hx (by rw[hud];exact hA.2);by_cases e:i'=i;subst e;exact(hpush.mem i' hlt).2 (by simp);have:=hc i' (by omega) hm;exact(hpush.mem i' (by omega)).2 (List.mem_append_left _ ((hb.mem i' (by omega)).1 this));have hB:(bif decide (d.getD i 0<0)then some (a0.uses[i].any λy=>(x:Int)==y)else some false)=some false:=by
  by_cases h2:d.getD i 0<0;simp only[h2,decide_true,ak,bX];cases hc:(a0.uses[i].any λy=>x==y)with
  |false=>rfl
  |true=>
   obtain⟨y,hy,e⟩:=any_eq_true.1 hc;obtain rfl:x=y:=(by simpa using e);exact absurd ⟨h2,hy⟩ hA
  simp only[h2,decide_false,ay]
 refine⟨(o,(i+1:Nat),d,v7),?_,?_,by show N-((i+1:Nat):Int).toNat<N-(i:Int).toNat;omega⟩;rw[hB];simp[JH (show o+(v7.length-o)=v7.length by omega),aW i];refine⟨o,i+1,F,rfl,rfl,ho,hq,by omega,hb,hx,λi' hi' hm=>?_⟩;by_cases e:i'=i;subst e;rw[hud]at hm;exact Int.not_lt.1 λh2=>hA ⟨h2,hm⟩;exact hc i' (by omega) hm;right;have hiN:i=N:=by omega
 have Wa:h<F.length:=(dO.1 hx).1;refine⟨(o,d,v7),?_,o,F,rfl,ho,hq,?_⟩;simp only[gM,show decide ((i:Int)<(a0.uses.length))=false from by simp;omega,ay,Int.toNat_natCast,JH (show o+(v7.length-o)=v7.length by omega),ak];refine⟨hb.dl,hb.nd,hb.rg,hb.mem,hb.ub,hb.pre,hb.hd,Wa,λp y hp hy j hj hm=>?_⟩;by_cases e:p=h;subst e;rw[hx]at hy;cases hy;exact hc j (by omega) hm;exact hb.cl p y (by omega) hy j hj hm
def BO(us:U (List Int))(N to h:Nat):(Int×List Int×List Int)->Prop
 |(v1,d,v3)=>∃(o:Nat)(F:U Nat),v1=o/\o<=v3.length/\v3.drop o=(F.drop h).map (λ k:Nat=>(k:Int))/\BI us N to h d F
theorem apU{n N to h:Nat}{a0:qO}{r1:U Int}(hg:xv a0.uses N)(hr:r1.length=N)(hn:4000001<=n)(v:Int×List Int×List Int)(hv:BO a0.uses N to h v):
 (∃ v',eT n a0 r1 v=some (.inl v')/\BO a0.uses N to (h+1) v')\/∃d,eT n a0 r1 v=some (.inr d)/\∃F,BI a0.uses N to F.length d F:=by
 obtain⟨v1,d,v3⟩:=v;obtain⟨o,F,rfl,ho,hq,hb⟩:=hv;have hlen:v3.length-o=F.length-h:=by have:=congrArg List.length hq;simpa using this
 by_cases hlt:h<F.length;left;obtain⟨x,hx⟩:∃x,F[h]? =some x:=⟨_,dY hlt⟩;have hox:v3[o]? =some x:=by have:=congrArg (λ l=>l[0]?) hq;simpa[hx]using this
 have hdr:v3.drop (o+1)=(F.drop (h+1)).map (λ k:Nat=>(k:Int)):=by have:=congrArg (λ l=>l.drop 1) hq;simpa using this
 obtain⟨q,hq1,o2,F2,hq2,hq3,hq4,hq5⟩:=ak3 (BS a0.uses N to h x) (λ q:Int×List Int×List Int=>∃(o:Nat)(F:U Nat),q.1=o/\o<=q.2.2.length/\q.2.2.drop o=(F.drop (h+1)).map (λ k:Nat=>(k:Int))/\BI a0.uses N to (h+1) q.2.1 F)
  (λ v=>N-v.2.1.toNat) (apT (r1:=r1) hg hr hn) n ((o+1:Nat),0,d,v3) ⟨o+1,0,F,rfl,rfl,by omega,hdr,Nat.zero_le _,hb,hx,λi' hi'=>absurd hi' (Nat.not_lt_zero _)⟩ (by have:=hg.2.1;simp;omega)
 obtain⟨w1,w2,w3⟩:=q;simp only at hq2 hq3 hq4 hq5;subst hq2;refine⟨(o2,w2,w3),?_,o2,F2,rfl,hq3,hq4,hq5⟩;have hat:ci v3 (o+0)=some (x:Int):=by rw[Int.add_zero,ai4];exact hox
 simp only[eT,Int.toNat_natCast,show decide (((v3.length-o:Nat):Int)>0)=true from by simp;omega,ak,show cR 0 (v3.length-o)=true from by simp[cR];omega,hat,ai,
  wM (show 0<=1 by omega) (show (1:Int)<=(v3.length-o:Nat)by omega) (Int.le_refl _),JH (show o+1+(v3.length-o-1)=v3.length by omega),hq1,JH (show o2+(w3.length-o2)=w3.length by omega)]
 right;have hhF:h=F.length:=by have:=hb.hh;omega
 refine⟨d,?_,F,hhF ▸ hb⟩;simp only[eT,Int.toNat_natCast,show decide (((v3.length-o:Nat):Int)>0)=false from by simp;omega,ay]
theorem gB{Θ O:Type}{step:Θ->J (Θ⊕O)}(Inv:Nat->Θ->Prop)(Post:O->Prop)(K:Nat)(hK:∀k v,Inv k v->k<=K)
 (h:∀k v,Inv k v->(∃ v',step v=some (.inl v')/\Inv (k+1) v')\/∃o,step v=some (.inr o)/\Post o):∀(n k:Nat)(v:Θ),Inv k v->K<n+k->∃o,iter step n v=some o/\Post o
 | 0,k,v,hi,hn=>absurd (hK k v hi) (by omega)
 |n+1,k,v,hi,hn=>by rcases h k v hi with ⟨v',h1,h2⟩|⟨o,h1,h2⟩;rw[mM h1];exact gB Inv Post K hK h n (k+1) v' h2 (by omega);exact⟨o,iD h1,h2⟩
theorem aez{n N to:Nat}{a0:qO}(hg:xv a0.uses N)(hd:a0.defs.length=N)(hn:4000002<=n)(ht:to<N):∃d F,kM n a0 to=some d/\BI a0.uses N to F.length d F:=by
 have hN:=hg.2.1;have hr:sW (sub ([(-1)]:U Int) 0 1) N=some (List.replicate N (-1)):=by show(ck (decide (0<=(N:Int))&&decide ((N:Int)<=1000000000000)) (some (List.replicate (N:Int).toNat (-1))))=_;rw[show decide (0<=(N:Int))=true by simp,show decide ((N:Int)<=1000000000000)=true by simp;omega];rfl
 have hlr:(List.replicate N (-1:Int)).length=N:=List.length_replicate;have hb0:BI a0.uses N to 0 ((List.replicate N (-1:Int)).set to 0) [to]:=by
  have hto:((List.replicate N (-1:Int)).set to 0).getD to 0=0:=by simp[ht]
  refine⟨by simp,by simp,λx hx=>by simp at hx;omega,λi hi=>?_,λj x hx=>?_,λj x hx hj=>?_,⟨rfl,hto⟩,by simp,λp y hp=>absurd hp (Nat.not_lt_zero _)⟩;by_cases e:to=i;subst e;rw[hto];simp;simp[List.getElem?_set_ne e];simp[hi,Ne.symm e];cases j with
  |zero=>simp at hx;subst hx;rw[hto];simp
  |succ j=>simp at hx
  cases j with
  |zero=>omega
  |succ j=>simp at hx
 obtain⟨d,h1,F,h2⟩:=gB (step:=eT n a0 (List.replicate N (-1))) (λ h v=>BO a0.uses N to h v) (λ d=>∃F,BI a0.uses N to F.length d F) N (λ h v ⟨_,_,_,_,_,hb⟩=>Nat.le_trans hb.hh hb.len) (λ h v hv=>apU (n:=n) (r1:=List.replicate N (-1)) hg hlr (by omega) v hv) n 0
  ((0:Nat),(List.replicate N (-1:Int)).set to 0,[to]) ⟨0,[to],rfl,Nat.zero_le _,rfl,hb0⟩ (by omega)
 refine⟨d,F,?_,h2⟩;have hdl:d.length=N:=h2.dl;have h1':iter (eT n a0 (List.replicate N (-1))) n (0,(List.replicate N (-1:Int)).set to 0,[to])=some d:=h1;simp only[kM,hd,hr,ai,hlr,bC ht,bH (show to<(List.replicate N (-1:Int)).length by omega),ak,show(((0:Nat):Int)+to).toNat=to by omega,h1];simp[sub,hdl];exact take_of_length_le (Nat.le_of_eq hdl)
def Nr(d l:U Int)(w:Int):Prop:=
 (w=-1/\∀k∈l,d.getD k.toNat 0<0)\/(w∈l/\0<=d.getD w.toNat 0/\∀k∈l,0<=d.getD k.toNat 0->d.getD w.toNat 0<=d.getD k.toNat 0)
theorem Nr.snoc{d l:U Int}{w k:Int}(h:Nr d l w)(hk:0<=k)(hl:∀x∈l,0<=x):Nr d (l++[k]) (if 0<=d.getD k.toNat 0/\(w<0\/d.getD k.toNat 0<d.getD w.toNat 0)then k else w):=by split;rename_i h1;refine .inr ⟨by simp,h1.1,λz hz h0=>?_⟩;rw[bD]at hz;rcases hz with hz|hz;rcases h with ⟨rfl,h⟩|⟨hw,hw0,h⟩;have:=h z hz;omega;have h2:=h z hz h0;have:=hl w hw;rcases h1.2 with h3|h3<;>omega;simp at hz;subst hz;exact Int.le_refl _;rename_i h1;rcases h with ⟨rfl,h⟩|⟨hw,hw0,h⟩;refine .inl ⟨rfl,λz hz=>?_⟩;rw[bD]at hz;rcases hz with hz|hz;exact h z hz;simp at hz;subst hz;exact Int.not_le.1 λh2=>h1 ⟨h2,.inl (by omega)⟩;refine .inr ⟨List.mem_append_left _ hw,hw0,λz hz h0=>?_⟩;rw[bD]at hz;rcases hz with hz|hz;exact h z hz h0;simp at hz;subst hz;exact Int.not_lt.1 λh2=>h1 ⟨h0,.inr h2⟩
theorem apV{n N:Nat}{d l:U Int}(hd:d.length=N)(hl:l.length<=4000000)(hr:∀k∈l,0<=k/\k<N)(hn:4000001<=n):∃w,iter (jk d l) n (-1,0)=some w/\Nr d l w:=by
 refine gB (λ i (v:Int×Int)=>i<=l.length/\v.2=i/\Nr d (l.take i) v.1) (λ w=>Nr d l w) l.length (λ k v h=>h.1) ?_ n 0 _ ⟨Nat.zero_le _,rfl,.inl ⟨rfl,by simp⟩⟩ (by omega);rintro i ⟨v3,v4⟩ ⟨hi,rfl,hN⟩;by_cases hlt:i<l.length;left;have hk:=hr l[i] (getElem_mem hlt);obtain⟨k,hk2⟩:=Int.eq_ofNat_of_zero_le hk.1;have hkN:k<d.length:=by omega
 have Jx:d[k]=d.getD k 0:=by simp[hkN]
 have htk:l.take (i+1)=l.take i++[l[i]]:=by rw[List.take_add_one,dY hlt];rfl
 have hlk:∀x∈l.take i,0<=x:=λx hx=>(hr x (List.mem_of_mem_take hx)).1;have hsn:=hN.snoc hk.1 hlk;refine⟨(if 0<=d.getD (l[i]).toNat 0/\(v3<0\/d.getD (l[i]).toNat 0<d.getD v3.toNat 0)then l[i]else v3,(i+1:Nat)),?_,hlt,rfl,by rw[htk];exact hsn⟩;simp only[jk,show decide ((i:Int)<l.length)=true from by simp;omega,ak,bB hlt,ai,hk2,bC hkN,bH hkN,Jx,Int.toNat_natCast,aW i];by_cases h0:0<=d.getD k 0;by_cases h1:v3<0;simp only[h0,h1,decide_true,ak,ai,true_and,true_or,if_true];have hv:v3∈l.take i:=by rcases hN with ⟨rfl,_⟩|⟨h,_⟩;omega;exact h
 have CM:=hr v3 (List.mem_of_mem_take hv);obtain⟨z,hz⟩:=Int.eq_ofNat_of_zero_le CM.1;subst hz;have G3:z<d.length:=by omega
 have hgz:d[z]=d.getD z 0:=by simp[G3]
 simp only[h0,decide_true,ak,h1,decide_false,ay,bC G3,bH G3,ai,hgz,Int.toNat_natCast,true_and,false_or];by_cases h2:d.getD k 0<d.getD z 0;simp only[h2,decide_true,ak,if_true,ai];simp only[h2,decide_false,ay,if_false,ai];simp only[h0,decide_false,ay,ai,false_and,if_false];right;refine⟨v3,?_,?_⟩;simp only[jk,show decide ((i:Int)<l.length)=false from by simp;omega,ay];rw[take_of_length_le (by omega)]at hN;exact hN
theorem BI.step{us:U (List Int)}{N to h:Nat}{d:U Int}{F:U Nat}(b:BI us N to h d F){x:Nat}(hx:x<N)(hne:x≠to)(h0:0<=d.getD x 0):∃y:Nat,(y:Int)∈us.getD x []/\d.getD y 0=d.getD x 0-1/\0<=d.getD y 0:=by
 obtain⟨j,hj,hjx⟩:=mem_iff_getElem.1 ((b.mem x hx).1 h0);have hj':F[j]? =some x:=by rw[dY hj,hjx]
 have hj0:0<j:=by
  cases j with
  |zero=>rw[b.hd.1]at hj';cases hj';exact absurd rfl hne
  |succ j=>exact Nat.succ_pos _
 have⟨p,y,_,h2,h3,h4⟩:=b.pre j x hj' hj0;have hyF:=dM h2;exact⟨y,h3,h4,(b.mem y (b.rg y hyF)).2 hyF⟩
theorem ama{n N fr:Nat}{a1:U iQ}{us:U (List Int)}(hg:xv us N)(hd:a1.length=N)(hn:4000003<=n)(hf:fr<N):∃d F c,BI us N fr F.length d F/\kP n fr a1 us=some (a1,us,c)/\c.length<=N+1/\(c=[]->∀k∈us.getD fr [],d.getD k.toNat 0<0):=by
 obtain⟨d,F,hdi,hb⟩:=aez (n:=n) (a0:=qO.mk a1 us) hg hd (by omega) hf;have hN:=hg.2.1;have Hb:=hg.1;have hmx:maxLen=9223372036854775807:=rfl;have hloop:∃o,iter (l7 n fr a1 us d) n (fr,[])=some o/\∃c,o=.inr (a1,us,c)/\c.length<=N+1/\(c=[]->∀k∈us.getD fr [],d.getD k.toNat 0<0):=by
  refine gB (λ k (v:Int×List ByteArray)=>∃at_:Nat,v.1=at_/\at_<N/\v.2.length=k/\k<=N/\((k=0/\at_=fr)\/(0<k/\at_≠fr/\0<=d.getD at_ 0/\d.getD at_ 0+k<=N))) _ N (λ k v ⟨_,_,_,_,h,_⟩=>h) ?_ n 0 _ ⟨fr,rfl,hf,rfl,Nat.zero_le _,.inl ⟨rfl,rfl⟩⟩ (by omega);rintro k ⟨v1,v2⟩ ⟨x,rfl,hx,hv2,hkN,hst⟩;simp at hv2;have hxa:x<a1.length:=by omega
  have hxu:x<us.length:=by omega
  have hl:=hg.2.2 us[x] (getElem_mem hxu);obtain⟨w,hw,hnr⟩:=apV (n:=n) (d:=d) (l:=us[x]) hb.dl hl.1 hl.2 (by omega);have hgu:us.getD x []=us[x]:=by simp[hxu]
  have hap:bP v2.length v2.length (sub [a1[x].name] 0 1).length 1 16=true:=by simp[bP,sub];omega
  simp only[l7,bB hxa,bB hxu,ai,hap,ak,eH,hw];have hsl:(v2++sub [a1[x].name] 0 1).length=k+1:=by simp[sub,hv2]
  have hne:((v2++sub [a1[x].name] 0 1).length==0)=false:=by rw[hsl];simp
  rcases hnr with ⟨rfl,hno⟩|⟨hwm,hw0,hmin⟩;right;refine⟨.inr (a1,us,[]),by simp,[],rfl,by simp,λ_=>?_⟩;rcases hst with ⟨_,rfl⟩|⟨_,TE,hx0,_⟩;rw[hgu];exact hno;have⟨y,hy,_,hy0⟩:=hb.step hx TE hx0;have hy':(y:Int)∈us[x]:=by rw[<- hgu];exact hy
  have:=hno _ hy';simp only[Int.toNat_natCast]at this;omega;have hwr:=hl.2 w hwm;obtain⟨z,rfl⟩:=Int.eq_ofNat_of_zero_le hwr.1;simp only[Int.toNat_natCast]at hw0 hmin;by_cases hzf:z=fr;right;subst hzf;refine⟨.inr (a1,us,v2++sub [a1[x].name] 0 1),?_,_,rfl,by omega,λh=>by rw[h]at hsl;simp at hsl⟩;simp only[show decide ((z:Int)<0)=false from by simp,ay,beq_self_eq_true,ak,hne,Bool.not_false,Bool.true_and,aO,Option.map_some];left;have G3:z<N:=by omega
  have hb1:d.getD z 0+(k+1:Nat)<=N:=by rcases hst with ⟨hk0,rfl⟩|⟨_,TE,hx0,hle⟩;have hzF:=(hb.mem z G3).1 hw0;obtain⟨j,hj,hjz⟩:=mem_iff_getElem.1 hzF;have h3:=hb.ub j z (by rw[dY hj,hjz]);have:=hb.len;omega;have⟨y,hy,hyd,hy0⟩:=hb.step hx TE hx0;have:=hmin y (by rw[<- hgu];exact hy) (by simpa using hy0);simp only[Int.toNat_natCast]at this;omega
  refine⟨(z,v2++sub [a1[x].name] 0 1),?_,z,rfl,G3,hsl,by omega,.inr ⟨Nat.succ_pos _,hzf,hw0,hb1⟩⟩;simp[show decide ((z:Int)<0)=false from by simp,show((z:Int)==fr)=false from by simp;omega]
 obtain⟨o,h1,c,rfl,h2⟩:=hloop;refine⟨d,F,c,hb,?_,h2⟩;simp only[kP,hdi,ai,h1];simp
theorem aeA(a b:ByteArray):∃r,pJ a b=some r:=by simp[pJ,cmp_isNaN_string];cases (!a.toList==a.toList)<;>cases (!b.toList==b.toList)<;>cases X9 a b<;>cases (a.toList==b.toList)<;>exact⟨_,rfl⟩
theorem aeB{a b:U ByteArray}(ha:a.length<=5000000)(hn:5000001<=n):∃r,nk n a b=some r:=by
 obtain⟨o,h,_⟩:=gB (step:=ni a b) (λ i v=>v=i/\i<=a.length) (λ _=>True) a.length (λ k v h=>h.2) (by
  rintro i v ⟨rfl,hi⟩;by_cases hlt:i<a.length;simp only[ni,show decide ((i:Int)<a.length)=true from by simp;omega,ak,bB hlt,ai];by_cases hb:i<b.length;have⟨r,hr⟩:=aeA a[i] b[i];simp only[show decide ((i:Int)>=b.length)=false from by simp;omega,ay,bB hb,ai,hr];cases hr0:(r !=0)with
  |true=>exact .inr ⟨_,rfl,trivial⟩
  |false=>exact .inl ⟨_,rfl,by rw[aX (by omega)],by omega⟩
  simp only[show decide ((i:Int)>=b.length)=true from by simp;omega,ak];exact .inr ⟨_,rfl,trivial⟩;simp only[ni,show decide ((i:Int)<a.length)=false from by simp;omega,ay];exact .inr ⟨_,rfl,trivial⟩) n 0 0 ⟨rfl,Nat.zero_le _⟩ (by omega)
 simp only[nk,h];cases o with
 |inl u=>cases u;simp only[jO];cases decide ((a.length:Int)<b.length)<;>exact⟨_,rfl⟩
 |inr r=>exact⟨r,by simp⟩
def tD(us:U (List Int))(N j:Nat):Prop:=∃d F,BI us N j F.length d F/\∀k∈us.getD j [],d.getD k.toNat 0<0
theorem agL{n N:Nat}{a0:U iQ}{us:U (List Int)}(hg:xv us N)(hd:a0.length=N)(hn:5000003<=n):∃c,jE n a0 us=some (a0,us,c)/\(c=[]->∀j,j<N->tD us N j)/\c.length<=N+1:=by
 have hN:=hg.2.1
 obtain⟨o,h1,c,rfl,h2⟩:=gB (step:=iP n a0) (λ i (v:Int×List iQ×List (List Int)×List ByteArray)=>∃c,v=((i:Int),a0,us,c)/\i<=N/\c.length<=N+1/\(c=[]->∀j,j<i->tD us N j))
  (λ o=>∃c,o=(a0,us,c)/\(c=[]->∀j,j<N->tD us N j)/\c.length<=N+1) N (λ k v ⟨_,_,h,_⟩=>h) (by
  rintro i v ⟨c,rfl,hi,hcl,hc⟩;by_cases hlt:i<N;left;obtain⟨d,F,c2,hb,hci,UV,hc2⟩:=ama (n:=n) (a1:=a0) hg hd (by omega) hlt;simp only[iP,show decide ((i:Int)<a0.length)=true from by simp;omega,ak,hci,ai,aW i,fG,aO];have hfin:∀c':U ByteArray,c'.length<=N+1->(c'=[]->c=[]/\c2=[])->∃c'',(((i+1:Nat):Int),a0,us,c')=(((i+1:Nat):Int),a0,us,c'')/\i+1<=N/\c''.length<=N+1/\(c''=[]->∀j,j<i+1->tD us N j):=λc' hl' he=>
   ⟨c',rfl,hlt,hl',λe j hj=>by have⟨e1,e2⟩:=he e;by_cases h:j=i;subst h;exact⟨d,F,hb,hc2 e2⟩;exact hc e1 j (by omega)⟩
  obtain⟨r,hr⟩:=aeB (n:=n) (a:=c2) (b:=c) (by omega) (by omega);cases h0:(c2.length==0)with
  |true=>
   have e2:c2=[]:=List.eq_nil_of_length_eq_zero (by simpa using h0);exact⟨_,by simp,hfin c hcl λe=>⟨e,e2⟩⟩
  |false=>
   have hne:c2≠[]:=λe=>(by rw[e]at h0;simp at h0);simp only[ay,ai];have key:∃b,(bif c.length==0 then some true else bif decide ((c2.length:Int)<c.length)then some true else bif(c2.length:Int)==c.length then(nk n c2 c).bind λr2=>some (decide (r2<0))else some false)=some b/\(c.length=0->b=true):=by
    cases h3:(c.length==0)with
    |true=>exact⟨true,rfl,λ_=>rfl⟩
    |false=>
     have hcn:c.length≠0:=(by simpa using h3);simp only[ay,hr,ai];cases decide ((c2.length:Int)<c.length)<;>cases ((c2.length:Int)==c.length)<;>exact⟨_,rfl,λe=>absurd e hcn⟩
   obtain⟨b,hb1,hb2⟩:=key;rw[hb1];cases b with
   |true=>exact⟨_,by simp,hfin c2 UV λe=>absurd e hne⟩
   |false=>exact⟨_,by simp,hfin c hcl λe=>by rw[e]at hb2;exact absurd (hb2 rfl) (by simp)⟩
  right;refine⟨(a0,us,c),?_,c,rfl,λe j hj=>hc e j (by omega),hcl⟩;simp only[iP,show decide ((i:Int)<a0.length)=false from by simp;omega,ay,aO,ak]) n 0 (0,a0,us,[]) ⟨[],rfl,Nat.zero_le _,by simp,λ_ j hj=>absurd hj (Nat.not_lt_zero _)⟩ (by omega)
 exact⟨c,by simp[jE,h1],h2⟩
theorem BI.back{us:U (List Int)}{N to:Nat}{d:U Int}{F:U Nat}(b:BI us N to F.length d F){i y:Nat}(hi:i<N)(hy:y<N)(h:(y:Int)∈us.getD i [])(h0:0<=d.getD y 0):0<=d.getD i 0:=by obtain⟨j,hj,hjy⟩:=mem_iff_getElem.1 ((b.mem y hy).1 h0);exact b.cl j y hj (by rw[dY hj,hjy]) i hi h
theorem apW{us:U (List Int)}{N:Nat}(hg:xv us N)(hf:∀j,j<N->tD us N j)(done:Ψ){i0:Nat}(h0:i0<N)(hd0:¬done i0):∃i,i<N/\¬done i/\∀k∈us.getD i [],done k.toNat:=by
 refine wF λhno=>?_;have hstep:∀i:{i:Nat // i<N/\¬done i},∃k:{k:Nat // k<N/\¬done k},(k.1:Int)∈us.getD i.1 []:=by
  rintro⟨i,hi,hnd⟩;refine wF λh=>hno ⟨i,hi,hnd,λk hk=>wF λhkd=>h ?_⟩;have hl:us.getD i []∈us:=by have:i<us.length:=(by rw[hg.1];exact hi);simp[this]
  have hr:=(hg.2.2 _ hl).2 k hk;exact⟨⟨k.toNat,by omega,hkd⟩,by show(k.toNat:Int)∈_;rw[Int.toNat_of_nonneg hr.1];exact hk⟩
 obtain⟨f,hfs⟩:=Classical.axiomOfChoice hstep
 let g:Nat->{i:Nat // i<N/\¬done i}:=λj=>Nat.rec ⟨i0,h0,hd0⟩ (λ _ x=>f x) j
 have hgs:∀j,((g (j+1)).1:Int)∈us.getD (g j).1 []:=λj=>hfs (g j);have hnd:¬((List.range (N+1)).map λj=>(g j).1).Nodup:=λh=>by
  have:=J2 N _ h λy hy=>by obtain⟨j,_,rfl⟩:=mem_map.1 hy;exact(g j).2.1
  rw[length_map,List.length_range]at this;omega
 obtain⟨a,b,hab,he⟩:∃a b,a<b/\(g a).1=(g b).1:=by refine wF λh=>hnd ?_;rw[List.nodup_iff_pairwise_ne,List.pairwise_map];exact List.pairwise_lt_range.imp λ{x y} hxy e=>h ⟨x,y,hxy,e⟩
 obtain⟨d,F,hb,hneg⟩:=hf _ (g a).2.1;have hall:∀c,a<b-c->c<b-a->0<=d.getD (g (b-c)).1 0:=by
  intro c
  induction c with
  |zero=>intro _ _;rw[Nat.sub_zero,<- he,hb.hd.2];exact Int.le_refl _
  |succ c ih=>
   intro h1 h2;have:=ih (by omega) (by omega);have e:b-c=b-(c+1)+1:=(by omega);rw[e]at this;exact hb.back (g (b-(c+1))).2.1 (g (b-(c+1)+1)).2.1 (hgs (b-(c+1))) this
 have h1:=hall (b-a-1) (by omega) (by omega);have e:b-(b-a-1)=a+1:=by omega
 rw[e]at h1;have h2:=hneg _ (hgs a);simp only[Int.toNat_natCast]at h2;omega
theorem agM{n N:Nat}{l:U Int}{done:U Bool}(hd:done.length=N)(hl:l.length<=4000000)(hr:∀k∈l,0<=k/\k<N)(hn:4000001<=n):
 ∃r,iX n l done=some (r,done)/\(r=false↔∀k∈l,done.getD k.toNat false=true):=by
 obtain⟨o,h1,h2⟩:=gB (step:=kN l) (λ i (v:Int×List Bool)=>v=((i:Int),done)/\i<=l.length/\∀k∈l.take i,done.getD k.toNat false=true)
  (λ o=>(o=.inl done/\∀k∈l,done.getD k.toNat false=true)\/∃i:Nat,o=.inr (i,done)/\∃k∈l,done.getD k.toNat false=false) l.length (λ k v h=>h.2.1) (by
  rintro i v ⟨rfl,hi,hall⟩;by_cases hlt:i<l.length;have hk:=hr l[i] (getElem_mem hlt);obtain⟨k,hk2⟩:=Int.eq_ofNat_of_zero_le hk.1;have hkN:k<done.length:=by omega
  have Jx:done[k]=done.getD k false:=by simp[hkN]
  have htk:l.take (i+1)=l.take i++[l[i]]:=by rw[List.take_add_one,dY hlt];rfl
  simp only[kN,show decide ((i:Int)<l.length)=true from by simp;omega,ak,bB hlt,ai,aO,hk2,nT,bC hkN,bH hkN,Jx];cases hdk:done.getD k false with
  |true=>
   refine .inl ⟨_,by simp;rfl,by rw[aX (by omega)],hlt,λz hz=>?_⟩;rw[htk,bD]at hz;rcases hz with hz|hz;exact hall z hz;simp at hz;rw[hz,hk2];simpa using hdk
  |false=>exact .inr ⟨_,by simp,.inr ⟨i,rfl,l[i],getElem_mem hlt,by rw[hk2];simpa using hdk⟩⟩
  refine .inr ⟨.inl done,?_,.inl ⟨rfl,by rw[take_of_length_le (by omega)]at hall;exact hall⟩⟩;simp only[kN,show decide ((i:Int)<l.length)=false from by simp;omega,ay,aO,ak]) n 0 (0,done) ⟨rfl,Nat.zero_le _,by simp⟩ (by omega)
 rcases h2 with ⟨rfl,h2⟩|⟨i,rfl,k,hk,hkd⟩;exact⟨false,by simp[iX,oo,h1],λ_=>h2,λ_=>rfl⟩;refine⟨true,by simp[iX,oo,h1],λh=>(by cases h),λh=>?_⟩;rw[h k hk]at hkd;cases hkd
def N0(us:U (List Int))(_:Nat)(done:U Bool)(i:Nat)(w:Int):Prop:=
 (w=-1/\∀j,j<i->¬(done.getD j false=false/\∀k∈us.getD j [],done.getD k.toNat false=true))\/∃j:Nat,w=j/\j<i/\done.getD j false=false
theorem aoj{n N:Nat}{a0:qO}{done:U Bool}(hg:xv a0.uses N)(hd:a0.defs.length=N)(hl:done.length=N)(hn:4000002<=n):∃w,iter (jo n a0) n (-1,0,done)=some (w,done)/\N0 a0.uses N done N w:=by
 have hN:=hg.2.1;have Hb:=hg.1;obtain⟨o,h1,w,rfl,h2⟩:=gB (step:=jo n a0) (λ i (v:Int×Int×List Bool)=>∃w,v=(w,(i:Int),done)/\i<=N/\N0 a0.uses N done i w) (λ o=>∃w,o=(w,done)/\N0 a0.uses N done N w) N (λ k v ⟨_,_,h,_⟩=>h) (by
  rintro i v ⟨w,rfl,hi,hw⟩;by_cases hlt:i<N;left;have hiu:i<a0.uses.length:=by omega
  have hid:i<a0.defs.length:=by omega
  have hib:i<done.length:=by omega
  have hl2:=hg.2.2 a0.uses[i] (getElem_mem hiu);obtain⟨r,hr1,hr2⟩:=agM (n:=n) hl hl2.1 hl2.2 (by omega);have hgi:a0.uses.getD i []=a0.uses[i]:=by simp[hiu]
  have hdi:done[i]=done.getD i false:=by simp[hib]
  simp only[jo,show decide ((i:Int)<a0.uses.length)=true from by simp;omega,ak,bB hiu,ai,aO,hr1,bC hib,bH hib,hdi,aW i];have keep:(done.getD i false=true\/r=true)->N0 a0.uses N done (i+1) w:=by intro hno;rcases hw with ⟨rfl,hw⟩|⟨j,rfl,hj,hw⟩;refine .inl ⟨rfl,λj hj h=>?_⟩;by_cases e:j=i;subst e;rw[hgi]at h;rcases hno with h3|h3;rw[h3]at h;exact absurd h.1 (by simp);have:=hr2.2 h.2;rw[h3]at this;cases this;exact hw j (by omega) h;exact .inr ⟨j,rfl,by omega,hw⟩
  cases hdn:done.getD i false with
  |true=>exact⟨_,by simp,w,rfl,hlt,keep (.inl hdn)⟩
  |false=>
   cases r with
   |true=>exact⟨_,by simp,w,rfl,hlt,keep (.inr rfl)⟩
   |false=>
    have ao:N0 a0.uses N done (i+1) i:=.inr ⟨i,rfl,by omega,hdn⟩;rcases hw with ⟨rfl,hw⟩|⟨j,rfl,hj,hw⟩;exact⟨_,by simp,_,rfl,hlt,ao⟩;have hjd:j<a0.defs.length:=(by omega);simp only[Bool.not_false,ak,bB hid,bB hjd,ai];cases X9 a0.defs[i].name a0.defs[j].name with
    |true=>exact⟨_,rfl,_,rfl,hlt,ao⟩
    |false=>exact⟨_,rfl,_,rfl,hlt,.inr ⟨j,rfl,by omega,hw⟩⟩
  right;have hiN:i=N:=by omega
  refine⟨(w,done),?_,w,rfl,hiN ▸ hw⟩;simp only[jo,show decide ((i:Int)<a0.uses.length)=false from by simp;omega,ay,aO,ak]) n 0 (-1,0,done) ⟨_,rfl,Nat.zero_le _,.inl ⟨rfl,λj hj=>absurd hj (Nat.not_lt_zero _)⟩⟩ (by omega)
 exact⟨w,h1,h2⟩
theorem aok{n N:Nat}{a0:qO}(hg:xv a0.uses N)(hd:a0.defs.length=N)(hf:∀j,j<N->tD a0.uses N j)(hn:4000002<=n):∃l,pK n a0=some l/\l.length=N/\∀k∈l,0<=k/\k<N:=by
 have hN:=hg.2.1;have hmx:maxLen=9223372036854775807:=rfl
 obtain⟨o,h1,h2⟩:=gB (step:=lZ n a0) (λ c (v:Int×List Int×List Bool)=>∃aa done,v=((c:Int),aa,done)/\c<=N/\aa.length=c/\(∀ k∈aa,0<=k/\k<N)/\done.length=N/\done.count false=N-c)
  (λ o=>o.length=N/\∀k∈o,0<=k/\k<N) N (λ k v ⟨_,_,_,h,_⟩=>h) (by
  rintro c v ⟨aa,done,rfl,hc,hol,hor,hdl,hcf⟩;by_cases hlt:c<N;left;have⟨w,hw1,hw2⟩:=aoj (n:=n) hg hd hdl hn;have hopen:∃i0,i0<N/\done.getD i0 false=false:=by have hm:false∈done:=List.count_pos_iff.1 (by omega);obtain⟨i0,h0,e⟩:=mem_iff_getElem.1 hm;exact⟨i0,by omega,by simp[h0,e]⟩
  obtain⟨i0,h0,h0d⟩:=hopen;obtain⟨i,hi,hid,hia⟩:=apW hg hf (λ j=>done.getD j false=true) h0 (by rw[h0d];simp);rcases hw2 with ⟨rfl,hw2⟩|⟨j,rfl,hj,hjd⟩;exact absurd ⟨Bool.eq_false_iff.2 hid,hia⟩ (hw2 i hi);have hjl:j<done.length:=by omega
  have hap:bP aa.length aa.length (sub [(j:Int)] 0 1).length 1 8=true:=by simp[bP,sub];omega
  have hset:(done.set j true).length=done.length:=by simp
  refine⟨((c+1:Nat),aa++[(j:Int)],done.set j true),?_,_,_,rfl,hlt,by simp[hol],?_,by simp[hdl],?_⟩;simp only[lZ,show decide ((c:Int)<a0.defs.length)=true from by simp;omega,ak,aO,hw1,ai,bC hjl,bH hjl,hap,eH,aW c,show(((0:Nat):Int)+j).toNat=j by omega,JH hset.symm];simp[sub];intro k hk;rw[bD]at hk;rcases hk with hk|hk;exact hor k hk;simp at hk;subst hk;omega;have hjf:done[j]=false:=by simpa[List.getD,hjl]using hjd
  rw[List.count_set hjl,hcf,hjf];simp;omega;right;have:c=N:=by omega
  refine⟨aa,?_,by omega,hor⟩;simp only[lZ,show decide ((c:Int)<a0.defs.length)=false from by simp;omega,ay,aO,ak]) n 0 (0,[],List.replicate N false) ⟨[],_,rfl,Nat.zero_le _,rfl,by simp,by simp,by simp⟩ (by omega)
 refine⟨o,?_,h2⟩;have hmk:Bn N 1=true:=by simp[Bn];omega
 simp only[pK,hd,Int.le_refl,decide_true,Bool.true_and,hmk,ak,Int.toNat_natCast,h1,ai,fG,aO];simp
def pf(aa:U aN)(s:aN):U aN:=
 match aa.getLast? with
 |some q=>bif decide (s.from_<=q.to)then aa.dropLast++[⟨q.from_,max q.to s.to⟩]else aa++[s]
 |none=>[s]
theorem Ze aa (s:aN):(pf aa s).length<=aa.length+1:=by
 unfold pf;cases aa.getLast? with
 |none=>simp
 |some q=>simp;cases decide (s.from_<=q.to)<;>simp<;>omega
theorem ajj o (q s:aN):pf (o++[q]) s=bif decide (s.from_<=q.to)then o++[⟨q.from_,max q.to s.to⟩]else o++[q]++[s]:=by simp[pf]
abbrev xm(s:aN):Prop:=s.from_<s.to
def ea(l:U aN)(y:Int):Bool:=l.any λs=>decide (s.from_<=y)&&decide (y<s.to)
def Can(l:U aN):Prop:=l.Pairwise (λ a b=>a.to<b.from_)/\∀s∈l,xm s
theorem ow l y:ea l y=true↔∃s∈l,s.from_<=y/\y<s.to:=by simp[ea]
theorem qV(l m:U aN) y:ea (l++m) y=(ea l y || ea m y):=by simp[ea]
theorem xG y:ea [] y=false:=rfl
theorem nC(s:aN) l y:ea (s::l) y=((decide (s.from_<=y)&&decide (y<s.to)) || ea l y):=by simp[ea]
theorem Zf{l m:U aN}(h:l.Perm m) y:ea l y=ea m y:=by rw[dH,ow,ow];exact⟨λ ⟨s,hs,h1⟩=>⟨s,h.mem_iff.1 hs,h1⟩,λ⟨s,hs,h1⟩=>⟨s,h.mem_iff.2 hs,h1⟩⟩
theorem zA:Can []:=⟨List.Pairwise.nil,by simp⟩
theorem aol{aa:U aN}{s:aN}(hc:Can aa)(hs:xm s)(hb:∀o∈aa,o.from_<=s.from_):
 Can (pf aa s)/\(∀ o∈pf aa s,o.from_<=s.from_)/\∀y,ea (pf aa s) y=(ea aa y || ea [s] y):=by rcases List.eq_nil_or_concat aa with rfl|⟨o,q,rfl⟩;refine⟨⟨by simp[pf],by simp[pf];exact hs⟩,by simp[pf],λy=>by simp[pf,ea]⟩;rw[List.concat_eq_append]at*;obtain⟨h1,h2⟩:=hc;rw[pairwise_append]at h1;obtain⟨p1,_,p3⟩:=h1;have hq:xm q:=h2 q (by simp);have hqs:q.from_<=s.from_:=hb q (by simp);rw[ajj];by_cases hj:s.from_<=q.to;simp only[hj,decide_true,ak];refine⟨⟨?_,?_⟩,?_,?_⟩;rw[pairwise_append];refine⟨p1,by simp,λa ha b hb'=>?_⟩;rw[aI]at hb';subst hb';exact p3 a ha q (by simp);intro a ha;rcases bD.1 ha with ha|ha;exact h2 a (by simp[ha]);rw[aI]at ha;subst ha;show q.from_<max q.to s.to;have:q.from_<q.to:=hq;omega;intro a ha;rcases bD.1 ha with ha|ha;exact hb a (by simp[ha]);rw[aI]at ha;subst ha;exact hqs;intro y;rw[qV,qV,Bool.or_assoc];congr 1;simp[nC,xG];rw[dH];simp;have:q.from_<q.to:=hq;have:s.from_<s.to:=hs;omega;simp only[hj,decide_false,ay];refine⟨⟨?_,?_⟩,?_,?_⟩;rw[pairwise_append];refine⟨?_,by simp,λa ha b hb'=>?_⟩;rw[pairwise_append];exact⟨p1,by simp,p3⟩;rw[aI]at hb';subst hb';rcases bD.1 ha with ha|ha;have:=p3 a ha q (by simp);have:q.from_<q.to:=hq;omega;rw[aI]at ha;subst ha;omega;intro a ha;rcases bD.1 ha with ha|ha;exact h2 a ha;rw[aI]at ha;subst ha;exact hs;intro a ha;rcases bD.1 ha with ha|ha;exact hb a ha;rw[aI]at ha;subst ha;exact Int.le_refl _;intro y;rw[qV]
theorem SA:∀(l aa:U aN),Can aa->(∀ s∈l,xm s)->l.Pairwise (λ x y=>x.from_<=y.from_)->(∀ o∈aa,∀s∈l,o.from_<=s.from_)->Can (l.foldl pf aa)/\∀y,ea (l.foldl pf aa) y=(ea aa y || ea l y)
 |[],aa,hc,_,_,_=>⟨hc,λy=>by simp[xG]⟩
 |s::l,aa,hc,hv,hp,hb=>by rw[pairwise_cons]at hp;obtain⟨m1,m2,m3⟩:=aol hc (hv s (by simp)) (λ o ho=>hb o ho s (by simp));obtain⟨f1,f2⟩:=SA l (pf aa s) m1 (λ t ht=>hv t (by simp[ht])) hp.2 (λ o ho t ht=>Int.le_trans (m2 o ho) (hp.1 t ht));refine⟨f1,λy=>?_⟩;rw[foldl_cons,f2,m3,Bool.or_assoc,<- qV];rfl
theorem Zg{a:aN}{l:U aN}(h:Can (a::l)):Can l:=⟨(pairwise_cons.1 h.1).2,λs hs=>h.2 s (by simp[hs])⟩
theorem EJ{a:aN}{l:U aN}(h:Can (a::l)){y:Int}(hy:ea l y=true):a.to<y:=by obtain⟨s,hs,h1,_⟩:=(ow _ _).1 hy;have:=(pairwise_cons.1 h.1).1 s hs;omega
theorem ac3{a:aN}{l:U aN}(h:Can (a::l)){y:Int}(hy:ea (a::l) y=true):a.from_<=y:=by rw[nC,Bool.or_eq_true]at hy;rcases hy with hy|hy;simp at hy;exact hy.1;have:=EJ h hy;have:a.from_<a.to:=h.2 a (by simp);omega
theorem ul:∀{l m:U aN},Can l->Can m->(∀ y,ea l y=ea m y)->l=m
 |[],[],_,_,_=>rfl
 |[],b::m,_,hm,h=>by have:=h b.from_;have hb:b.from_<b.to:=hm.2 b (by simp);rw[xG,nC]at this;simp[hb]at this
 |a::l,[],hl,_,h=>by have:=h a.from_;have ha:a.from_<a.to:=hl.2 a (by simp);rw[xG,nC]at this;simp[ha]at this
 |a::l,b::m,hl,hm,h=>by
  have ha:a.from_<a.to:=hl.2 a (by simp);have hb:b.from_<b.to:=hm.2 b (by simp);have ina:ea (a::l) a.from_=true:=by rw[nC];simp[ha]
  have To:ea (b::m) b.from_=true:=by rw[nC];simp[hb]
  have e1:a.from_=b.from_:=by have h1:=ac3 hm (by rw[<- h];exact ina);have h2:=ac3 hl (by rw[h];exact To);omega
  have nl:∀(c:aN) k,Can (c::k)->ea (c::k) c.to=false:=by
   intro c k hk;cases hc:ea (c::k) c.to with
   |false=>rfl
   |true=>
    rw[nC,Bool.or_eq_true]at hc;rcases hc with hc|hc;simp at hc;have:=EJ hk hc;omega
  have e2:a.to=b.to:=by rcases Int.lt_trichotomy a.to b.to with hlt|he|hlt;have h1:=nl a l hl;rw[h,nC]at h1;simp at h1;omega;exact he;have h1:=nl b m hm;rw[<- h,nC]at h1;simp at h1;omega
  have e:a=b:=by cases a;cases b;simp at e1 e2;rw[e1,e2]
  subst e;rw[ul (Zg hl) (Zg hm) λy=>?_];have hy:=h y;rw[nC,nC]at hy;cases h1:ea l y with
  |true=>
   have:=EJ hl h1;have z:(decide (a.from_<=y)&&decide (y<a.to))=false:=(by rw[Bool.and_eq_false_iff,dQ,dQ];omega);rw[z,h1,Bool.false_or,Bool.false_or]at hy;rw[<- hy]
  |false=>
   cases h2:ea m y with
   |false=>rfl
   |true=>
    have:=EJ hm h2;have z:(decide (a.from_<=y)&&decide (y<a.to))=false:=(by rw[Bool.and_eq_false_iff,dQ,dQ];omega);rw[z,h1,h2]at hy;simp at hy
def zz(l:U aN):U aN:=(jP t8 l).foldl pf []
theorem aom{l:U aN}(h:l.Pairwise λx y=>t8 y x=false):l.Pairwise λx y=>x.from_<=y.from_:=
 h.imp λ{x y} hxy=>by simp at hxy;omega
theorem SB{l:U aN}(h:∀s∈l,xm s):Can (zz l)/\∀y,ea (zz l) y=ea l y:=by have hp:=Ga t8 l;obtain⟨h1,h2⟩:=SA (jP t8 l) [] zA (λ s hs=>h s (hp.mem_iff.1 hs)) (aom (anQ Qm l)) (by simp);exact⟨h1,λy=>by rw[zz,h2,xG,Bool.false_or,Zf hp]⟩
theorem amb{l:U aN}(h:∀s∈l,xm s):(rX t8 l).foldl pf []=zz l:=by have hp:=Nu Qm l;obtain⟨h1,h2⟩:=SA (rX t8 l) [] zA (λ s hs=>h s (hp.mem_iff.1 hs)) (aom (PD Qm l)) (by simp);have⟨h3,h4⟩:=SB h;exact ul h1 h3 λy=>by rw[h2,xG,Bool.false_or,Zf hp,h4]
theorem agN l:(zz l).length<=l.length:=by
 have:∀(ys aa:U aN),(ys.foldl pf aa).length<=aa.length+ys.length:=by
  intro ys
  induction ys with
  |nil=>intro aa;simp
  |cons y ys ih=>
   intro aa;simp;have:=ih (pf aa y);have:=Ze aa y;omega
 have h:=this (jP t8 l) [];rw[dN]at h;simpa[zz]using h
abbrev cT(r:aj):Bool:=decide (0<=r.x0)&&(decide (r.x0<r.x1)&&(decide (r.x1<=1048576)&&(decide (0<=r.y0)&&(decide (r.y0<r.y1)&&decide (r.y1<=1048576)))))
theorem SC(a b:Bool):(bif a then some b else some false)=some (a&&b):=by cases a<;>rfl
theorem j3(r:aj):qC r=some (cT r):=by simp[qC,SC]
def dR(l:U aj)(x:Int):U aN:=(l.filter λr=>decide (r.x0<=x)&&decide (x<r.x1)).map λr=>⟨r.y0,r.y1⟩
def bA(l:U aj)(x:Int):U aN:=zz (dR l x)
theorem Av l x:(dR l x).length<=l.length:=by simp[dR];exact length_filter_le _ _
theorem vL l x:(bA l x).length<=l.length:=
 Nat.le_trans (agN _) (Av l x)
theorem ar2{r:aj}(h:cT r=true):r.x0<r.x1:=by simp at h;omega
theorem aqF{r:aj}(h:cT r=true):r.y0<r.y1:=by simp at h;omega
theorem NI{l:U aj}(h:∀r∈l,cT r=true) x:∀s∈dR l x,xm s:=by intro s hs;simp[dR]at hs;obtain⟨r,⟨hr,_⟩,rfl⟩:=hs;exact aqF (h r hr)
theorem SF{l:U aj}{x:Int}(hl:l.length<1099511627776){n:Nat}(hn:l.length<n):iter (vg l x) n (0,[])=some (dR l x):=by
 have:=dG (l:=l) (step:=vg l x) (λ i s=>(i,s)) (λ r s=>bif decide (r.x0<=x)&&decide (x<r.x1)then s++[⟨r.y0,r.y1⟩]else s) (λ s=>s) (λ i s=>s.length<=i)
  (λ i hi s hs=>?_) (λ s hs=>by simp[vg]) n hn [] (aB _)
 rw[io]at this;rw[this];congr 1;have gen:∀ys s,ys.foldl (λ s r=>bif decide (r.x0<=x)&&decide (x<r.x1)then s++[⟨r.y0,r.y1⟩]else s) s=s++dR ys x:=by
  intro ys
  induction ys with
  |nil=>intro s;simp[dR]
  |cons y ys ih=>
   intro s;simp[ih];cases h:(decide (y.x0<=x)&&decide (x<y.x1))with
   |true|false=>simp[dR,h]
 simpa using gen l [];have hi':decide ((i:Int)<l.length)=true:=by simpa using hi
 have ap:bP s.length s.length (sub ([aN.mk l[i].y0 l[i].y1]:U aN) 0 1).length 1 16=true:=cK (n:=1) (by omega) (by simp[maxLen];omega);simp only[vg,hi',ak,bB hi,ai,SC];cases h:(decide (l[i].x0<=x)&&decide (x<l[i].x1))with
 |true=>
  simp only[ak,ap,eH,aO,ai];refine⟨?_,by simp;omega⟩;rw[aX (by omega)];rfl
 |false=>
  simp only[ay,aO,ak,ai];exact⟨by rw[aX (by omega)],by omega⟩
theorem SG(w1 r2:U aN)(hw:w1.length=r2.length)(hl:r2.length<1099511627776)(hn:r2.length<n):iter (vk w1 r2) n (0,[])=some (r2.foldl pf []):=by
 have:=dG (l:=r2) (step:=vk w1 r2) (λ i s=>(i,s)) (λ r s=>pf s r) (λ s=>s) (λ i s=>s.length<=i)
  (λ i hi s hs=>?_) (λ s hs=>by simp[vk,hw]) n hn [] (aB _)
 rw[io]at this;exact this;refine⟨?_,by have:=Ze s r2[i];omega⟩;have hi':decide ((i:Int)<(w1.length:Nat))=true:=by simp;omega
 have ib:cR i w1.length=true:=bC (by omega);have ap:bP s.length s.length (sub ([r2[i]]:U aN) 0 1).length 1 16=true:=cK (n:=1) (by omega) (by simp[maxLen];omega);simp only[vk,hi',ak,ib,bH hi,ai];rcases List.eq_nil_or_concat s with rfl|⟨s0,q,IP⟩;have d0:decide ((([]:U aN).length:Nat)>0)=false:=by simp
 simp;rw[aX (by omega)];rfl;rw[List.concat_eq_append]at IP;subst IP;have d0:decide (((((s0++[q]).length:Nat):Int))>0)=true:=by simp<;>omega
 have CE:(s0++[q]).length=s0.length+1:=by simp
 have wp:i64.wrap (((s0++[q]).length:Nat)-1)=(s0.length:Nat):=by rw[kY (by simp) (by omega),CE];rfl
 have Tr:cR (s0.length:Nat) (s0++[q]).length=true:=bC (by omega);have g:ci (s0++[q]) ((0:Nat)+(s0.length:Nat))=some q:=by rw[uZ];simp
 have z:(((0:Nat):Int)+(s0.length:Nat)).toNat=s0.length:=by simp
 have st:(s0++[q]).set s0.length (aN.mk q.from_ (max q.to r2[i].to))=s0++[⟨q.from_,max q.to r2[i].to⟩]:=by simp
 have m:pf (s0++[q]) r2[i]=bif decide (r2[i].from_<=q.to)then s0++[⟨q.from_,max q.to r2[i].to⟩]else s0++[q]++[r2[i]]:=by simp[pf]
 simp only[d0,ak,wp,Tr,g,ai,m,z,st];cases decide (r2[i].from_<=q.to)with
 |true=>
  have e:bk (s0++[q]).length (s0++[(⟨q.from_,max q.to r2[i].to⟩:aN)]).length=true:=by simp
  simp only[ak,e,ai,aO];rw[aX (by omega)]
 |false=>
  simp only[ay,ap,ak,eH,aO,ai];rw[aX (by omega)];rfl
theorem aeD{l:U aj}{x:Int}(hv:∀r∈l,cT r=true)(hl:l.length<1099511627776)(hn:l.length<n):Lr n l x=some (bA l x):=by have h1:=Av l x;have h2:(rX t8 (dR l x)).length=(dR l x).length:=y5 Qm _;unfold Lr;simp[SF (x:=x) (l:=l) (by omega) (n:=n) (by omega)];rw[LP (λ a b=>if a.from_<b.from_ then -1 else if b.from_<a.from_ then 1 else 0) (λ a b=>by show zb a b=_;unfold zb;rw[jA];rfl) (λ a b=>by by_cases h1:a.from_<b.from_;simp[h1];by_cases h2:b.from_<a.from_<;>simp[h1,h2]) (by omega) (by omega)];simp;rw[SG _ _ h2.symm (by omega) (by omega)];simp;rw[amb (NI hv x)];rfl
def bg(l:U aj):U Int:=Bs (l.flatMap λr=>[r.x0,r.x1])
def gU{α:Type}(f:Int->Int->α):U Int->U α
 |a::b::l=>f a b::gU f (b::l)
 |_=>[]
def aL(l:U aj):U aV:=gU (λ a b=>⟨a,b,bA l a⟩) (bg l)
theorem pO{α:Type}(f:Int->Int->α):∀l,(gU f l).length=l.length-1/\∀i (h:i+1<l.length) (h':i<(gU f l).length),(gU f l)[i]=f l[i] l[i+1]
 |[]|[a]=>⟨rfl,λi h=>by simp at h⟩
 |a::b::l=>by
  have⟨h1,h2⟩:=pO f (b::l);refine⟨by simp only[gU,eu,h1];simp,λi h h'=>?_⟩;cases i with
  |zero=>rfl
  |succ i=>
   simp;exact h2 i (by simpa using h) _
theorem nD(l:U aj):(l.flatMap λr=>[r.x0,r.x1]).length=2*l.length:=by
 induction l with
 |nil=>rfl
 |cons x l ih=>simp[ih];omega
theorem qf l:(iE l).length<=l.length:=by
 match l with
 |[]|[x]=>simp[iE]
 |x::y::l=>
  have:=qf (y::l);simp[iE];cases x==y<;>simp at* <;>omega
theorem CY l:(bg l).length<=2*l.length:=by have h:=qf (jP (λ a b=>decide (a<b)) (l.flatMap λr=>[r.x0,r.x1]));rw[dN,nD]at h;exact h
theorem SH{l:U aj}(hl:l.length<10995116277)(hn:l.length<n):iter (vo l) n (0,[])=some (l.flatMap λr=>[r.x0,r.x1]):=by
 have:=dG (l:=l) (step:=vo l) (λ i s=>(i,s)) (λ r s=>s++[r.x0,r.x1]) (λ s=>s) (λ i s=>s.length<=2*i)
  (λ i hi s hs=>?_) (λ s hs=>by simp[vo]) n hn [] (aB _)
 rw[io]at this;rw[this];have gen:∀(ys:U aj) s,ys.foldl (λ s r=>s++[r.x0,r.x1]) s=s++ys.flatMap λr=>[r.x0,r.x1]:=by
  intro ys
  induction ys with
  |nil=>intro s;simp
  |cons y ys ih=>intro s;simp[ih]
 congr 1;simpa using gen l [];have hi':decide ((i:Int)<(l.length:Nat))=true:=by simpa using hi
 have ap:bP s.length s.length (sub ([l[i].x0,l[i].x1]:U Int) 0 2).length 2 8=true:=cK (n:=2) (by omega) (by simp[maxLen];omega);simp only[vo,hi',ak,bC hi,bH hi,ai,ap,eH,aO];refine⟨?_,by simp;omega⟩;rw[aX (by omega)];rfl
theorem zB{ls:U (List aj)}(hv:∀r∈ls.flatten,cT r=true)(hl:ls.flatten.length<10995116277)(hls:ls.length<1099511627776)(hn:2*ls.flatten.length<n)(hn2:ls.length<n):qj n ls=some (aL ls.flatten):=by
 unfold qj;rw[Ql (by omega) hls hn2];generalize ls.flatten=l at*;have he:=CY l;simp[SH (l:=l) (n:=n) (by omega) (by omega)];rw[lN (by rw[nD];omega) (by rw[nD];omega)];simp only[ai,dN];rw[ny (by rw[dN,nD];omega) (by rw[dN,nD];omega)];simp only[ai];have hE:iE (jP mT (l.flatMap λr=>[r.x0,r.x1]))=bg l:=rfl;rw[hE];obtain⟨p1,p2⟩:=pO (λ a b=>(⟨a,b,bA l a⟩:aV)) (bg l);have key:iter (vv n l ((),bg l)) n (1,[])=some (aL l):=by
  have:=jg (step:=vv n l ((),bg l)) (λ i=>((i+1:Nat),(aL l).take i)) (aL l).length (aL l) (λ i hi=>?_) ?_ n (by unfold aL;omega);simpa using this;have hi2:i+1<(bg l).length:=by unfold aL at hi;omega
  have d:decide (((i+1:Nat):Int)<((bg l).length:Nat))=true:=by simp;omega
  have wp:i64.wrap ((i+1:Nat)-1)=(i:Nat):=by rw[kY (by omega) (by omega)];rfl
  have ap:bP ((aL l).take i).length ((aL l).take i).length (sub ([aV.mk ((bg l)[i]'(by omega)) (bg l)[i+1] (bA l ((bg l)[i]'(by omega)))]:U aV) 0 1).length 1 40=true:=by refine cK (n:=1) ?_ ?_;rw[length_take];unfold aL;omega;rw[length_take];unfold aL;simp[maxLen];omega
  have tk:(aL l).take (i+1)=(aL l).take i++[⟨(bg l)[i]'(by omega),(bg l)[i+1],bA l ((bg l)[i]'(by omega))⟩]:=by rw[fU hi];congr 2;exact p2 i hi2 hi
  simp only[vv,d,ak,wp,bC (show i<(bg l).length by omega),bH (show i<(bg l).length by omega),ai,bC hi2,bH hi2,fG,aO,aeD (l:=l) (n:=n) hv (by omega) (by omega),ap,eH];rw[aX (by omega),tk];rfl;have d:decide ((((aL l).length+1:Nat):Int)<((bg l).length:Nat))=false:=by unfold aL;simp;omega
  simp only[vv,d,ay,List.take_length,aO,ak]
 rw[key];simp
def aD(x0 x1:Int)(c:U aN):U aj:=c.map λq=>⟨x0,q.from_,x1,q.to⟩
def Aw(x0 x1:Int)(c:U aN):U aV->U aj
 |[]=>aD x0 x1 c
 |s::l=>if s.column=c then Aw x0 s.x1 c l else aD x0 x1 c++Aw s.x0 s.x1 s.column l
def bJ:U aV->U aj
 |[]=>[]
 |s::l=>Aw s.x0 s.x1 s.column l
theorem ac4 x0 c:∀(l:U aV) x1 (k:Nat) (hk:k<=l.length),(∀ j (hj:j<k),(l[j]'(by omega)).column=c)->(∀ h:k<l.length,l[k].column≠c)->
 Aw x0 x1 c l=aD x0 (if h:0<k then(l[k-1]'(by omega)).x1 else x1) c++bJ (l.drop k)
 |l,x1,0,_,_,h2=>by
  cases l with
  |nil=>simp[Aw,bJ]
  |cons s l=>
   have:=h2 (by simp);simp at this;simp[Aw,bJ,this]
 |[],x1,k+1,hk,_,_=>by simp at hk
 |s::l,x1,k+1,hk,h1,h2=>by
  have e0:=h1 0 (by omega);simp at e0;simp[Aw,e0];rw[ac4 x0 c l s.x1 k (by simpa using hk) (λ j hj=>by have:=h1 (j+1) (by omega);simpa using this) (λ h=>by have:=h2 (by simpa using h);simpa using this)];simp;congr 2;by_cases hk0:0<k;simp[hk0];obtain⟨m,rfl⟩:∃m,k=m+1:=⟨k-1,by omega⟩;simp;have:k=0:=by omega
  subst this;simp
theorem MZ l (b:Nat) (h:∀s∈l,s.column.length<=b):(bJ l).length<=l.length*b:=by
 have go:∀l (x0 x1:Int) c,c.length<=b->(∀ s∈l,s.column.length<=b)->(Aw x0 x1 c l).length<=(l.length+1)*b:=by
  intro l
  induction l with
  |nil=>intro x0 x1 c hc _;simp[Aw,aD];omega
  |cons s l ih=>
   intro x0 x1 c hc hl;simp[Aw];split;have:=ih x0 s.x1 c hc (λ t ht=>hl t (bq _ ht));simp[Nat.add_mul]at*;omega;have:=ih s.x0 s.x1 s.column (hl s (by simp)) (λ t ht=>hl t (bq _ ht));simp[aD,Nat.add_mul]at*;omega
 cases l with
 |nil=>simp[bJ]
 |cons s l=>
  simp;exact go l _ _ _ (h s (by simp)) (λ t ht=>h t (bq _ ht))
theorem VJ{l:U aV}{i k:Nat}(hi:i<l.length)(hk1:0<k)(hk:k<=l.length)(hl:l.length<10995116277)(x3:aV) aa (ho:aa.length<1099511627776) (hc:x3.column.length<1099511627776) (hn:x3.column.length<n):
 iter (xV l i k x3) n (0,aa)=some (aa++aD l[i].x0 (l[k-1]'(by omega)).x1 x3.column):=by
 have:=dG (l:=x3.column) (step:=xV l i k x3) (λ j s=>(j,s)) (λ q s=>s++[⟨l[i].x0,q.from_,(l[k-1]'(by omega)).x1,q.to⟩]) (λ s=>s) (λ j s=>s.length<=aa.length+j)
  (λ j hj s hs=>?_) (λ s hs=>by simp[xV]) n hn aa (aB _)
 rw[io]at this;rw[this];have gen:∀ys s,ys.foldl (λ s q=>s++[⟨l[i].x0,q.from_,(l[k-1]'(by omega)).x1,q.to⟩]) s=s++aD l[i].x0 (l[k-1]'(by omega)).x1 ys:=by
  intro ys
  induction ys with
  |nil=>intro s;simp[aD]
  |cons y ys ih=>intro s;simp[ih];simp[aD]
 rw[gen];have hj':decide ((j:Int)<x3.column.length)=true:=by simpa using hj
 have wp:i64.wrap (k-1)=(k-1:Nat):=kY hk1 (by omega);have ap:bP s.length s.length (sub ([aj.mk l[i].x0 (x3.column[j]).from_ (l[k-1]'(by omega)).x1 (x3.column[j]).to]:U aj) 0 1).length 1 32=true:=cK (n:=1) (by omega) (by simp[maxLen];omega);simp only[xV,hj',ak,bB hj,bB hi,wp,bB (show k-1<l.length by omega),ai,ap,eH,aO];refine⟨?_,by simp;omega⟩;rw[aX (by omega)];rfl
theorem U8{l:U aV}{b:Nat}(hb:b<=100000)(hl:l.length<=100000)(hc:∀s∈l,s.column.length<=b)(hn:b<n)(hn2:l.length<n):JS n l=some (bJ l):=by
 unfold JS;simp only[length_nil,aO,ak];have main:∀(m i:Nat)(aa:U aj)(k:Nat),i+m=l.length->m<k->aa.length<=i*b->iter (xW n l) k ((i:Int),aa)=some (aa++bJ (l.drop i)):=by
  intro m
  induction m using Nat.strongRecOn with
  |ind m ih=>
   intro i aa k him hk ho;obtain⟨k,rfl⟩:∃j,k=j+1:=⟨k-1,by omega⟩;by_cases hm:m=0;subst hm;have:i=l.length:=(by omega);subst this;refine iD ?_;simp[xW,bJ];have hi:i<l.length:=(by omega);have di:decide ((i:Int)<(l.length:Int))=true:=(by simpa using hi);obtain⟨q,hq1,hq2,hq3,hq4⟩:∃q,i<q/\q<=l.length/\(∀ j,i<j->j<q->∀h:j<l.length,l[j].column=l[i].column)/\(∀ h:q<l.length,l[q].column≠l[i].column):=(by rcases CV (λ j=>if h:j<l.length then decide (l[j].column≠l[i].column)else false) (i+1) l.length with ⟨q,h1,h2,h3,h4⟩|h;simp[h2]at h3;refine⟨q,by omega,by omega,λj hj1 hj2 hj=>?_,λ_=>h3⟩;have:=h4 j (by omega) hj2;simp[hj]at this;exact this;refine⟨l.length,hi,aB _,λj hj1 hj2 hj=>?_,λh=>by omega⟩;have:=h j (by omega) hj;simp[hj,ne_eq]at this;exact this);have cl:∀j (hj:j<l.length),l[j].column.length<=b:=λj hj=>hc _ (getElem_mem hj);have r2:iter (uz n l (i:Int)) n (i64.wrap ((i:Int)+1))=some (q:Int):=(by rw[aX (by omega)];have:=jg (step:=uz n l (i:Int)) (λ j=>((i+1+j:Nat):Int)) (q-(i+1)) q (λ j hj=>?_) ?_ n (by omega);simpa using this;have hjl:i+1+j<l.length:=(by omega);have dj:decide (((i+1+j:Nat):Int)<l.length)=true:=(by simp;omega);have hcc:=cl (i+1+j) hjl;simp only[uz,dj,ak,bB hjl,bB hi,ai];rw[EI (by omega) (by omega),hq3 (i+1+j) (by omega) (by omega) hjl];simp only[decide_true,ai,ak];rw[aX (by omega)];rfl;rw[show i+1+(q-(i+1))=q by omega];by_cases AG:q<l.length;have dj:decide ((q:Nat)<l.length)=true:=(by simpa using AG);have hcc:=cl q AG;simp[uz,dj,bB AG,bB hi];rw[EI (by omega) (by omega)];simp[hq4 AG];have dj:decide ((q:Int)<l.length)=false:=(by simp;omega);simp only[uz,dj,ay,ai]);have ob:i*b<=100000*100000:=Nat.mul_le_mul (by omega) hb;have hci:=cl i hi;have r3:=VJ (n:=n) hi (show 0<q by omega) hq2 (by omega) l[i] aa (by omega) (by omega) (by omega);have step:xW n l (i,aa)=some (.inl (q,aa++aD l[i].x0 (l[q-1]'(by omega)).x1 l[i].column)):=(by simp only[xW,di,ak,r2,bB hi,ai,aO,r3]);rw[mM step,ih (l.length-q) (by omega) q _ k (by omega) (by omega) (by rw[bW,aD,length_map];have:(i+1)*b<=q*b:=Nat.mul_le_mul_right _ (by omega);rw[Nat.add_mul]at this;omega)];rw[aP];congr 2
   conv=>rhs;rw[drop_eq_getElem_cons hi]
   simp[bJ];rw[ac4 l[i].x0 l[i].column (l.drop (i+1)) l[i].x1 (q-(i+1)) (by rw[length_drop];omega) (λ j hj=>by rw[getElem_drop];exact hq3 _ (by omega) (by omega) (by omega)) (λ h=>by rw[length_drop]at h;rw[getElem_drop];have:=hq4 (by omega);have hqq:i+1+(q-(i+1))=q:=(by omega);simp[hqq];exact this)];rw[List.drop_drop,show i+1+(q-(i+1))=q by omega];congr 2;by_cases h0:0<q-(i+1);simp[h0,getElem_drop];congr 2;omega;simp[h0];have:q-1=i:=(by omega);congr 2
 have:=main l.length 0 [] n (by omega) (by omega) (by simp);simp[List.drop_zero]at this;rw[this];simp
def qu(l:U aj):U aj×Int:=
 if l.all cT then(if l.length>400 then([],6)else if (bJ (aL l)).length>200 then([],6)else(bJ (aL l),0))else([],1)
def br(l:U aj):Bool:=decide ((qu l).2=0)&&decide ((qu l).1=l)
theorem U9{l:U aj}{s:aV}(h:s∈aL l):s.column.length<=l.length:=by obtain⟨i,hi,rfl⟩:=List.getElem_of_mem h;obtain⟨p1,p2⟩:=pO (λ a b=>(⟨a,b,bA l a⟩:aV)) (bg l);have:(aL l)[i]=⟨(bg l)[i]'(by unfold aL at hi;omega),(bg l)[i+1]'(by unfold aL at hi;omega),bA l ((bg l)[i]'(by unfold aL at hi;omega))⟩:=p2 i (by unfold aL at hi;omega) hi;rw[this];exact vL l _
theorem vM l:(aL l).length<=2*l.length:=by obtain⟨p1,_⟩:=pO (λ a b=>(⟨a,b,bA l a⟩:aV)) (bg l);have:=CY l;unfold aL;omega
theorem aon{l:U aj}(hl:l.length<1099511627776)(hl2:l.length<n)(hn:1000<=n):RK n l=some (qu l):=by
 unfold RK;have h1:=qi (l:=l) (step:=P8 l) (λ i=>i) (λ r=>!cT r) () (λ _=>([],1)) (λ i hi=>?_) ?_ n (by omega);rw[io]at h1;rw[h1];have h2:=rC (λ r=>!cT r) l;cases hf:p8 (λ r=>!cT r) l with
 |some i=>
  rw[hf]at h2;have:l.all cT=false:=by rw[<- Bool.not_eq_true,all_eq_true];intro hall;have h3:=h2.symm;simp only[Option.isSome_some,any_eq_true]at h3;obtain⟨x,hx,hx2⟩:=h3;rw[hall x hx]at hx2;cases hx2
  simp[qu,this]
 |none=>
  rw[hf]at h2;have:l.all cT=true:=by
   rw[all_eq_true];intro x hx;cases h:cT x with
   |true=>rfl
   |false=>
    have:l.any (λ r=>!cT r)=true:=any_eq_true.2 ⟨x,hx,by rw[h];rfl⟩;rw[this]at h2;cases h2
  have hv:∀r∈l,cT r=true:=all_eq_true.1 this;by_cases K0:l.length>400;have d4:decide ((l.length:Int)>400)=true:=by simp;omega
  simp[d4,qu,this,aM K0];have d4:decide ((l.length:Int)>400)=false:=by simp;omega
  have ls:=vM l;simp[d4];have fl:[l].flatten=l:=by simp
  rw[show (sub ([l]:U (List aj)) 0 1)=[l]from rfl,zB (ls:=[l]) (by rw[fl];exact hv) (by rw[fl];omega) (by simp) (by rw[fl];omega) (by simp;omega),fl];simp;rw[U8 (b:=400) (by omega) (by omega) (λ s hs=>Nat.le_trans (U9 hs) (by omega)) (by omega) (by omega)];simp[Am,qu,this,aC K0];by_cases lv:(bJ (aL l)).length>200;have:decide (((bJ (aL l)).length:Int)>200)=true:=by simp;omega
  simp[this,lv];have:decide (((bJ (aL l)).length:Int)>200)=false:=by simp;omega
  simp[this,lv]
 have hi':decide ((i:Int)<l.length)=true:=by simpa using hi
 simp only[P8,hi',ak,bB hi,ai,j3];cases cT l[i]with
 |false=>rfl
 |true=>simp only[Bool.not_true,ay];rw[aX (by omega)]
 simp[P8]
theorem iJ{l:U aj}(hl:l.length<1099511627776)(hl2:l.length<n)(hn:1000<=n):ko n l=some (br l):=by
 unfold ko br;rw[aon hl hl2 hn];simp;by_cases h:(qu l).2=0;have e:((qu l).2==0)=true:=by simp[h]
 have lo:(qu l).1.length<=200:=by unfold qu;split;split;simp;split;simp;simp;omega;simp
 by_cases hlen:(qu l).1.length<n;simp only[h,decide_true,Bool.true_and];rw[EH (by omega) hlen];rfl;have:(qu l).1.length≠l.length:=by omega
 have hne:(qu l).1≠l:=λe=>this (by rw[e]);simp[h];unfold nP;have hb:(((qu l).1.length:Int) !=l.length)=true:=by simp;omega
 rw[hb];simp[hne];have e:((qu l).2==0)=false:=by simp[h]
 simp[e,h]
theorem uN{α:Type} c (a b:α):(bif c then some a else some b)=some (bif c then a else b):=by cases c<;>rfl
theorem ac5(i n:Nat):Int.tmod (i:Int) (n:Int)=(i%n:Nat):=by rw[Int.tmod_eq_emod_of_nonneg (by omega)];omega
theorem bV{i n:Nat}(h:i<n):decide ((i:Int)<(n:Nat))=true:=by simpa using h
theorem Qn(n:Nat):decide ((n:Int)<(n:Nat))=false:=by simp
theorem ak4{k b:Nat}(h:k*b<=140737488355328)(h2:k<=maxLen):Bn k b=true:=by
 have e:((k:Int)).toNat=k:=by omega
 simp only[Bn,aY,bF,e];exact⟨⟨by omega,h⟩,h2⟩
def qe(p:U eZ)(i:Nat):eZ:=p.getD i ⟨0,0⟩
def jK(p:U eZ)(i:Nat):kg:=⟨(qe p i).x,(qe p i).y,(qe p ((i+1)%p.length)).x,(qe p ((i+1)%p.length)).y⟩
def gV(p:U eZ):U kg:=(List.range p.length).map (jK p)
theorem Xg{p:U eZ}{i:Nat}(h:i<p.length):qe p i=p[i]:=by simp[qe,h]
theorem eU p:(gV p).length=p.length:=by simp[gV]
theorem Ay{p:U eZ}{i:Nat}(h:i<(gV p).length):(gV p)[i]=jK p i:=by simp[gV]
theorem Zh{α:Type}(A B:U α)(z x:α):(A++z::B).set A.length x=A++x::B:=by rw[set_append_right _ _ (aB _),Nat.sub_self];rfl
theorem Cr{p:U eZ}(hl:p.length<=100000)(hn:p.length<n):qQ n p=some (gV p):=by
 unfold qQ;have mk:Bn (p.length:Nat) 32=true:=ak4 (by omega) (by show p.length<=2 ^ 63-1;omega);have main:=jg (step:=qD p) (λ i=>((i:Nat),(List.range i).map (jK p)++List.replicate (p.length-i) (kg.mk 0 0 0 0))) p.length (gV p) (λ i hi=>?_) ?_ n hn;have z:((p.length:Int)).toNat=p.length:=by omega
 simp only[List.range_zero,map_nil,fO,Nat.sub_zero]at main;have d1:decide ((p.length:Int)<=(p.length:Nat))=true:=by simp
 have d2:decide ((0:Int)<=(p.length:Nat))=true:=by simp
 rw[mk,d1,d2,z];simp;rw[io]at main;rw[main];simp;have e:sub (gV p) 0 p.length=gV p:=by rw[<- eU p];exact fG _
 rw[e,eU];simp;have nz:((p.length:Int) !=0)=true:=by simp;intro h;rw[h]at hi;simp at hi
 have md:(i+1)%p.length<p.length:=Nat.mod_lt _ (by omega);have w:i64.wrap (i+1)=(i+1:Nat):=aX (by omega);have z:((p.length:Int)).toNat=p.length:=by omega
 have rp:List.replicate (p.length-i) (kg.mk 0 0 0 0)=kg.mk 0 0 0 0::List.replicate (p.length-(i+1)) (kg.mk 0 0 0 0):=by rw[show p.length-i=(p.length-(i+1))+1 by omega,List.replicate_succ]
 have la:((List.range i).map (jK p)).length=i:=by simp
 have g:ci ((List.range i).map (jK p)++List.replicate (p.length-i) (kg.mk 0 0 0 0)) ((0:Nat)+(i:Nat))=some (kg.mk 0 0 0 0):=by rw[uZ,jf (by omega),la,rp,Nat.sub_self];rfl
 have z2:(((0:Nat):Int)+(i:Nat)).toNat=i:=by omega
 have st:((List.range i).map (jK p)++List.replicate (p.length-i) (kg.mk 0 0 0 0)).set i (jK p i)=(List.range (i+1)).map (jK p)++List.replicate (p.length-(i+1)) (kg.mk 0 0 0 0):=by rw[rp];have:=Zh ((List.range i).map (jK p)) (List.replicate (p.length-(i+1)) (kg.mk 0 0 0 0)) (kg.mk 0 0 0 0) (jK p i);rw[la]at this;rw[this,List.range_succ,map_append,aP];rfl
 simp only[qD,bV hi,ak,bB hi,ai,nz,w,ac5,bB md,z,bC hi,g,z2];rw[<- Xg hi,<- Xg md];rw[show kg.mk (qe p i).x (qe p i).y (qe p ((i+1)%p.length)).x (qe p ((i+1)%p.length)).y=jK p i from rfl,st];simp[qD];rfl
def Xh(a:eZ):Bool:=decide (0<=a.x)&&(decide (a.x<=1048576)&&(decide (0<=a.y)&&decide (a.y<=1048576)))
def vq(s:kg):Bool:=s.mf==s.mA
def Sp(s t:kg):Bool:=decide (max (min s.mf s.mA) (min t.mf t.mA)<=min (max s.mf s.mA) (max t.mf t.mA))&&decide (max (min s.p4 s.vn) (min t.p4 t.vn)<=min (max s.p4 s.vn) (max t.p4 t.vn))
def Xi(a b:eZ):Bool:=decide (a.x<b.x) || (a.x==b.x&&decide (a.y<b.y))
theorem Qo(a:eZ):vw a=some (Xh a):=by simp[vw,SC,Xh]
theorem EK(s t:kg):mQ s t=some (Sp s t):=by simp[mQ,SC,Sp]
theorem oQ(s:kg):iF s=some (vq s):=rfl
theorem Zi(a b:Int)(hn:3<=n):wP n [a,b]=some (if a=0 then b else a):=by
 obtain⟨m,rfl⟩:∃m,n=m+3:=⟨n-3,by omega⟩;have w1:i64.wrap (0+1)=1:=by decide
 have w2:i64.wrap (1+1)=2:=by decide
 by_cases ha:a=0;by_cases hb:b=0;subst ha;subst hb;simp;rfl;have hb':(b !=0)=true:=by simpa using hb
 subst ha;simp only[wP,Lj,CW,w1];simp[ci,hb'];have ha':(a !=0)=true:=by simpa using ha
 simp[wP,Lj,CW];simp[ci,ha',ha]
theorem NJ(a b:eZ)(hn:3<=n):∃r,tK n a b=some r/\decide (r>=0)=!Xi a b:=by
 unfold tK;rw[jA,jA];simp;rw[show ∀u v:Int,sub [u,v] 0 2=[u,v]from λ_ _=>rfl,Zi _ _ hn];refine⟨_,rfl,?_⟩;unfold Xi;by_cases h1:a.x<b.x;simp[h1];by_cases h2:b.x<a.x;have h3:¬a.x=b.x:=by omega
 simp[h1,h2,h3];have h3:a.x=b.x:=by omega
 by_cases h4:a.y<b.y;simp[h3,h4];by_cases h5:b.y<a.y<;>simp[h3,h4,h5]
def Mm(p:U eZ)(i:Nat):Bool:=
 (!Xh (qe p i) || ((((jK p i).mf==(jK p i).mA)==((jK p i).p4==(jK p i).vn)) || (vq (jK p i)==vq (jK p ((i+1)%p.length))))) || (decide (0<i)&&!Xi (qe p 0) (qe p i))
def VK(p:U eZ)(i k:Nat):Bool:=decide (i+p.length-k>1)&&Sp (jK p i) (jK p k)
def SK(p:U eZ):Bool:=
 decide (4<=p.length)&&(decide (p.length<=60)&&(!((List.range p.length).any (Mm p))&&(!((List.range p.length).any λi=>(List.range p.length).any λk=>decide (i+2<=k)&&VK p i k)&&!vq (jK p 0))))
def aZ(l:U aj)(x y:Int):Bool:=l.any λr=>(decide (r.x0<=x)&&decide (x<r.x1))&&(decide (r.y0<=y)&&decide (y<r.y1))
theorem Cs l (x y:Int):ea (dR l x) y=aZ l x y:=by
 induction l with
 |nil=>rfl
 |cons r l ih=>
  unfold dR aZ at*;rw[List.filter_cons,List.any_cons,<- ih];cases h:(decide (r.x0<=x)&&decide (x<r.x1))with
  |true=>simp;rw[nC]
  |false=>simp
theorem gL{l:U aj}(h:∀r∈l,cT r=true) x:Can (bA l x)/\∀y,ea (bA l x) y=aZ l x y:=by have⟨h1,h2⟩:=SB (NI h x);exact⟨h1,λy=>by rw[bA,h2,Cs]⟩
def qz:U aV->Prop
 |[]=>True
 |[s]=>s.x0<s.x1
 |s::t::l=>s.x0<s.x1/\s.x1=t.x0/\qz (t::l)
def gP:U aV->Int->U aN
 |[],_=>[]
 |s::l,x=>bif decide (s.x0<=x)&&decide (x<s.x1)then s.column else gP l x
theorem jB(s:aV) l x:gP (s::l) x=bif decide (s.x0<=x)&&decide (x<s.x1)then s.column else gP l x:=rfl
def Runs:U aV->Prop
 |[]=>True
 |[s]=>s.x0<s.x1/\s.column≠[]
 |s::t::l=>(s.x0<s.x1/\s.column≠[])/\s.x1<=t.x0/\(s.x1=t.x0->s.column≠t.column)/\Runs (t::l)
theorem iZ{s:aV}{l:U aV}(h:Runs (s::l)):Runs l:=by
 cases l with
 |nil=>trivial
 |cons t l=>exact h.2.2.2
theorem jW{s:aV}{l:U aV}(h:Runs (s::l)):s.x0<s.x1/\s.column≠[]:=by
 cases l with
 |nil=>exact h
 |cons t l=>exact h.1
theorem nE:∀{l:U aV}{b x:Int},Runs l->(∀ s∈l.head?,b<=s.x0)->x<b->gP l x=[]
 |[],_,_,_,_,_=>rfl
 |s::l,b,x,h,hb,hx=>by
  have h0:=hb s rfl;have hs:=jW h;have c:(decide (s.x0<=x)&&decide (x<s.x1))=false:=by rw[Bool.and_eq_false_iff,dQ];left;omega
  rw[jB,c,ay];refine nE (iZ h) (b:=s.x1) (λ t ht=>?_) (by omega);cases l with
  |nil=>cases ht
  |cons u l=>
   have:t=u:=(by simpa using ht.symm);subst this;exact h.2.1
theorem vN{s:aV}{l:U aV}{x:Int}(h1:s.x0<=x)(h2:x<s.x1):gP (s::l) x=s.column:=by rw[jB,show(decide (s.x0<=x)&&decide (x<s.x1))=true by simp[h1,h2]];rfl
theorem yw{s:aV}{l:U aV}{x:Int}(h:s.x1<=x):gP (s::l) x=gP l x:=by rw[jB,show(decide (s.x0<=x)&&decide (x<s.x1))=false by rw[Bool.and_eq_false_iff,dQ,dQ];right;omega];rfl
theorem agO{s:aV}{l:U aV}(h:Runs (s::l)):gP l s.x1≠s.column:=by
 have hs:=jW h;cases l with
 |nil=>exact λe=>hs.2 e.symm
 |cons t l=>
  obtain⟨_,h2,h3,h4⟩:=h;have ht:=jW h4;by_cases e:s.x1=t.x0;rw[vN (by omega) (by omega)];exact λe'=>h3 e e'.symm
  rw[nE h4 (b:=t.x0) (λ u hu=>by have:u=t:=by simpa using hu.symm
                                 subst this;exact Int.le_refl _) (by omega)]
  exact λe'=>hs.2 e'.symm
theorem Va:∀{l m:U aV},Runs l->Runs m->(∀ x,gP l x=gP m x)->l=m
 |[],[],_,_,_=>rfl
 |[],b::m,_,hm,h=>by have hb:=jW hm;have:=h b.x0;rw[vN (Int.le_refl _) hb.1]at this;exact absurd this.symm hb.2
 |a::l,[],hl,_,h=>by have ha:=jW hl;have:=h a.x0;rw[vN (Int.le_refl _) ha.1]at this;exact absurd this ha.2
 |a::l,b::m,hl,hm,h=>by
  have ha:=jW hl;have hb:=jW hm;have e0:a.x0=b.x0:=by
   rcases Int.lt_trichotomy a.x0 b.x0 with hlt|he|hlt;have:=h a.x0
   rw[vN (Int.le_refl _) ha.1,nE hm (b:=b.x0) (λ u hu=>by have:u=b:=by simpa using hu.symm
                                                          subst this;exact Int.le_refl _) hlt]at this
   exact absurd this ha.2;exact he;have:=h b.x0
   rw[vN (Int.le_refl _) hb.1,nE hl (b:=a.x0) (λ u hu=>by have:u=a:=by simpa using hu.symm
                                                          subst this;exact Int.le_refl _) hlt]at this
   exact absurd this.symm hb.2
  have ec:a.column=b.column:=by
   have:=h a.x0
   rwa [vN (Int.le_refl _) ha.1,vN (by omega) (by omega)]at this
  have e1:a.x1=b.x1:=by rcases Int.lt_trichotomy a.x1 b.x1 with hlt|he|hlt;have:=h a.x1;rw[yw (Int.le_refl _),vN (by omega) hlt]at this;exact absurd (this.trans ec.symm) (agO hl);exact he;have:=h b.x1;rw[yw (s:=b) (Int.le_refl _),vN (by omega) hlt]at this;exact absurd (this.symm.trans ec) (agO hm)
  have e:a=b:=by cases a;cases b;simp at e0 e1 ec;rw[e0,e1,ec]
  subst e;rw[Va (iZ hl) (iZ hm) λx=>?_];by_cases hx:x<a.x1;have bl:=nE (iZ hl) (b:=a.x1) (x:=x) (λ t ht=>by
   cases l with
   |nil=>cases ht
   |cons u l=>
    have:t=u:=(by simpa using ht.symm);subst this;exact hl.2.1) hx
  have bm:=nE (iZ hm) (b:=a.x1) (x:=x) (λ t ht=>by
   cases m with
   |nil=>cases ht
   |cons u m=>
    have:t=u:=(by simpa using ht.symm);subst this;exact hm.2.1) hx
  rw[bl,bm];have:=h x
  rwa [yw (by omega),yw (by omega)]at this
def J3(x0 x1:Int)(c:U aN):U aV:=if c=[]then []else [⟨x0,x1,c⟩]
def Hl(x0 x1:Int)(c:U aN):U aV->U aV
 |[]=>J3 x0 x1 c
 |s::l=>if s.column=c then Hl x0 s.x1 c l else J3 x0 x1 c++Hl s.x0 s.x1 s.column l
def EL:U aV->U aV
 |[]=>[]
 |s::l=>Hl s.x0 s.x1 s.column l
def jF(l:U aV):U aj:=l.flatMap λs=>aD s.x0 s.x1 s.column
theorem Vb(x0 x1:Int) c:jF (J3 x0 x1 c)=aD x0 x1 c:=by unfold J3;split;rename_i h;subst h;rfl;simp[jF]
theorem SL:∀l (x0 x1:Int) c,Aw x0 x1 c l=jF (Hl x0 x1 c l)
 |[],x0,x1,c=>(Vb x0 x1 c).symm
 |s::l,x0,x1,c=>by simp[Aw,Hl];split;exact SL l _ _ _;rw[SL l];unfold jF;rw[List.flatMap_append];congr 1;exact(Vb x0 x1 c).symm
theorem yx l:bJ l=jF (EL l):=by
 cases l with
 |nil=>rfl
 |cons s l=>exact SL l _ _ _
theorem NK x0:∀l x1 c,x0<x1->(∀ s∈l.head?,x1=s.x0)->qz l->∀t∈(Hl x0 x1 c l).head?,x0<=t.x0/\(t.x0=x0->t.column=c)
 |[],x1,c,_,_,_,t,ht=>by
  simp[Hl,J3]at ht;split at ht;cases ht;have:t=⟨x0,x1,c⟩:=by simpa using ht.symm
  subst this;exact⟨Int.le_refl _,λ_=>rfl⟩
 |s::l,x1,c,hx,hc,hS,t,ht=>by
  have e:=hc s rfl;have hs:s.x0<s.x1/\(∀ u∈l.head?,s.x1=u.x0)/\qz l:=by
   cases l with
   |nil=>exact⟨hS,λu hu=>(by cases hu),trivial⟩
   |cons v l=>exact⟨hS.1,λu hu=>by have:u=v:=by simpa using hu.symm
                                   subst this;exact hS.2.1,hS.2.2⟩
  simp[Hl]at ht;split at ht;exact NK x0 l s.x1 c (by omega) hs.2.1 hs.2.2 t ht;unfold J3 at ht;split at ht;rw[fO]at ht;have:=NK s.x0 l s.x1 s.column hs.1 hs.2.1 hs.2.2 t ht;exact⟨by omega,λh=>by omega⟩;have:t=⟨x0,x1,c⟩:=by simpa using ht.symm
  subst this;exact⟨Int.le_refl _,λ_=>rfl⟩
theorem amc{s:aV}{l:U aV}(h1:s.x0<s.x1)(h2:s.column≠[])(h3:∀t∈l.head?,s.x1<=t.x0/\(s.x1=t.x0->s.column≠t.column))(h4:Runs l):Runs (s::l):=by
 cases l with
 |nil=>exact⟨h1,h2⟩
 |cons t l=>
  have:=h3 t rfl;exact⟨⟨h1,h2⟩,this.1,this.2,h4⟩
theorem NN:∀l (x0 x1:Int) c,x0<x1->(∀ s∈l.head?,x1=s.x0)->qz l->
 Runs (Hl x0 x1 c l)/\∀x,gP (Hl x0 x1 c l) x=bif decide (x0<=x)&&decide (x<x1)then c else gP l x
 |[],x0,x1,c,hx,_,_=>by simp[Hl,J3];split;rename_i h;subst h;exact⟨trivial,λx=>by simp[gP]⟩;rename_i h;exact⟨⟨hx,h⟩,λx=>rfl⟩
 |s::l,x0,x1,c,hx,hc,hS=>by
  have e:=hc s rfl;have hs:s.x0<s.x1/\(∀ u∈l.head?,s.x1=u.x0)/\qz l:=by
   cases l with
   |nil=>exact⟨hS,λu hu=>(by cases hu),trivial⟩
   |cons v l=>exact⟨hS.1,λu hu=>by have:u=v:=by simpa using hu.symm
                                   subst this;exact hS.2.1,hS.2.2⟩
  simp[Hl];split;rename_i tw;obtain⟨r1,r2⟩:=NN l x0 s.x1 c (by omega) hs.2.1 hs.2.2;refine⟨r1,λx=>?_⟩;rw[r2,jB,tw];by_cases h1:x0<=x<;>by_cases h2:x<x1<;>by_cases h3:s.x0<=x<;>by_cases h4:x<s.x1<;>simp[h1,h2,h3,h4]<;>omega;rename_i tw;have⟨r1,r2⟩:=NN l s.x0 s.x1 s.column hs.1 hs.2.1 hs.2.2;have hd:=NK s.x0 l s.x1 s.column hs.1 hs.2.1 hs.2.2;unfold J3;split
  .rename_i hn;subst hn;rw[fO];refine⟨r1,λx=>?_⟩;rw[r2,jB];by_cases h1:x0<=x<;>by_cases h2:x<x1;have h3:¬s.x0<=x:=(by omega);simp[h1,h2];have:=nE r1 (b:=s.x0) (x:=x) (λ t ht=>(hd t ht).1) (by omega);rw[r2]at this;simpa[h3]using this
   all_goals simp[h1,h2]
  rename_i hn;rw[List.singleton_append];refine⟨amc hx hn (λ t ht=>?_) r1,λx=>?_⟩;have⟨d1,d2⟩:=hd t ht;refine⟨by show x1<=t.x0;omega,λht2 hcc=>?_⟩;have ht2:x1=t.x0:=ht2;rw[d2 (by omega)]at hcc;exact tw hcc.symm;rw[jB,r2,jB]
theorem Az{l:U aV}(h:qz l):Runs (EL l)/\∀x,gP (EL l) x=gP l x:=by
 cases l with
 |nil=>exact⟨trivial,λ_=>rfl⟩
 |cons s l=>
  have hs:s.x0<s.x1/\(∀ u∈l.head?,s.x1=u.x0)/\qz l:=by
   cases l with
   |nil=>exact⟨h,λu hu=>(by cases hu),trivial⟩
   |cons v l=>exact⟨h.1,λu hu=>by have:u=v:=by simpa using hu.symm
                                  subst this;exact h.2.1,h.2.2⟩
  have⟨r1,r2⟩:=NN l s.x0 s.x1 s.column hs.1 hs.2.1 hs.2.2;exact⟨r1,λx=>by rw[jB];exact r2 x⟩
theorem abr{l m:U aV}(hl:qz l)(hm:qz m)(h:∀x,gP l x=gP m x):bJ l=bJ m:=by have⟨l1,l2⟩:=Az hl;have⟨m1,m2⟩:=Az hm;rw[yx,yx,Va l1 m1 λx=>by rw[l2,m2,h]]
theorem Zj(l m:U aj) x:dR (l++m) x=dR l x++dR m x:=by simp[dR]
theorem abt(x0 x1:Int) c x:dR (aD x0 x1 c) x=bif decide (x0<=x)&&decide (x<x1)then c else []:=by
 unfold dR aD
 induction c with
 |nil=>simp
 |cons s c ih=>
  rw[bK,List.filter_cons];cases h:(decide (x0<=x)&&decide (x<x1))with
  |true=>rw[h]at ih;simp[ih]
  |false=>rw[h]at ih;simpa using ih
theorem Qp:∀{l:U aV},Runs l->∀x,dR (jF l) x=gP l x
 |[],_,x=>rfl
 |s::l,h,x=>by
  have ih:=Qp (iZ h) x;have hs:=jW h;show dR (aD s.x0 s.x1 s.column++jF l) x=_;rw[Zj,abt,ih,jB];cases hc:(decide (s.x0<=x)&&decide (x<s.x1))with
  |false=>rfl
  |true=>
   rw[aY,bF,bF]at hc;have:=nE (iZ h) (b:=s.x1) (x:=x) (λ t ht=>by
    cases l with
    |nil=>cases ht
    |cons u l=>
     have:t=u:=(by simpa using ht.symm);subst this;exact h.2.1) hc.2
   rw[this];simp
theorem AA{l:U aV}(h:qz l) x:dR (bJ l) x=gP l x:=by have⟨h1,h2⟩:=Az h;rw[yx,Qp h1,h2]
theorem Gu{l:U aV}(h:qz l)(x y:Int):aZ (bJ l) x y=ea (gP l x) y:=by rw[<- Cs,AA h]
theorem nG{α:Type}(f:Int->Int->α)(a b:Int) l:gU f (a::b::l)=f a b::gU f (b::l):=rfl
theorem zC(g:Int->U aN):∀es,es.Pairwise (· < ·)->qz (gU (λ a b=>(⟨a,b,g a⟩:aV)) es)
 |[],_|[_],_=>trivial
 |[a,b],h=>by have h1:=(pairwise_cons.1 h).1 b (by simp);exact h1
 |a::b::c::l,h=>by have h1:=(pairwise_cons.1 h).1 b (by simp);exact⟨h1,rfl,zC g (b::c::l) (pairwise_cons.1 h).2⟩
theorem J4(g:Int->U aN) x:∀es,(∀ e∈es,x<e)->gP (gU (λ a b=>(⟨a,b,g a⟩:aV)) es) x=[]
 |[],_|[_],_=>rfl
 |a::b::l,h=>by have ha:=h a (by simp);rw[nG,jB,show(decide (a<=x)&&decide (x<b))=false by rw[Bool.and_eq_false_iff,dQ];left;omega,ay];exact J4 g x (b::l) λe he=>h e (bq _ he)
theorem J5(g:Int->U aN) x:∀l a,(a::l).Pairwise (· < ·)->a<=x->
 (∀ e∈a::l,e<=x->(∀ e'∈a::l,e'<=e\/x<e')->g e=g x)->((∀ e∈a::l,e<=x)->g x=[])->gP (gU (λ a b=>(⟨a,b,g a⟩:aV)) (a::l)) x=g x
 |[],a,_,hx,_,h2=>(h2 (λ e he=>by have:e=a:=by simpa using he
                                  subst this;exact hx)).symm
 |b::l,a,hp,hx,h1,h2=>by have hab:=(pairwise_cons.1 hp).1 b (by simp);rw[nG,jB];by_cases hb:x<b;rw[show (decide (a<=x)&&decide (x<b))=true by simp[hx,hb],ak];refine h1 a (by simp) hx λe he=>?_;rcases aG.1 he with rfl|he;exact .inl (Int.le_refl _);right;rcases aG.1 he with rfl|he;exact hb;have:=(pairwise_cons.1 (pairwise_cons.1 hp).2).1 e he;omega;rw[show (decide (a<=x)&&decide (x<b))=false by simp[hb],ay];refine J5 g x l b (pairwise_cons.1 hp).2 (by omega) (λ e he hex hc=>h1 e (bq _ he) hex λe' he'=>?_) λhall=>h2 λe he=>?_;rcases aG.1 he' with rfl|he';left;have:=(pairwise_cons.1 hp).1 e he;omega;exact hc e' he';rcases aG.1 he with rfl|he;exact hx;exact hall e he
theorem J6(g:Int->U aN) es (hp:es.Pairwise (· < ·)) x
 (h1:∀e∈es,e<=x->(∀ e'∈es,e'<=e\/x<e')->g e=g x) (h2:(∀ e∈es,e<=x)->g x=[]) (h3:(∀ e∈es,x<e)->g x=[]):gP (gU (λ a b=>(⟨a,b,g a⟩:aV)) es) x=g x:=by
 cases es with
 |nil=>exact(h3 (by simp)).symm
 |cons a l=>
  by_cases hx:a<=x;exact J5 g x l a hp hx h1 h2;have hall:∀e∈a::l,x<e:=by intro e he;rcases aG.1 he with rfl|he;omega;have:=(pairwise_cons.1 hp).1 e he;omega
  rw[J4 g x _ hall,h3 hall]
theorem AB{l:U aj}{z:Int}:z∈bg l↔∃r∈l,z=r.x0\/z=r.x1:=by rw[bg,Px,mem_flatMap];simp
theorem tq l:(bg l).Pairwise (· < ·):=BZ _
theorem CZ{l:U aj}{es:U Int}(hes:∀r∈l,r.x0∈es/\r.x1∈es){e x:Int}(hex:e<=x)(hc:∀e'∈es,e'<=e\/x<e'):dR l e=dR l x:=by unfold dR;congr 1;refine List.filter_congr λr hr=>?_;have⟨h0,h1⟩:=hes r hr;have:=hc _ h0;have:=hc _ h1;rw[dH,aY,aY,bF,bF,bF,bF];omega
theorem rT{l:U aj}{x:Int}(h:∀r∈l,x<r.x0\/r.x1<=x):dR l x=[]:=by unfold dR;rw[List.map_eq_nil_iff,List.filter_eq_nil_iff];intro r hr;have:=h r hr;rw[aY,bF,bF];omega
theorem lQ l:qz (aL l):=zC _ _ (tq l)
theorem qo l x:gP (aL l) x=bA l x:=by have hes:∀r∈l,r.x0∈bg l/\r.x1∈bg l:=λr hr=>⟨AB.2 ⟨r,hr,.inl rfl⟩,AB.2 ⟨r,hr,.inr rfl⟩⟩;refine J6 (bA l) (bg l) (tq l) x (λ e _ hex hc=>?_) (λ hall=>?_) (λ hall=>?_);unfold bA;rw[CZ hes hex hc];unfold bA;rw[rT λr hr=>.inr (hall _ (hes r hr).2)];rfl;unfold bA;rw[rT λr hr=>.inl (hall _ (hes r hr).1)];rfl
theorem aop{c:U aN}(h:Can c):zz c=c:=by have⟨h1,h2⟩:=SB h.2;exact ul h1 h h2
theorem Vd{l:U aV}{r:aj}:r∈jF l↔∃s∈l,∃q∈s.column,r=⟨s.x0,q.from_,s.x1,q.to⟩:=by simp[jF,aD];constructor;rintro⟨s,hs,q,hq,rfl⟩;exact⟨s,hs,q,hq,rfl⟩;rintro⟨s,hs,q,hq,rfl⟩;exact⟨s,hs,q,hq,rfl⟩
theorem yA:∀{l:U aV},Runs l->∀s∈l,s.x0<s.x1/\∀x,s.x0<=x->x<s.x1->gP l x=s.column
 |[],_,s,hs=>by simp at hs
 |t::l,h,s,hs=>by
  rcases aG.1 hs with rfl|hs;exact⟨(jW h).1,λx h1 h2=>vN h1 h2⟩;have⟨g1,g2⟩:=yA (iZ h) s hs;refine⟨g1,λx h1 h2=>?_⟩;have:t.x1<=x:=by
   by_cases hlt:x<t.x1;have hb:=nE (iZ h) (b:=t.x1) (x:=x) (λ u hu=>by
    cases l with
    |nil=>cases hu
    |cons v l=>
     have:u=v:=(by simpa using hu.symm);subst this;exact h.2.1) hlt
   rw[g2 x h1 h2]at hb;have hne:s.column≠[]:=by
    have:∀{l:U aV},Runs l->∀s∈l,s.column≠[]:=by
     intro l
     induction l with
     |nil=>intro _ s hs;simp at hs
     |cons a l ih=>
      intro h s hs;rcases aG.1 hs with rfl|hs;exact(jW h).2;exact ih (iZ h) s hs
    exact this (iZ h) s hs
   exact absurd hb hne;omega
  rw[yw this,g2 x h1 h2]
theorem Gv{S:U aV}(hS:qz S)(hc:∀x,Can (gP S x))(hb:∀x y,ea (gP S x) y=true->(0<=x/\x<1048576)/\(0<=y/\y<1048576))(hl:(bJ S).length<=200):br (bJ S)=true:=by
 have hok:∀r∈bJ S,cT r=true:=by intro r hr;have⟨r1,r2⟩:=Az hS;rw[yx,Vd]at hr;obtain⟨s,hs,q,hq,rfl⟩:=hr;have⟨g1,g2⟩:=yA r1 s hs;have c0:=g2 s.x0 (Int.le_refl _) g1;have c1:=g2 (s.x1-1) (by omega) (by omega);rw[r2]at c0 c1;have hcan:=hc s.x0;rw[c0]at hcan;have hq1:q.from_<q.to:=hcan.2 q hq;have b0:=hb s.x0 q.from_ (by rw[c0,ow];exact⟨q,hq,Int.le_refl _,hq1⟩);have b1:=hb (s.x1-1) (q.to-1) (by rw[c1,ow];exact⟨q,hq,by omega,by omega⟩);simp;omega
 have he:bJ (aL (bJ S))=bJ S:=by refine abr (lQ _) hS λx=>?_;rw[qo,bA,AA hS,aop (hc x)]
 unfold br qu;rw[aM (all_eq_true.2 hok),aC (by omega),he,aC (by omega)];simp
theorem amd{a:U aj}(h:br a=true):qu a=(a,0):=by unfold br at h;rw[aY,bF,bF]at h;obtain⟨h1,h2⟩:=h;exact Prod.ext h2 h1
theorem dS{a:U aj}(h:br a=true):(∀ r∈a,cT r=true)/\a.length<=200/\bJ (aL a)=a:=by have h:=amd h;unfold qu at h;split at h;rename_i hall;split at h;simp at h;split at h;simp at h;rename_i lv;injection h with h _;refine⟨all_eq_true.1 hall,?_,h⟩;rw[<- h];omega;simp at h
theorem kV{a:U aj}(h:∀r∈a,cT r=true){x y:Int}(hc:aZ a x y=true):(0<=x/\x<1048576)/\(0<=y/\y<1048576):=by simp[aZ]at hc;obtain⟨q,hq,h1,h2⟩:=hc;have:=h q hq;simp at this;omega
def ext(aa:U aN)(p:aN):U aN:=
 match aa.getLast? with
 |some q=>bif q.to==p.from_ then aa.dropLast++[⟨q.from_,p.to⟩]else aa++[p]
 |none=>[p]
def i7(a b:U aN):U Int:=Bs ((a++b).flatMap λs=>[s.from_,s.to])
def oU(keep:Bool->Bool->Bool)(a b:U aN):U aN:=
 ((gU aN.mk (i7 a b)).filter λp=>keep (ea a p.from_) (ea b p.from_)).foldl ext []
theorem NP o (q p:aN):ext (o++[q]) p=bif q.to==p.from_ then o++[⟨q.from_,p.to⟩]else o++[q]++[p]:=by simp[ext]
theorem aoq{aa:U aN}{p:aN}(hc:Can aa)(hp:xm p)(hb:∀o∈aa,o.to<=p.from_):
 Can (ext aa p)/\(∀ o∈ext aa p,o.to<=p.to)/\∀y,ea (ext aa p) y=(ea aa y || ea [p] y):=by
 have hp':p.from_<p.to:=hp;rcases List.eq_nil_or_concat aa with rfl|⟨o,q,rfl⟩;refine⟨⟨by simp[ext],by simp[ext];exact hp⟩,by simp[ext],λy=>by simp[ext,ea]⟩;rw[List.concat_eq_append]at*;obtain⟨h1,h2⟩:=hc;rw[pairwise_append]at h1;obtain⟨p1,_,p3⟩:=h1;have hq:q.from_<q.to:=h2 q (by simp);have hqp:q.to<=p.from_:=hb q (by simp);rw[NP];cases hj:q.to==p.from_ with
 |true=>
  have hj:=eq_of_beq hj;simp only[ak];refine⟨⟨?_,?_⟩,?_,?_⟩;rw[pairwise_append];refine⟨p1,by simp,λa ha b hb'=>?_⟩;rw[aI]at hb';subst hb';exact p3 a ha q (by simp);intro a ha;rcases bD.1 ha with ha|ha;exact h2 a (by simp[ha]);rw[aI]at ha;subst ha;show q.from_<p.to;omega;intro a ha;rcases bD.1 ha with ha|ha;have:=hb a (by simp[ha]);omega;rw[aI]at ha;subst ha;exact Int.le_refl _;intro y;rw[qV,qV,Bool.or_assoc];congr 1;simp[nC,xG];rw[dH];simp;omega
 |false=>
  rw[beq_eq_false_iff_ne]at hj;simp only[ay];refine⟨⟨?_,?_⟩,?_,?_⟩;rw[pairwise_append];refine⟨?_,by simp,λa ha b hb'=>?_⟩;rw[pairwise_append];exact⟨p1,by simp,p3⟩;rw[aI]at hb';subst hb';rcases bD.1 ha with ha|ha;have:=p3 a ha q (by simp);omega;rw[aI]at ha;subst ha;omega;intro a ha;rcases bD.1 ha with ha|ha;exact h2 a ha;rw[aI]at ha;subst ha;exact hp;intro a ha;rcases bD.1 ha with ha|ha;have:=hb a ha;omega;rw[aI]at ha;subst ha;exact Int.le_refl _;intro y;rw[qV]
theorem SQ:∀(l aa:U aN),Can aa->(∀ s∈l,xm s)->l.Pairwise (λ x y=>x.to<=y.from_)->(∀ o∈aa,∀s∈l,o.to<=s.from_)->Can (l.foldl ext aa)/\∀y,ea (l.foldl ext aa) y=(ea aa y || ea l y)
 |[],aa,hc,_,_,_=>⟨hc,λy=>by simp[xG]⟩
 |s::l,aa,hc,hv,hp,hb=>by rw[pairwise_cons]at hp;obtain⟨m1,m2,m3⟩:=aoq hc (hv s (by simp)) (λ o ho=>hb o ho s (by simp));obtain⟨f1,f2⟩:=SQ l (ext aa s) m1 (λ t ht=>hv t (by simp[ht])) hp.2 (λ o ho t ht=>Int.le_trans (m2 o ho) (hp.1 t ht));refine⟨f1,λy=>?_⟩;rw[foldl_cons,f2,m3,Bool.or_assoc,<- qV];rfl
theorem agP:∀es,es.Pairwise (· < ·)->(∀ p∈gU aN.mk es,xm p/\p.from_∈es/\p.to∈es/\∀e∈es,e<=p.from_\/p.to<=e)/\(gU aN.mk es).Pairwise λx y=>x.to<=y.from_
 |[],_|[_],_=>⟨by simp[gU],by simp[gU]⟩
 |a::b::l,h=>by obtain⟨h1,h2⟩:=pairwise_cons.1 h;have⟨i1,i2⟩:=agP (b::l) h2;have hab:=h1 b (by simp);rw[nG];refine⟨λ p hp=>?_,?_⟩;rcases aG.1 hp with rfl|hp;refine⟨hab,by simp,by simp,λe he=>?_⟩;rcases aG.1 he with rfl|he;exact .inl (Int.le_refl _);right;rcases aG.1 he with rfl|he;exact Int.le_refl _;have:=(pairwise_cons.1 h2).1 e he;show b<=e;omega;have⟨g1,g2,g3,g4⟩:=i1 p hp;refine⟨g1,bq _ g2,bq _ g3,λe he=>?_⟩;rcases aG.1 he with rfl|he;left;have:=h1 _ g2;omega;exact g4 e he;rw[pairwise_cons];refine⟨λ p hp=>?_,i2⟩;have⟨_,g2,_,_⟩:=i1 p hp;show b<=p.from_;rcases aG.1 g2 with e|g2;omega;have:=(pairwise_cons.1 h2).1 _ g2;omega
theorem Ve:∀es y,(∃ e∈es,e<=y)->(∃ e∈es,y<e)->es.Pairwise (· < ·)->∃p∈gU aN.mk es,p.from_<=y/\y<p.to
 |[],y,⟨e,he,_⟩,_,_=>by simp at he
 |[a],y,⟨e,he,h1⟩,⟨e',he',h2⟩,_=>by
  have:e=a:=by simpa using he
  have:e'=a:=by simpa using he'
  omega
 |a::b::l,y,h1,h2,hp=>by obtain⟨g1,g2⟩:=pairwise_cons.1 hp;rw[nG];by_cases hb:y<b;refine⟨⟨a,b⟩,by simp,?_,hb⟩;obtain⟨e,he,hey⟩:=h1;show a<=y;rcases aG.1 he with rfl|he;exact hey;have:=g1 e he;omega;obtain⟨e',he',h2'⟩:=h2;obtain⟨p,hp,q⟩:=Ve (b::l) y ⟨b,by simp,by omega⟩ ⟨e',(by rcases aG.1 he' with rfl|he';have:=g1 b (by simp);omega;exact he'),h2'⟩ g2;exact⟨p,bq _ hp,q⟩
theorem ac6{c:U aN}{es:U Int}(hes:∀s∈c,s.from_∈es/\s.to∈es){e y:Int}(hey:e<=y)(hc:∀e'∈es,e'<=e\/y<e'):ea c e=ea c y:=by rw[dH,ow,ow];constructor;rintro⟨s,hs,h1,h2⟩;have:=hc _ (hes s hs).1;have:=hc _ (hes s hs).2;exact⟨s,hs,by omega,by omega⟩;rintro⟨s,hs,h1,h2⟩;have:=hc _ (hes s hs).1;have:=hc _ (hes s hs).2;exact⟨s,hs,by omega,by omega⟩
theorem Vf{keep:Bool->Bool->Bool}(hk:keep false false=false)(a b:U aN):Can (oU keep a b)/\∀y,ea (oU keep a b) y=keep (ea a y) (ea b y):=by
 have hstr:(i7 a b).Pairwise (· < ·):=BZ _;have hmem:∀z,z∈i7 a b↔∃s,(s∈a\/s∈b)/\(z=s.from_\/z=s.to):=by intro z;rw[i7,Px,mem_flatMap];simp
 have ha:∀s∈a,s.from_∈i7 a b/\s.to∈i7 a b:=λs hs=>⟨(hmem _).2 ⟨s,.inl hs,.inl rfl⟩,(hmem _).2 ⟨s,.inl hs,.inr rfl⟩⟩;have hb:∀s∈b,s.from_∈i7 a b/\s.to∈i7 a b:=λs hs=>⟨(hmem _).2 ⟨s,.inr hs,.inl rfl⟩,(hmem _).2 ⟨s,.inr hs,.inr rfl⟩⟩;have⟨p1,p2⟩:=agP (i7 a b) hstr;obtain⟨f1,f2⟩:=SQ ((gU aN.mk (i7 a b)).filter λp=>keep (ea a p.from_) (ea b p.from_)) [] zA (λ s hs=>(p1 s (mem_filter.1 hs).1).1) (p2.filter _) (by simp);refine⟨f1,λy=>?_⟩;rw[oU,f2,xG,Bool.false_or];by_cases hin:(∃ e∈i7 a b,e<=y)/\(∃ e∈i7 a b,y<e);obtain⟨p,hp,h1,h2⟩:=Ve _ y hin.1 hin.2 hstr;have⟨_,_,_,q4⟩:=p1 p hp;have hc:∀e'∈i7 a b,e'<=p.from_\/y<e':=λe' he'=>by rcases q4 e' he' with h|h<;>omega
 rw[<- ac6 ha h1 hc,<- ac6 hb h1 hc,dH,ow];constructor;rintro⟨s,hs,g1,g2⟩;rw[mem_filter]at hs;have⟨_,r2,r3,r4⟩:=p1 s hs.1;have:s.from_=p.from_:=by have e1:=q4 _ r2;have e2:=r4 _ (p1 p hp).2.1;omega
 rw[<- this];exact hs.2;intro hkk;exact⟨p,mem_filter.2 ⟨hp,hkk⟩,h1,h2⟩;have aa:∀c:U aN,(∀ s∈c,s.from_∈i7 a b/\s.to∈i7 a b)->ea c y=false:=by
  intro c hc;cases hy:ea c y with
  |false=>rfl
  |true=>
   obtain⟨s,hs,g1,g2⟩:=(ow _ _).1 hy;exact absurd ⟨⟨_,(hc s hs).1,g1⟩,_,(hc s hs).2,g2⟩ hin
 rw[aa a ha,aa b hb,hk];refine aa _ λs hs=>?_;obtain⟨_,r2,r3,_⟩:=p1 s (mem_filter.1 hs).1;exact⟨r2,r3⟩
def qH(keep:Bool->Bool->Bool)(a b:U aj):U aV:=
 gU (λ x x'=>(⟨x,x',oU keep (bA a x) (bA b x)⟩:aV)) (bg (a++b))
def jq(keep:Bool->Bool->Bool)(a b:U aj):U aj×Int:=
 if br a&&br b then(if (bJ (qH keep a b)).length>200 then([],6)else(bJ (qH keep a b),0))else([],1)
theorem ac7{keep:Bool->Bool->Bool}(_:keep false false=false)(a b:U aj) x:gP (qH keep a b) x=oU keep (bA a x) (bA b x):=by have hes:∀r∈a++b,r.x0∈bg (a++b)/\r.x1∈bg (a++b):=λr hr=>⟨AB.2 ⟨r,hr,.inl rfl⟩,AB.2 ⟨r,hr,.inr rfl⟩⟩;have ha:∀r∈a,r.x0∈bg (a++b)/\r.x1∈bg (a++b):=λr hr=>hes r (List.mem_append_left _ hr);have hb:∀r∈b,r.x0∈bg (a++b)/\r.x1∈bg (a++b):=λr hr=>hes r (List.mem_append_right _ hr);have hnil:oU keep [] []=[]:=rfl;have e0:zz []=[]:=rfl;refine J6 (λ x=>oU keep (bA a x) (bA b x)) (bg (a++b)) (tq _) x (λ e _ hex hc=>?_) (λ hall=>?_) (λ hall=>?_);unfold bA;rw[CZ ha hex hc,CZ hb hex hc];unfold bA;rw[rT λr hr=>.inr (hall _ (ha r hr).2),rT λr hr=>.inr (hall _ (hb r hr).2),e0,hnil];unfold bA;rw[rT λr hr=>.inl (hall _ (ha r hr).1),rT λr hr=>.inl (hall _ (hb r hr).1),e0,hnil]
theorem M0{keep:Bool->Bool->Bool}(hk:keep false false=false){a b r:U aj}(h:jq keep a b=(r,0)):br a=true/\br b=true/\br r=true/\∀x y,aZ r x y=keep (aZ a x y) (aZ b x y):=by
 unfold jq at h;split at h;rename_i hab;rw[aY]at hab;split at h;simp at h;rename_i lv;injection h with h _;subst h;have⟨a1,_,_⟩:=dS hab.1;have⟨b1,_,_⟩:=dS hab.2;have hS:qz (qH keep a b):=zC _ _ (tq _);have hcell:∀x y,ea (gP (qH keep a b) x) y=keep (aZ a x y) (aZ b x y):=by intro x y;rw[ac7 hk,(Vf hk _ _).2,(gL a1 x).2,(gL b1 x).2]
 refine⟨hab.1,hab.2,Gv hS (λ x=>by rw[ac7 hk];exact(Vf hk _ _).1) (λ x y hy=>?_) (by omega),λx y=>by rw[Gu hS,hcell]⟩;rw[hcell]at hy;cases ca:aZ a x y with
 |true=>exact kV a1 ca
 |false=>
  cases cb:aZ b x y with
  |true=>exact kV b1 cb
  |false=>rw[ca,cb,hk]at hy;cases hy
 simp at h
def Zk{α:Type}(a0:U α)(a1:Int)(a2:(α×Int×Unit)->J Int):(Int×Int)->J ((Int×Int)⊕Int)
 |(v1,v2)=>(bif (decide (v1<v2))then(ck (decide (0<=1)&&decide (1<=IntKind.u64.bits)) ((ci a0 (i64.wrap ((IntKind.u64.wrap (i64.wrap (v1+v2)))/2 ^ (1:Int).toNat))).bind λx1=>(a2 (x1,a1,())).bind λr1=>(bif (decide (r1<0))then some (.inl (i64.wrap ((i64.wrap ((IntKind.u64.wrap (i64.wrap (v1+v2)))/2 ^ (1:Int).toNat))+1),v2))else some (.inl (v1,i64.wrap ((IntKind.u64.wrap (i64.wrap (v1+v2)))/2 ^ (1:Int).toNat))))))else some (.inr v1))
theorem agQ{α:Type}{l:U α}{key:Int}{Z:(α×Int×Unit)->J Int}(p:α->Bool)(f:α->Int)(hφ:∀x,Z (x,key,())=some (f x))(hf:∀x,decide (f x<0)=p x)
 (hm:∀i j (hj:j<l.length) (hij:i<j),p l[j]=true->p (l[i]'(by omega))=true) (hl:l.length<1099511627776):
 ∀(m i j n:Nat),j-i<=m->i<=j->j<=l.length->(∀ k (_:k<i) (hkl:k<l.length),p l[k]=true)->(∀ k (_:j<=k) (hkl:k<l.length),p l[k]=false)->m<n->
 ∃w:Nat,w<=l.length/\iter (Zk l key Z) n (i,j)=some (w:Int)/\(∀ k (_:k<w) (hkl:k<l.length),p l[k]=true)/\∀k (_:w<=k) (hkl:k<l.length),p l[k]=false:=by
 intro m
 induction m with
 |zero=>
  intro i j n hm0 hij hjl h1 h2 hn;obtain⟨n,rfl⟩:∃q,n=q+1:=⟨n-1,by omega⟩;have:i=j:=by omega
  subst this;exact⟨i,hjl,iD (by simp[Zk]),h1,h2⟩
 |succ m ih=>
  intro i j n hm0 hij hjl h1 h2 hn;obtain⟨n,rfl⟩:∃q,n=q+1:=⟨n-1,by omega⟩;by_cases hlt:i<j;have c:decide ((i:Int)<(j:Nat))=true:=by simpa using hlt
  have c1:(decide (0<=1)&&decide (1<=IntKind.u64.bits))=true:=rfl;have e:i64.wrap ((IntKind.u64.wrap (i64.wrap ((i:Nat)+(j:Nat))))/2 ^ (1:Int).toNat)=((i+j)/2:Nat):=by
   rw[asz (by omega),al1 (by omega),show((((i+j:Nat):Int))/2 ^ (1:Int).toNat)=((i+j)/2:Nat)by
    rw[show (1:Int).toNat=1 from rfl,Int.pow_one];omega,Pw (by omega)]
  have hh:(i+j)/2<l.length:=by omega
  cases hp:p l[(i+j)/2]with
  |true=>
   have s:Zk l key Z (i,j)=some (.inl (((i+j)/2+1:Nat),j)):=(by simp only[Zk,c,ak,c1,e,bB hh,ai,hφ,hf,hp];rw[aX (by omega)]);rw[mM s];refine ih _ _ n (by omega) (by omega) hjl (λ k hk hkl=>?_) h2 (by omega);by_cases hk2:k<(i+j)/2;exact hm k _ hh hk2 hp;have:k=(i+j)/2:=(by omega);subst this;exact hp
  |false=>
   have s:Zk l key Z (i,j)=some (.inl (i,((i+j)/2:Nat))):=(by simp only[Zk,c,ak,c1,e,bB hh,ai,hφ,hf,hp,ay]);rw[mM s];refine ih _ _ n (by omega) (by omega) (by omega) h1 (λ k hk hkl=>?_) (by omega);by_cases hk2:(i+j)/2<k;cases hpk:p l[k]with
   |false=>rfl
   |true=>have:=hm _ k hkl hk2 hpk;rw[hp]at this;cases this
   have:k=(i+j)/2:=(by omega);subst this;exact hp
  have:i=j:=by omega
  subst this;exact⟨i,hjl,iD (by simp[Zk]),h1,h2⟩
theorem aor l key (Z:(aV×Int×Unit)->J Int):mZ l key Z=Zk l key Z:=by funext ⟨a,b⟩;rfl
theorem apX l key (Z:(aN×Int×Unit)->J Int):nY l key Z=Zk l key Z:=by funext ⟨a,b⟩;rfl
theorem Zl:∀{l:U aV},qz l->l.Pairwise (λ s t=>s.x1<=t.x0)/\∀s∈l,s.x0<s.x1
 |[],_=>⟨List.Pairwise.nil,by simp⟩
 |[s],h=>⟨by simp,λt ht=>by have:t=s:=by simpa using ht
                            subst this;exact h⟩
 |s::t::l,h=>by obtain⟨h1,h2,h3⟩:=h;have⟨p1,p2⟩:=Zl h3;refine⟨?_,?_⟩;rw[pairwise_cons];refine⟨λ u hu=>?_,p1⟩;rcases aG.1 hu with rfl|hu;omega;have:=(pairwise_cons.1 p1).1 u hu;have:=p2 t (by simp);omega;intro u hu;rcases aG.1 hu with rfl|hu;exact h1;exact p2 u hu
theorem NQ{x:Int}:∀{l:U aV},(∀ s∈l,¬(s.x0<=x/\x<s.x1))->gP l x=[]
 |[],_=>rfl
 |s::l,h=>by have:=h s (by simp);rw[jB,show(decide (s.x0<=x)&&decide (x<s.x1))=false by rw[Bool.and_eq_false_iff,dQ,dQ];omega,ay];exact NQ λt ht=>h t (by simp[ht])
theorem ac8{x:Int}:∀{l:U aV}{w:Nat}(hw:w<l.length),(∀ k (hk:k<w),¬((l[k]'(by omega)).x0<=x/\x<(l[k]'(by omega)).x1))->l[w].x0<=x->x<l[w].x1->gP l x=l[w].column
 |[],w,hw,_,_,_=>by simp at hw
 |s::l,0,hw,_,h0,h1=>vN h0 h1
 |s::l,w+1,hw,hk,h0,h1=>by have hs:=hk 0 (by omega);simp at hs;rw[jB,show(decide (s.x0<=x)&&decide (x<s.x1))=false by rw[Bool.and_eq_false_iff,dQ,dQ];omega,ay];exact ac8 (by simpa using hw) (λ k hk'=>by have:=hk (k+1) (by omega);simpa using this) h0 h1
theorem agR{l:U aV}{x:Int}(h:qz l)(hl:l.length<1099511627776)(hn:l.length<n):Zd n l x=some (gP l x):=by
 have⟨a1,a2⟩:=Zl h;rw[List.pairwise_iff_getElem]at a1
 have run:=agQ (l:=l) (key:=x) (Z:=λ(y1:aV×Int×Unit)=>yg y1.1 y1.2.1) (λ s=>decide (s.x1<=x)) (λ s=>if s.x1<=x then -1 else 1)
  (λ s=>by show yg s x=_;unfold yg;by_cases c:s.x1<=x<;>simp[c]) (λ s=>by by_cases c:s.x1<=x<;>simp[c])
  (λ i j hj hij hp=>by rw[bF]at hp |-;have:=a1 i j (by omega) hj hij;have:=a2 l[j] (getElem_mem _);omega) hl l.length 0 l.length n (by omega) (by omega) (aB _) (λ k hk=>by omega) (λ k hk hkl=>by omega) hn
 obtain⟨w,hw,e,h1,h2⟩:=run;unfold Zd jH;rw[aor];have e':iter (Zk l x λ(y1:aV×Int×Unit)=>yg y1.1 y1.2.1) n (0,(l.length:Nat))=some (w:Int):=e;rw[e'];simp only[ai];have aE:∀b:Int,∃bb,((bif (decide (w<(l.length:Int)))then(ci l w).bind λx2=>(yg x2 x).bind λr2=>some (w,r2==b)else some (w,false)):J (Int×Bool))=some ((w:Int),bb):=by
  intro b;by_cases c:w<l.length;have d:decide ((w:Int)<l.length)=true:=by simpa using c
  rw[d];simp only[ak];rw[bB c,ai];unfold yg;cases decide (l[w].x1<=x)<;>exact⟨_,rfl⟩;have d:decide ((w:Int)<l.length)=false:=by simp;omega
  rw[d];exact⟨_,rfl⟩
 have⟨bb,hbb⟩:=aE 0;rw[hbb,ai];simp only[];by_cases c:w<l.length;have d:decide ((w:Int)<l.length)=true:=by simpa using c
 simp only[d,ak,bB c,ai];have hx1:=h2 w (aB _) c;rw[dQ]at hx1;by_cases c2:l[w].x0<=x;simp[c2];rw[ac8 c (λ k hk hh=>?_) c2 (by omega)];have:=h1 k hk (by omega);rw[bF]at this;omega;simp[c2];rw[NQ λs hs hh=>?_];obtain⟨k,hk,rfl⟩:=mem_iff_getElem.1 hs;rcases Nat.lt_trichotomy k w with C6|rfl|C6;have:=h1 k C6 hk;rw[bF]at this;omega;omega;have:=a1 w k c hk C6;have:=a2 l[w] (getElem_mem _);omega;have d:decide ((w:Int)<l.length)=false:=by simp;omega
 simp only[d,ay,ai];rw[NQ λs hs hh=>?_];obtain⟨k,hk,rfl⟩:=mem_iff_getElem.1 hs;have:=h1 k (by omega) hk;rw[bF]at this;omega
theorem Qq{l:U aN}{y:Int}(h:Can l)(hl:l.length<1099511627776)(hn:l.length<n):EF n l y=some (ea l y):=by
 obtain⟨a1,a2⟩:=h;rw[List.pairwise_iff_getElem]at a1
 have run:=agQ (l:=l) (key:=y) (Z:=λ(y1:aN×Int×Unit)=>ng y1.1 y1.2.1) (λ s=>decide (s.to<=y)) (λ s=>if s.to<=y then -1 else 1)
  (λ s=>by show ng s y=_;unfold ng;by_cases c:s.to<=y<;>simp[c]) (λ s=>by by_cases c:s.to<=y<;>simp[c])
  (λ i j hj hij hp=>by rw[bF]at hp |-;have:=a1 i j (by omega) hj hij;have:l[j].from_<l[j].to:=a2 l[j] (getElem_mem _);omega) hl l.length 0 l.length n (by omega) (by omega) (aB _) (λ k hk=>by omega) (λ k hk hkl=>by omega) hn
 obtain⟨w,hw,e,h1,h2⟩:=run;unfold EF jY;rw[apX];have e':iter (Zk l y λ(y1:aN×Int×Unit)=>ng y1.1 y1.2.1) n (0,(l.length:Nat))=some (w:Int):=e;rw[e'];simp only[ai];have aE:∀b:Int,∃bb,((bif (decide (w<(l.length:Int)))then(ci l w).bind λx2=>(ng x2 y).bind λr2=>some (w,r2==b)else some (w,false)):J (Int×Bool))=some ((w:Int),bb):=by
  intro b;by_cases c:w<l.length;have d:decide ((w:Int)<l.length)=true:=by simpa using c
  rw[d];simp only[ak];rw[bB c,ai];unfold ng;cases decide (l[w].to<=y)<;>exact⟨_,rfl⟩;have d:decide ((w:Int)<l.length)=false:=by simp;omega
  rw[d];exact⟨_,rfl⟩
 have⟨bb,hbb⟩:=aE 0;rw[hbb,ai];simp only[];by_cases c:w<l.length;have d:decide ((w:Int)<l.length)=true:=by simpa using c
 simp only[d,ak,bB c,ai];have hx1:=h2 w (aB _) c;rw[dQ]at hx1;congr 1;rw[dH,bF,ow];constructor;exact λhf=>⟨l[w],getElem_mem _,hf,by omega⟩;rintro⟨s,hs,g1,g2⟩;obtain⟨k,hk,rfl⟩:=mem_iff_getElem.1 hs;rcases Nat.lt_trichotomy k w with C6|rfl|C6;have:=h1 k C6 hk;rw[bF]at this;omega;exact g1;have:=a1 w k c hk C6;omega;have d:decide ((w:Int)<l.length)=false:=by simp;omega
 simp only[d,ay];congr 1;symm;cases hh:ea l y with
 |false=>rfl
 |true=>
  obtain⟨s,hs,g1,g2⟩:=(ow _ _).1 hh;obtain⟨k,hk,rfl⟩:=mem_iff_getElem.1 hs;have:=h1 k (by omega) hk;rw[bF]at this;omega
theorem Qr{l:U (List aN)}(hf:l.flatten.length<1099511627776)(hl:l.length<1099511627776)(hn:l.length<n):Aq n l=some l.flatten:=Py (aN.mk 0 0) (b:=16) hf (by omega) hl hn
theorem Qs(l:U aN):(l.flatMap λr=>[r.from_,r.to]).length=2*l.length:=by
 induction l with
 |nil=>rfl
 |cons x l ih=>simp[ih];omega
theorem VL{l:U aN}(hl:l.length<10995116277)(hn:l.length<n):iter (yh l) n (0,[])=some (l.flatMap λr=>[r.from_,r.to]):=by
 have:=dG (l:=l) (step:=yh l) (λ i s=>(i,s)) (λ r s=>s++[r.from_,r.to]) (λ s=>s) (λ i s=>s.length<=2*i)
  (λ i hi s hs=>?_) (λ s hs=>by simp[yh]) n hn [] (aB _)
 rw[io]at this;rw[this];have gen:∀(ys:U aN) s,ys.foldl (λ s r=>s++[r.from_,r.to]) s=s++ys.flatMap λr=>[r.from_,r.to]:=by
  intro ys
  induction ys with
  |nil=>intro s;simp
  |cons y ys ih=>intro s;simp[ih]
 congr 1;simpa using gen l [];have hi':decide ((i:Int)<(l.length:Nat))=true:=by simpa using hi
 have ap:bP s.length s.length (sub ([l[i].from_,l[i].to]:U Int) 0 2).length 2 8=true:=cK (n:=2) (by omega) (by simp[maxLen];omega);simp only[yh,hi',ak,bC hi,bH hi,ai,ap,eH,aO];refine⟨?_,by simp;omega⟩;rw[aX (by omega)];rfl
theorem Zm{α G:Type}(p:α->Bool)(f:G->α->G):∀(l:U α)(s:G),(l.filter p).foldl f s=l.foldl (λ s x=>bif p x then f s x else s) s
 |[],s=>rfl
 |x::l,s=>by
  rw[List.filter_cons,foldl_cons];cases h:p x with
  |true|false=>simp;exact Zm p f l _
theorem Zn aa (p:aN):(ext aa p).length<=aa.length+1:=by
 unfold ext;cases aa.getLast? with
 |none=>simp
 |some q=>simp;cases q.to==p.from_<;>simp<;>omega
theorem Zo(a b:U aN):(i7 a b).length<=2*(a.length+b.length):=by have h:=qf (jP (λ a b=>decide (a<b)) ((a++b).flatMap λr=>[r.from_,r.to]));rw[dN,Qs,bW]at h;exact h
theorem abu(keep:Bool->Bool->Bool)(a b:U aN):(oU keep a b).length<=2*(a.length+b.length):=by
 have gen:∀(ys aa:U aN),(ys.foldl ext aa).length<=aa.length+ys.length:=by
  intro ys
  induction ys with
  |nil=>intro aa;simp
  |cons y ys ih=>
   intro aa;simp;have:=ih (ext aa y);have:=Zn aa y;omega
 have h:=gen ((gU aN.mk (i7 a b)).filter λp=>keep (ea a p.from_) (ea b p.from_)) [];have h2:=length_filter_le (λ p=>keep (ea a p.from_) (ea b p.from_)) (gU aN.mk (i7 a b));have h3:=(pO aN.mk (i7 a b)).1;have h4:=Zo a b;simp at h;unfold oU;omega
theorem agS{keep:Bool->Bool->Bool}{Z:(Bool×Bool×Unit)->J Bool}(hφ:∀p q,Z (p,q,())=some (keep p q)){a b:U aN}(ha:Can a)(hb:Can b)(hl:a.length+b.length<1099511627)(hn:2*(a.length+b.length)+2<n):JW n a b Z=some (oU keep a b):=by
 have fl:[a,b].flatten=a++b:=by simp
 have s2:(sub ([a,b]:U (List aN)) 0 2)=[a,b]:=rfl;have q2:bk ([a,b]:U (List aN)).length 2=true:=rfl;have hys:=Zo a b;have hfl:((a++b).flatMap λr=>[r.from_,r.to]).length=2*(a.length+b.length):=by rw[Qs,bW]
 unfold JW;rw[s2,q2];simp only[ak];rw[Qr (by rw[fl,bW];omega) (by simp) (by simp;omega),fl];simp only[ai,length_nil,aO,ak,VL (l:=a++b) (n:=n) (by rw[bW];omega) (by rw[bW];omega)];rw[lN (by rw[hfl];omega) (by rw[hfl];omega)];simp only[ai,dN,aO,ak];rw[ny (by rw[dN,hfl];omega) (by rw[dN,hfl];omega)];simp only[ai];have hE:iE (jP mT ((a++b).flatMap λr=>[r.from_,r.to]))=i7 a b:=rfl;rw[hE];have⟨p1,p2⟩:=pO aN.mk (i7 a b);have key:iter (yj n a b Z ((),i7 a b)) n ((1:Int),([]:U aN))=some (oU keep a b):=by
  have:=dG (l:=gU aN.mk (i7 a b)) (step:=yj n a b Z ((),i7 a b)) (λ i (s:List aN)=>(((i+1:Nat):Int),s)) (λ p s=>bif keep (ea a p.from_) (ea b p.from_)then ext s p else s) (λ s=>s) (λ i s=>s.length<=i)
   (λ i hi s hs=>?_) (λ s hs=>?_) n (by omega) [] (aB _)
  rw[show ((0+1:Nat):Int)=1 from rfl]at this;rw[this,oU,Zm];have hi2:i+1<(i7 a b).length:=by omega
  have hi1:i<(i7 a b).length:=by omega
  have d:decide (((i+1:Nat):Int)<(((i7 a b).length:Nat):Int))=true:=by simp;omega
  have wp:i64.wrap ((i+1:Nat)-1)=(i:Nat):=by rw[kY (by omega) (by omega)];rfl
  have pe:(gU aN.mk (i7 a b))[i]=aN.mk (i7 a b)[i] (i7 a b)[i+1]:=p2 i hi2 hi;rw[pe];have lx:=Zn s (aN.mk (i7 a b)[i] (i7 a b)[i+1]);have ap:bP s.length s.length (sub ([aN.mk (i7 a b)[i] (i7 a b)[i+1]]:U aN) 0 1).length 1 16=true:=cK (n:=1) (by omega) (by simp[maxLen];omega);have sb:(sub ([aN.mk (i7 a b)[i] (i7 a b)[i+1]]:U aN) 0 1)=[aN.mk (i7 a b)[i] (i7 a b)[i+1]]:=rfl;refine⟨?_,by cases keep (ea a (i7 a b)[i]) (ea b (i7 a b)[i])<;>simp<;>omega⟩;simp only[yj,d,ak,wp,bC hi1,bH hi1,ai,Qq (n:=n) ha (show a.length<1099511627776 by omega) (show a.length<n by omega),Qq (n:=n) hb (show b.length<1099511627776 by omega) (show b.length<n by omega),hφ];cases hk:keep (ea a (i7 a b)[i]) (ea b (i7 a b)[i])with
  |false=>
   simp only[Bool.not_false,ak,aO,ai,ay];rw[aX (by omega)]
  |true=>
   simp only[Bool.not_true,ay,ak];rcases List.eq_nil_or_concat s with rfl|⟨s0,q,IP⟩;have d0:decide ((([]:U aN).length:Nat)>0)=false:=(by simp);simp only[ai,bC hi2,bH hi2,ak,ap,eH,aO];rw[aX (by omega)];rfl;rw[List.concat_eq_append]at IP;subst IP;have d0:decide (((((s0++[q]).length:Nat):Int))>0)=true:=(by simp<;>omega);have CE:(s0++[q]).length=s0.length+1:=(by simp);have wq:i64.wrap (((s0++[q]).length:Nat)-1)=(s0.length:Nat):=(by rw[kY (by simp) (by omega),CE];rfl);have Tr:cR (s0.length:Nat) (s0++[q]).length=true:=bC (by omega);have g:ci (s0++[q]) ((0:Nat)+(s0.length:Nat))=some q:=(by rw[uZ];simp);have z:(((0:Nat):Int)+(s0.length:Nat)).toNat=s0.length:=(by simp);have st:(s0++[q]).set s0.length (aN.mk q.from_ (i7 a b)[i+1])=s0++[⟨q.from_,(i7 a b)[i+1]⟩]:=(by simp);simp only[d0,ak,wq,Tr,g,ai,NP];cases hj:q.to==(i7 a b)[i]with
   |true=>
    simp only[ak,bC hi2,bH hi2,ai,z,st];have e:bk (s0++[q]).length (s0++[(⟨q.from_,(i7 a b)[i+1]⟩:aN)]).length=true:=(by simp);simp only[e,ak,ai,aO];rw[aX (by omega)]
   |false=>
    rw[sb]at ap;simp only[ay,bC hi2,bH hi2,ai,ak,sb,ap,eH,aO];rw[aX (by omega)]
  have d:decide ((((gU aN.mk (i7 a b)).length+1:Nat):Int)<((i7 a b).length:Nat))=false:=by simp;omega
  simp only[yj,d,ay,aO,ak]
 rw[key];simp
theorem EM(keep:Bool->Bool->Bool)(a b:U aj):qH keep a b=(aL (a++b)).map λs=>⟨s.x0,s.x1,oU keep (bA a s.x0) (bA b s.x0)⟩:=by
 have gen:∀es:U Int,gU (λ x x'=>(⟨x,x',oU keep (bA a x) (bA b x)⟩:aV)) es=(gU (λ x x'=>(⟨x,x',bA (a++b) x⟩:aV)) es).map λs=>⟨s.x0,s.x1,oU keep (bA a s.x0) (bA b s.x0)⟩:=by
  intro es
  match es with
  |[]|[_]=>rfl
  |x::y::l=>
   rw[nG,nG,bK];congr 1;have:∀es:U Int,gU (λ x x'=>(⟨x,x',oU keep (bA a x) (bA b x)⟩:aV)) es=(gU (λ x x'=>(⟨x,x',bA (a++b) x⟩:aV)) es).map λs=>⟨s.x0,s.x1,oU keep (bA a s.x0) (bA b s.x0)⟩:=by
    intro es
    induction es with
    |nil=>rfl
    |cons x es ih=>
     cases es with
     |nil=>rfl
     |cons y es=>rw[nG,nG,bK,ih]
   exact this (y::l)
 exact gen (bg (a++b))
theorem M4{keep:Bool->Bool->Bool}{Z:(Bool×Bool×Unit)->J Bool}(hφ:∀p q,Z (p,q,())=some (keep p q)){a b:U aj}(ha:a.length<1099511627776)(hb:b.length<1099511627776)(hna:a.length<n)(hnb:b.length<n)(hn:1000<=n):Ar n a b Z=some (jq keep a b):=by
 unfold Ar jq;rw[iJ ha hna hn,ai];cases hra:br a with
 |false=>rfl
 |true=>
  rw[iJ hb hnb hn];simp;cases hrb:br b with
  |false=>rfl
  |true=>
   have⟨a1,a2,_⟩:=dS hra;have⟨b1,b2,_⟩:=dS hrb;have fa:[a].flatten=a:=(by simp);have fb:[b].flatten=b:=(by simp);have fab:[a,b].flatten=a++b:=(by simp);have hab:∀r∈a++b,cT r=true:=λr hr=>(by rcases bD.1 hr with hr|hr;exact a1 r hr;exact b1 r hr);have sa:qj n [a]=some (aL a):=by
    have:=zB (n:=n) (ls:=[a]) (by rw[fa];exact a1) (by rw[fa];omega) (by simp) (by rw[fa];omega) (by simp;omega)
    rwa [fa]at this
   have sb:qj n [b]=some (aL b):=by
    have:=zB (n:=n) (ls:=[b]) (by rw[fb];exact b1) (by rw[fb];omega) (by simp) (by rw[fb];omega) (by simp;omega)
    rwa [fb]at this
   have lab:(a++b).length=a.length+b.length:=bW;have sab:qj n [a,b]=some (aL (a++b)):=by
    have:=zB (n:=n) (ls:=[a,b]) (by rw[fab];exact hab) (by rw[fab,lab];omega) (by simp) (by rw[fab,lab];omega) (by simp;omega)
    rwa [fab]at this
   have e1:(sub ([a]:U (List aj)) 0 1)=[a]:=rfl;have e2:(sub ([b]:U (List aj)) 0 1)=[b]:=rfl;have e3:(sub ([a,b]:U (List aj)) 0 2)=[a,b]:=rfl;have q1:bk ([a]:U (List aj)).length 1=true:=rfl;have q2:bk ([b]:U (List aj)).length 1=true:=rfl;have q3:bk ([a,b]:U (List aj)).length 2=true:=rfl;have la:=vM a;have lb:=vM b;have lS:=vM (a++b);rw[lab]at lS;have mc:∀x,(bA a x).length<=200/\(bA b x).length<=200:=λx=>⟨Nat.le_trans (vL a x) a2,Nat.le_trans (vL b x) b2⟩;have lm:∀x,(oU keep (bA a x) (bA b x)).length<=800:=λx=>(by have:=abu keep (bA a x) (bA b x);have:=mc x;omega);have key:iter (sU n Z (aL a) (aL b) (aL (a++b))) n ((0:Int),aL (a++b))=some (qH keep a b):=by
    have:=jg (step:=sU n Z (aL a) (aL b) (aL (a++b))) (λ i=>((i:Int),(qH keep a b).take i++(aL (a++b)).drop i)) (aL (a++b)).length (qH keep a b) (λ i hi=>?_) ?_ n (by omega);simpa using this;have d:decide ((i:Int)<(((aL (a++b)).length:Nat):Int))=true:=(by simpa using hi);have lc:(qH keep a b).length=(aL (a++b)).length:=(by rw[EM,length_map]);have lt:((qH keep a b).take i).length=i:=(by rw[length_take];omega);have hd:(aL (a++b)).drop i=(aL (a++b))[i]::(aL (a++b)).drop (i+1):=drop_eq_getElem_cons hi;have g:ci ((qH keep a b).take i++(aL (a++b)).drop i) (((0:Nat):Int)+(i:Nat))=some (aL (a++b))[i]:=(by rw[uZ,jf (by omega),lt,hd];simp);have st:∀s:aV,((qH keep a b).take i++(aL (a++b)).drop i).set i s=(qH keep a b).take i++s::(aL (a++b)).drop (i+1):=(by intro s;rw[set_append_right _ _ (by omega),lt,hd,Nat.sub_self];rfl);have z:(((0:Nat):Int)+(i:Nat)).toNat=i:=(by simp);have tk:(qH keep a b).take (i+1)=(qH keep a b).take i++[⟨(aL (a++b))[i].x0,(aL (a++b))[i].x1,oU keep (bA a (aL (a++b))[i].x0) (bA b (aL (a++b))[i].x0)⟩]:=(by rw[fU (by omega)];congr 2;simp[EM]);have hm:=mc (aL (a++b))[i].x0;have mg:JW n (bA a (aL (a++b))[i].x0) (bA b (aL (a++b))[i].x0) Z=some (oU keep (bA a (aL (a++b))[i].x0) (bA b (aL (a++b))[i].x0)):=
     agS hφ (gL a1 _).1 (gL b1 _).1 (by omega) (by omega)
    have at1:Zd n (aL a) (aL (a++b))[i].x0=some (bA a (aL (a++b))[i].x0):=(by rw[agR (lQ a) (by omega) (by omega),qo]);have at2:Zd n (aL b) (aL (a++b))[i].x0=some (bA b (aL (a++b))[i].x0):=(by rw[agR (lQ b) (by omega) (by omega),qo]);simp only[sU,d,ak,bC hi,g,ai,fG,at1,at2,mg,aO,z,st];rw[aX (by omega),tk,aP];rfl;have lc:(qH keep a b).length=(aL (a++b)).length:=(by rw[EM,length_map]);have d:decide (((aL (a++b)).length:Nat)<((aL (a++b)).length:Nat))=false:=(by simp);simp[sU,List.drop_length,append_nil];rw[take_of_length_le (by omega)]
   have lc:(qH keep a b).length=(aL (a++b)).length:=(by rw[EM,length_map]);have cc:∀s∈qH keep a b,s.column.length<=800:=(by intro s hs;rw[EM,mem_map]at hs;obtain⟨t,_,rfl⟩:=hs;exact lm _);have sl:sub (qH keep a b) 0 (aL (a++b)).length=qH keep a b:=(by rw[<- lc,fG]);simp[e1,e2,e3,sa,sb,sab,aO,key,sl,lc];rw[U8 (b:=800) (by omega) (by omega) cc (by omega) (by omega)];simp[Am];by_cases lv:(bJ (qH keep a b)).length>200;have:decide (((bJ (qH keep a b)).length:Int)>200)=true:=(by simp;omega);simp[this,lv];have:decide (((bJ (qH keep a b)).length:Int)>200)=false:=(by simp;omega);simp[this,lv]
theorem Qt{a b:U aj}(ha:a.length<1099511627776)(hb:b.length<1099511627776)(hna:a.length<n)(hnb:b.length<n)(hn:1000<=n):Lx n a b=some (jq (λ p q=>p&&q) a b):=by unfold Lx;rw[M4 (keep:=λp q=>p&&q) (λ p q=>by show zn p q=_;unfold zn;cases p<;>rfl) ha hb hna hnb hn];rfl
theorem agT{a b:U aj}(ha:a.length<1099511627776)(hb:b.length<1099511627776)(hna:a.length<n)(hnb:b.length<n)(hn:1000<=n):Qk n a b=some (jq (λ p q=>p&&!q) a b):=by unfold Qk;rw[M4 (keep:=λp q=>p&&!q) (λ p q=>by show Cq p q=_;unfold Cq;cases p<;>rfl) ha hb hna hnb hn];rfl
theorem Qu{keep:Bool->Bool->Bool}(a b:U aj):(jq keep a b).1.length<=200:=by unfold jq;split;split;simp;show(bJ _).length<=200;omega;simp
def sumTo:Nat->(Nat->Int)->Int
 | 0,_=>0
 |k+1,f=>sumTo k f+f k
theorem sumTo_congr{f g:Nat->Int}:∀n,(∀ i,i<n->f i=g i)->sumTo n f=sumTo n g
 | 0,_=>rfl
 |k+1,h=>by show sumTo k f+f k=sumTo k g+g k;rw[sumTo_congr k λi hi=>h i (by omega),h k (by omega)]
theorem EN(f g:Nat->Int):∀n,sumTo n (λ i=>f i+g i)=sumTo n f+sumTo n g
 | 0=>rfl
 |k+1=>by show sumTo k (λ i=>f i+g i)+(f k+g k)=(sumTo k f+f k)+(sumTo k g+g k);rw[EN f g k];omega
theorem AJ:∀n,sumTo n (λ _=>0)=0
 | 0=>rfl
 |k+1=>by show sumTo k (λ _=>0)+0=0;rw[AJ k];rfl
theorem Zp c (f:Nat->Int):∀n,sumTo n (λ i=>f i*c)=sumTo n f*c
 | 0=>by simp[sumTo]
 |k+1=>by show sumTo k (λ i=>f i*c)+f k*c=(sumTo k f+f k)*c;rw[Zp c f k,Int.add_mul]
theorem Zq c (f:Nat->Int):∀n,sumTo n (λ i=>c*f i)=c*sumTo n f
 | 0=>by simp[sumTo]
 |k+1=>by show sumTo k (λ i=>c*f i)+c*f k=c*(sumTo k f+f k);rw[Zq c f k,Int.mul_add]
def zD(b:Bool):Int:=bif b then 1 else 0
theorem aos(p q:Bool):zD (p&&q)=zD p*zD q:=by cases p<;>cases q<;>rfl
theorem J7{a b:Int}(h0:0<=a)(h1:a<=b):∀n:Nat,sumTo n (λ i=>zD (decide (a<=i)&&decide (i<b)))=max 0 (min b n-a)
 | 0=>by show 0=_;omega
 |k+1=>by show sumTo k _+zD (decide (a<=k)&&decide (k<b))=_;rw[J7 h0 h1 k];by_cases c:a<=k<;>by_cases d:k<b<;>simp[zD,c,d]<;>omega
def uF:Nat:=1048576
def pQ(p:Int->Int->Bool):Int:=sumTo uF λx=>sumTo uF λy=>zD (p x y)
def EO(r:aj):Int:=(r.x1-r.x0)*(r.y1-r.y0)
def C8(l:U aj):Int:=(l.map EO).sum
def fI(r:aj)(x y:Int):Bool:=(decide (r.x0<=x)&&decide (x<r.x1))&&(decide (r.y0<=y)&&decide (y<r.y1))
theorem Gw{r:aj}(h:cT r=true):pQ (fI r)=EO r:=by
 simp at h;have e:∀x:Nat,sumTo uF (λ y=>zD (fI r x y))=zD (decide (r.x0<=x)&&decide (x<r.x1))*(r.y1-r.y0):=by intro x;rw[sumTo_congr (g:=λy=>zD (decide (r.x0<=x)&&decide (x<r.x1))*zD (decide (r.y0<=y)&&decide (y<r.y1))) uF λy _=>by rw[fI,aos]];rw[Zq,J7 (by omega) (by omega)];congr 1;have:(uF:Nat)=1048576:=rfl;omega
 unfold pQ;rw[sumTo_congr uF λx _=>e x,Zp,J7 (by omega) (by omega)];unfold EO;congr 1;have:(uF:Nat)=1048576:=rfl;omega
theorem ame{p q r:Int->Int->Bool}(h:∀x y,zD (r x y)=zD (p x y)+zD (q x y)):pQ r=pQ p+pQ q:=by unfold pQ;rw[<- EN];refine sumTo_congr _ λx _=>?_;rw[<- EN];exact sumTo_congr _ λy _=>h x y
theorem yB{p q:Int->Int->Bool}(h:∀x y,p x y=q x y):pQ p=pQ q:=by have:p=q:=funext λx=>funext λy=>h x y;rw[this]
theorem Vg:pQ (λ _ _=>false)=0:=by exact(sumTo_congr (g:=λ_=>0) uF λx _=>AJ uF).trans (AJ _)
def Rr(c:U aN)(y:Int):Int:=(c.map λs=>zD (decide (s.from_<=y)&&decide (y<s.to))).sum
theorem ac9{y:Int}:∀{c:U aN},Can c->Rr c y=zD (ea c y)
 |[],_=>rfl
 |s::c,h=>by
  have ih:=ac9 (y:=y) (Zg h);show zD _+Rr c y=_;rw[ih,nC];cases hc:ea c y with
  |false=>cases (decide (s.from_<=y)&&decide (y<s.to))<;>rfl
  |true=>
   have:=EJ h hc;have hd:decide (y<s.to)=false:=(by simp;omega);rw[hd,Bool.and_false];rfl
theorem agU:∀l,(∀ r∈l,cT r=true)->C8 l=sumTo uF λx=>sumTo uF λy=>Rr (dR l x) y
 |[],_=>by exact((sumTo_congr (g:=λ_=>0) uF λx _=>AJ uF).trans (AJ _)).symm
 |r::l,h=>by
  have ih:=agU l λq hq=>h q (bq _ hq);have hr:=Gw (h r mem_cons_self);show EO r+C8 l=_;rw[ih,<- hr];unfold pQ;rw[<- EN];refine sumTo_congr _ λx _=>?_;rw[<- EN];refine sumTo_congr _ λy _=>?_;unfold dR fI;cases hx:decide (r.x0<=x)&&decide (x<r.x1)with
  |true=>simp[hx,Rr]
  |false=>simp[hx];simp[zD]
theorem abv{a:U aj}(h:br a=true) x:Can (dR a x):=by
 have⟨h1,h2,h3⟩:=dS h;have e:dR a x=bA a x:=by have:=AA (lQ a) x;rw[h3,qo]at this;exact this
 rw[e];exact(gL h1 x).1
theorem ajk{a:U aj}(h:br a=true):C8 a=pQ (aZ a):=by rw[agU a (dS h).1];unfold pQ;refine sumTo_congr _ λx _=>sumTo_congr _ λy _=>?_;rw[ac9 (abv h _),Cs]
theorem yC{r:aj}(h:cT r=true):0<=EO r/\EO r<=1099511627776:=by simp at h;unfold EO;refine⟨Int.mul_nonneg (by omega) (by omega),?_⟩;have:=Int.mul_le_mul (show r.x1-r.x0<=1048576 by omega) (show r.y1-r.y0<=1048576 by omega) (by omega) (by omega);omega
theorem Zr:∀{l:U aj},(∀ r∈l,cT r=true)->0<=C8 l/\C8 l<=1099511627776*l.length
 |[],_=>by simp[C8]
 |r::l,h=>by
  have h1:=yC (h r mem_cons_self);have h2:=Zr (l:=l) λq hq=>h q (bq _ hq);have e:C8 (r::l)=EO r+C8 l:=rfl;rw[e,eu]
  push_cast
  omega
theorem J8{l:U aj}{Z:(aj×Unit)->J Bool}(p:aj->Bool)(h:∀x∈l,Z (x,())=some (p x))(hl:l.length<1099511627776)(hn:l.length<n):vK n l Z=some (CU p l):=jc p h hl hn
theorem uG{l:U aj}{Z:(aj×Unit)->J Bool}(p:aj->Bool)(h:∀x∈l,Z (x,())=some (p x))(hl:l.length<1099511627776)(hn:l.length<n):jJ n l Z=some (l.any p):=by unfold jJ;rw[J8 p h hl hn,ai,yZ]
theorem ada:∀(l:U Int) x,(l++[x]).sum=l.sum+x
 |[],x=>by simp
 |a::l,x=>by rw[List.cons_append,List.sum_cons,List.sum_cons,ada l x];omega
theorem amf{r:aj}(h:cT r=true):Ao r=some (EO r):=by have hb:=yC h;unfold Ao zP;rw[j3,h];simp;simp at h;unfold EO at*;rw[bT (x:=r.x1-r.x0),bT (x:=r.y1-r.y0),bT (by omega) (by omega)]
theorem NR{a:U aj}(ha:a.length<=900)(hn:1000<=n):Qj n a=some (bif br a then C8 a else 0):=by
 unfold Qj;rw[iJ (by omega) (by omega) hn];simp;cases hr:br a with
 |false=>rfl
 |true=>
  have ok:=(dS hr).1;have:=jg (step:=Gm a) (λ i=>(C8 (a.take i),(i:Nat))) a.length (C8 a) (λ i hi=>?_) ?_ n (by omega);have e:C8 (a.take 0)=0:=rfl;rw[e,io]at this;simp[this];have c:decide ((i:Int)<a.length)=true:=by simpa using hi
  have h1:=Zr (l:=a.take i) λr hr=>ok r (List.mem_of_mem_take hr);rw[length_take]at h1;have h2:=yC (ok _ (getElem_mem hi));have e:C8 (a.take (i+1))=C8 (a.take i)+EO a[i]:=by rw[fU hi];unfold C8;rw[map_append];exact ada _ _
  simp only[Gm,c,ak,bB hi,ai,amf (ok _ (getElem_mem hi))];rw[aX (by omega),bT (by omega) (by omega),e];simp[Gm]
theorem SS{α:Type}(p:α->Bool) l:(match p8 p l with|some _=>true|none=>false)=l.any p:=by have:=rC p l;rw[<- this];cases p8 p l<;>rfl
def HG(p q:aj):Bool:=decide (max p.x0 q.x0<min p.x1 q.x1)&&decide (max p.y0 q.y0<min p.y1 q.y1)
def Qv(a b:U aj):Bool:=a.any λp=>b.any λq=>HG p q
theorem ajl{a b:U aj}(ha:a.length<1099511627776)(hb:b.length<1099511627776)(hna:a.length<n)(hnb:b.length<n):Xf n a b=some (Qv a b):=by
 unfold Xf Qv;rw[uG (λ p=>b.any λq=>HG p q) (λ p _=>?_) ha hna];rfl;show Gs n p b=_;unfold Gs;rw[uG (λ q=>HG p q) (λ q _=>?_) hb hnb];rfl;show xC q p=_;unfold xC HG;have e1:max q.x0 p.x0=max p.x0 q.x0:=by omega
 have e2:min q.x1 p.x1=min p.x1 q.x1:=by omega
 have e3:max q.y0 p.y0=max p.y0 q.y0:=by omega
 have e4:min q.y1 p.y1=min p.y1 q.y1:=by omega
 first
  |(cases decide (max p.x0 q.x0<min p.x1 q.x1)<;>rfl)
  |(rw [e1,e2,e3,e4];cases decide (max p.x0 q.x0<min p.x1 q.x1)<;>rfl)
theorem agV(a b:U aj):Qv a b=true↔∃x y,aZ a x y=true/\aZ b x y=true:=by
 have h:∀l (x y:Int),aZ l x y=true↔∃r∈l,(r.x0<=x/\x<r.x1)/\(r.y0<=y/\y<r.y1):=λl x y=>by simp[aZ]
 unfold Qv;simp[h];constructor;rintro⟨p,hp,q,hq,hm⟩;simp[HG]at hm;exact⟨max p.x0 q.x0,max p.y0 q.y0,⟨p,hp,by omega⟩,q,hq,by omega⟩;rintro⟨x,y,⟨p,hp,h1⟩,q,hq,h2⟩;refine⟨p,hp,q,hq,?_⟩;simp[HG];omega
theorem ajm{a b:U aj}(hl:a.length<1099511627776)(hn:a.length<n):Xe n a b=some (decide (a=b)):=by unfold Xe;rw[EH hl hn];rfl
abbrev vy(a b:aj):Bool:=decide (a.y0<b.y0)
theorem Qw:Go.Sort.SWO vy where
 irrefl x:=by simp[vy]
 trans x y z h1 h2:=by simp only[vy,bF]at *;omega
 ntrans x y z h1 h2:=by simp only[vy,dQ]at *;omega
instance:Inhabited aj:=⟨aj.mk 0 0 0 0⟩
theorem yT{l:U aj}{Z:(aj×aj×Unit)->J Int}(f:aj->aj->Int)(hφ:∀x y,Z (x,y,())=some (f x y))(hf:∀x y,decide (f x y<0)=vy x y)(hl:l.length<1099511627776)(_:l.length<n):rR n l Z=some (rX vy l):=
 agG f hφ hf Qw hl
def Qx(r:aj):aN:=⟨r.y0,r.y1⟩
theorem agW(x0 x1:Int) c:(aD x0 x1 c).map Qx=c:=by unfold aD;rw[List.map_map];exact List.map_id'' (λ s=>rfl) c
theorem bR(x0 x1:Int) c:(aD x0 x1 c).length=c.length:=by simp[aD]
theorem Zt{x0 x1:Int}{c:U aN}{i:Nat}(h:i<c.length):ci (aD x0 x1 c) i=some ⟨x0,c[i].from_,x1,c[i].to⟩:=by rw[bB (by rw[bR];exact h)];simp[aD]
theorem ade{x0 x1:Int}:∀{L:U aj},(∀ r∈L,r.x0=x0/\r.x1=x1)->L=aD x0 x1 (L.map Qx)
 |[],_=>rfl
 |r::L,h=>by have h1:=h r mem_cons_self;have h2:=ade (L:=L) λq hq=>h q (bq _ hq);show r::L=⟨x0,r.y0,x1,r.y1⟩::aD x0 x1 (L.map Qx);rw[<- h2];obtain⟨a,b,c,d⟩:=r;obtain⟨rfl,rfl⟩:=h1;rfl
def Gx(l:U aj)(x0 x1:Int):U aN:=(l.filter λr=>decide (r.x0<=x0)&&decide (x1<=r.x1)).map Qx
theorem Zu(s t:aV)(h:s.column≠t.column):∀S (x0 x1:Int) c,Aw x0 x1 c (S++[t,s])=Aw x0 x1 c (S++[t])++aD s.x0 s.x1 s.column
 |[],x0,x1,c=>by simp[Aw];split;rename_i e;rw[aC (λ h'=>h (h'.trans e.symm))];rw[aP]
 |a::S,x0,x1,c=>by simp[Aw];split;exact Zu s t h S _ _ _;rw[Zu s t h S,aP]
theorem SV(s t:aV)(h:s.column=t.column):∀S (x0 x1:Int) c,∃pre x',Aw x0 x1 c (S++[t])=pre++aD x' t.x1 t.column/\Aw x0 x1 c (S++[t,s])=pre++aD x' s.x1 t.column
 |[],x0,x1,c=>by simp[Aw];split;rename_i e;refine⟨[],x0,by rw[e];rfl,?_⟩;rw[aM (h.trans e),e];rfl;exact⟨aD x0 x1 c,t.x0,rfl,rfl⟩
 |a::S,x0,x1,c=>by simp[Aw];split;exact SV s t h S _ _ _;have⟨pre,x',h1,h2⟩:=SV s t h S a.x0 a.x1 a.column;exact⟨aD x0 x1 c++pre,x',by rw[h1,aP],by rw[h2,aP]⟩
theorem Zv(s t:aV)(h:s.column≠t.column) S:bJ (S++[t,s])=bJ (S++[t])++aD s.x0 s.x1 s.column:=by
 cases S with
 |nil=>simp[bJ,Aw,aC h]
 |cons a S=>exact Zu s t h S _ _ _
theorem Vh(s t:aV)(h:s.column=t.column) S:∃pre x',bJ (S++[t])=pre++aD x' t.x1 t.column/\bJ (S++[t,s])=pre++aD x' s.x1 t.column:=by
 cases S with
 |nil=>exact⟨[],t.x0,rfl,by simp[bJ,Aw,aM h]⟩
 |cons a S=>exact SV s t h S _ _ _
def Vi(P:U aV)(i:Nat):U aj:=match (P.take i).getLast? with
 |some s=>aD s.x0 s.x1 s.column
 |none=>[]
def HW(s:cZ):aN:=⟨s.from_,s.to⟩
def cSS(c:U cZ):U aN:=c.map HW
def tS(s:dh):aV:=⟨s.x0,s.x1,cSS s.column⟩
def EP(d:Int)(c:U aN):U cZ:=(c.filter λs=>decide (s.from_+d<s.to-d)).map λs=>⟨s.from_+d,s.to-d⟩
theorem aot d c:cSS (EP d c)=(c.filter λs=>decide (s.from_+d<s.to-d)).map λs=>⟨s.from_+d,s.to-d⟩:=by simp[cSS,EP,HW]
theorem agX{d:Int}(hd:0<=d){c:U aN}(h:Can c):Can (cSS (EP d c)):=by rw[aot];refine⟨?_,λs hs=>?_⟩;rw[List.pairwise_map];refine(h.1.filter _).imp λ{a b} hab=>?_;show a.to-d<b.from_+d;omega;obtain⟨t,ht,rfl⟩:=mem_map.1 hs;have:=(mem_filter.1 ht).2;simpa using this
theorem ak6{d:Int}(hd:0<=d){c:U aN}(h:Can c) y:ea (cSS (EP d c)) y=true↔∀z,y-d<=z->z<=y+d->ea c z=true:=by rw[aot,ow];constructor;rintro⟨s,hs,h1,h2⟩ z hz1 hz2;obtain⟨t,ht,rfl⟩:=mem_map.1 hs;have ht':=(mem_filter.1 ht).1;simp at h1 h2;exact(ow c z).2 ⟨t,ht',by omega,by omega⟩;intro hall;obtain⟨t,ht,h1,h2⟩:=(ow c (y-d)).1 (hall (y-d) (by omega) (by omega));by_cases hto:t.to<=y+d;exfalso;obtain⟨u,hu,g1,g2⟩:=(ow c t.to).1 (hall t.to (by omega) hto);have ot:=h.2 t ht;obtain⟨i,hi,rfl⟩:=mem_iff_getElem.1 ht;obtain⟨j,hj,rfl⟩:=mem_iff_getElem.1 hu;have pw:=List.pairwise_iff_getElem.1 h.1;rcases Nat.lt_trichotomy i j with e|e|e;have:=pw i j hi hj e;omega;subst e;omega;have:=pw j i hj hi e;omega;refine⟨⟨t.from_+d,t.to-d⟩,mem_map.2 ⟨t,mem_filter.2 ⟨ht,?_⟩,rfl⟩,?_,?_⟩;simp;omega;show t.from_+d<=y;omega;show y<t.to-d;omega
def SY(a b:U cZ):U cZ:=a.flatMap λx=>(b.filter λy=>decide (max x.from_ y.from_<min x.to y.to)).map λy=>⟨max x.from_ y.from_,min x.to y.to⟩
theorem Qy{a b:U cZ}{s:cZ}:s∈SY a b↔∃x∈a,∃y∈b,max x.from_ y.from_<min x.to y.to/\s=⟨max x.from_ y.from_,min x.to y.to⟩:=by simp[SY];constructor;rintro⟨x,hx,y,⟨hy,h⟩,rfl⟩;exact⟨x,hx,y,hy,h,rfl⟩;rintro⟨x,hx,y,hy,h,rfl⟩;exact⟨x,hx,y,⟨hy,h⟩,rfl⟩
theorem ajn c y:ea (cSS c) y=true↔∃s∈c,s.from_<=y/\y<s.to:=by rw[ow];constructor;rintro⟨s,hs,h⟩;obtain⟨t,ht,rfl⟩:=mem_map.1 hs;exact⟨t,ht,h⟩;rintro⟨s,hs,h⟩;exact⟨HW s,mem_map.2 ⟨s,hs,rfl⟩,h⟩
theorem aou c:Can (cSS c)↔c.Pairwise (λ a b=>a.to<b.from_)/\∀s∈c,s.from_<s.to:=by unfold Can cSS;rw[List.pairwise_map];constructor;rintro⟨h1,h2⟩;exact⟨h1,λs hs=>h2 _ (mem_map.2 ⟨s,hs,rfl⟩)⟩;rintro⟨h1,h2⟩;exact⟨h1,λs hs=>by obtain⟨t,ht,rfl⟩:=mem_map.1 hs;exact h2 t ht⟩
theorem agY{a b:U cZ}(ha:Can (cSS a))(hb:Can (cSS b)):Can (cSS (SY a b)):=by rw[aou]at*;refine⟨?_,λs hs=>?_⟩;unfold SY;rw[List.pairwise_flatMap];refine⟨λ x _=>?_,ha.1.imp λ{x x'} hx=>?_⟩;rw[List.pairwise_map];refine(hb.1.filter _).imp λ{y y'} hy=>?_;show min x.to y.to<max x.from_ y'.from_;omega;intro p hp q hq;obtain⟨y,_,rfl⟩:=mem_map.1 hp;obtain⟨y',_,rfl⟩:=mem_map.1 hq;show min x.to y.to<max x'.from_ y'.from_;omega;obtain⟨x,_,y,_,h,rfl⟩:=Qy.1 hs;exact h
theorem apY(a b:U cZ) y:ea (cSS (SY a b)) y=(ea (cSS a) y&&ea (cSS b) y):=by rw[dH,aY,ajn,ajn,ajn];constructor;rintro⟨s,hs,h1,h2⟩;obtain⟨p,hp,q,hq,_,rfl⟩:=Qy.1 hs;simp at h1 h2;exact⟨⟨p,hp,by omega,by omega⟩,q,hq,by omega,by omega⟩;rintro⟨⟨p,hp,h1,h2⟩,q,hq,h3,h4⟩;exact⟨_,Qy.2 ⟨p,hp,q,hq,by omega,rfl⟩,by show max p.from_ q.from_<=y;omega,by show y<min p.to q.to;omega⟩
def NS(F:U Int)(c:U cZ):Prop:=Can (cSS c)/\∀s∈c,s.from_∈F
theorem S9{α:Type}[DecidableEq α]:∀{l m:U α},l.Pairwise (· ≠ ·)->(∀ x∈l,x∈m)->l.length<=m.length
 |[],_,_,_=>by simp
 |a::l,m,h,hm=>by have h1:=pairwise_cons.1 h;have:=S9 (l:=l) (m:=m.erase a) h1.2 λx hx=>(List.mem_erase_of_ne (λ e=>h1.1 x hx e.symm)).2 (hm x (bq _ hx));have e:=List.length_erase_of_mem (hm a mem_cons_self);have p:=List.length_pos_of_mem (hm a mem_cons_self);rw[eu];omega
theorem Zw{F:U Int}{c:U cZ}(h:NS F c):c.length<=F.length:=by obtain⟨h1,h2⟩:=h;rw[aou]at h1;have:=S9 (l:=c.map (·.from_)) (m:=F) (by rw[List.pairwise_map];refine(List.Pairwise.and_mem.1 h1.1).imp λ{a b} hab=>?_;have:=h1.2 a hab.1;have:=hab.2.2;omega) (λ x hx=>by obtain⟨s,hs,rfl⟩:=mem_map.1 hx;exact h2 s hs);simpa using this
theorem adf{F:U Int}{a b:U cZ}(ha:NS F a)(hb:NS F b):NS F (SY a b):=by refine⟨agY ha.1 hb.1,λs hs=>?_⟩;obtain⟨x,hx,y,hy,_,rfl⟩:=Qy.1 hs;show max x.from_ y.from_∈F;have h1:=ha.2 x hx;have h2:=hb.2 y hy;rcases Int.le_total x.from_ y.from_ with h|h;rw[Int.max_eq_right h];exact h2;rw[Int.max_eq_left h];exact h1
def nZ(x d:Int):U dh->Int->Bool->Bool->U cZ->Int×Bool×List cZ
 |[],nx,gap,_,aa=>(nx,gap,aa)
 |s::l,nx,gap,first,aa=>
  bif gap || (decide (s.x1<=nx) || decide (s.x0>x+d))then nZ x d l nx gap first aa
  else bif decide (s.x0>nx)then nZ x d l nx true first aa
  else bif first then nZ x d l s.x1 gap false s.column else nZ x d l s.x1 gap false (SY aa s.column)
def NT(l:U dh)(x d:Int):U cZ:=
 bif(nZ x d l (x-d) false true []).2.1 || decide ((nZ x d l (x-d) false true []).1<=x+d)then []else(nZ x d l (x-d) false true []).2.2
def zv(x d:Int)(r:Int×Bool×List cZ):U cZ:=bif r.2.1 || decide (r.1<=x+d)then []else r.2.2
theorem apZ l (x d:Int):NT l x d=zv x d (nZ x d l (x-d) false true []):=rfl
theorem adg(x d:Int):∀l nx f aa,(nZ x d l nx true f aa).2.1=true
 |[],_,_,_=>rfl
 |s::l,nx,f,aa=>by simp[nZ];exact adg x d l nx f aa
def Nx(l:U dh):Prop:=l.Pairwise (λ s t=>s.x1<=t.x0)/\∀s∈l,s.x0<s.x1/\Can (cSS s.column)
theorem ajo{s:dh}{l:U dh}(h:Nx (s::l)):Nx l:=⟨(pairwise_cons.1 h.1).2,λt ht=>h.2 t (bq _ ht)⟩
def nV(l:U dh)(x:Int):U aN:=gP (l.map tS) x
theorem adh{s:dh}{l:U dh}{x:Int}(h1:s.x0<=x)(h2:x<s.x1):nV (s::l) x=cSS s.column:=by simp[nV,gP,tS,h1,h2]
theorem Gy{s:dh}{l:U dh}{x:Int}(h:x<s.x0\/s.x1<=x):nV (s::l) x=nV l x:=by
 have:(decide (s.x0<=x)&&decide (x<s.x1))=false:=by rw[Bool.and_eq_false_iff];simp;omega
 simp[nV,gP,tS,this]
theorem J9:∀{l:U dh}{x:Int},(∀ s∈l,x<s.x0\/s.x1<=x)->nV l x=[]
 |[],_,_=>rfl
 |s::l,x,h=>by rw[Gy (h s mem_cons_self)];exact J9 λt ht=>h t (bq _ ht)
theorem NU(x d:Int):∀l,Nx l->∀nx first aa,
 (first=true->nx<=x+d)->(first=false->Can (cSS aa)/\∀s∈l,nx<=s.x0)->
 Can (cSS (zv x d (nZ x d l nx false first aa)))/\
 ∀y,ea (cSS (zv x d (nZ x d l nx false first aa))) y=true↔(first=false->ea (cSS aa) y=true)/\∀z,nx<=z->z<=x+d->ea (nV l z) y=true
 |[],_,nx,first,aa,h1,h2=>by
  have e0:nZ x d [] nx false first aa=(nx,false,aa):=rfl
  rw[e0];have e1:zv x d (nx,false,aa)=bif decide (nx<=x+d)then []else aa:=by simp[zv]
  rw[e1];by_cases hn:nx<=x+d;have:decide (nx<=x+d)=true:=by simpa using hn
  simp[this];refine⟨zA,λy=>⟨λ h=>by simp[cSS,ea]at h,λh=>?_⟩⟩;have:=h.2 nx (Int.le_refl _) hn;simp[nV,gP,ea]at this;have:decide (nx<=x+d)=false:=by simpa using hn
  simp[this];cases first with
  |true=>exact absurd (h1 rfl) hn
  |false=>
   refine⟨(h2 rfl).1,λy=>⟨λ h=>⟨λ _=>h,λz hz1 hz2=>by omega⟩,λh=>h.1 rfl⟩⟩
 |s::l,hs,nx,first,aa,h1,h2=>by
  have hl:=ajo hs;obtain⟨hs0,hsc⟩:=hs.2 s mem_cons_self;have hb:=(pairwise_cons.1 hs.1).1;simp[nZ];by_cases c1:s.x1<=nx\/s.x0>x+d;have e:(decide (s.x1<=nx) || decide (s.x0>x+d))=true:=by simpa using c1
  simp[e];obtain⟨g1,g2⟩:=NU x d l hl nx first aa h1 λhf=>⟨(h2 hf).1,λt ht=>(h2 hf).2 t (bq _ ht)⟩
  refine⟨g1,λy=>?_⟩;rw[g2];have:∀z,nx<=z->z<=x+d->nV (s::l) z=nV l z:=λz hz1 hz2=>Gy (by omega);constructor;rintro⟨a,b⟩;exact⟨a,λz hz1 hz2=>by rw[this z hz1 hz2];exact b z hz1 hz2⟩;rintro⟨a,b⟩;exact⟨a,λz hz1 hz2=>by rw[<- this z hz1 hz2];exact b z hz1 hz2⟩;have e:(decide (s.x1<=nx) || decide (s.x0>x+d))=false:=by rw[Bool.or_eq_false_iff,dQ,dQ];omega
  simp[e];by_cases c2:s.x0>nx;have e2:decide (s.x0>nx)=true:=by simpa using c2
  simp[e2];have wn:zv x d (nZ x d l nx true first aa)=[]:=by unfold zv;rw[adg];rfl
  rw[wn];refine⟨zA,λy=>⟨λ h=>by simp[cSS,ea]at h,λh=>?_⟩⟩;have:=h.2 nx (Int.le_refl _) (by omega);rw[J9 (λ t ht=>?_)]at this;simp[ea]at this;rcases aG.1 ht with rfl|ht;left;omega;left;have:=hb t ht;omega;have e2:decide (s.x0>nx)=false:=by simpa using c2
  simp[e2]
  have key:∀out',Can (cSS out')->Can (cSS (zv x d (nZ x d l s.x1 false false out')))/\
   ∀y,ea (cSS (zv x d (nZ x d l s.x1 false false out'))) y=true↔ea (cSS out') y=true/\∀z,s.x1<=z->z<=x+d->ea (nV l z) y=true:=by intro out' ho;obtain⟨g1,g2⟩:=NU x d l hl s.x1 false out' (by simp) λ_=>⟨ho,λt ht=>hb t ht⟩;exact⟨g1,λy=>by rw[g2];simp⟩
  have split:∀y,(∀ z,nx<=z->z<=x+d->ea (nV (s::l) z) y=true)↔(ea (cSS s.column) y=true\/x+d<nx)/\∀z,s.x1<=z->z<=x+d->ea (nV l z) y=true:=by
   intro y;constructor;intro h;refine⟨?_,λz hz1 hz2=>?_⟩;by_cases hn:nx<=x+d;have:=h nx (Int.le_refl _) hn;rw[adh (by omega) (by omega)]at this;exact .inl this;right;omega;have:=h z (by omega) hz2
   rwa [Gy (by omega)]at this
   rintro⟨a,b⟩ z hz1 hz2;by_cases hz:z<s.x1;rw[adh (by omega) hz];rcases a with a|a;exact a;omega;rw[Gy (by omega)];exact b z (by omega) hz2
  cases first with
  |true=>
   simp only[ak];have⟨g1,g2⟩:=key s.column hsc;refine⟨g1,λy=>?_⟩;rw[g2,split];have:=h1 rfl;constructor;rintro⟨a,b⟩;exact⟨by simp,.inl a,b⟩;rintro⟨_,a|a,b⟩;exact⟨a,b⟩;omega
  |false=>
   simp only[ay];have⟨k1,k2⟩:=h2 rfl;have kn:=k2 s mem_cons_self;have⟨g1,g2⟩:=key (SY aa s.column) (agY k1 hsc);refine⟨g1,λy=>?_⟩;rw[g2,split,apY,aY];constructor;rintro⟨⟨a,b⟩,c⟩;exact⟨λ _=>a,.inl b,c⟩;rintro⟨a,b|b,c⟩;exact⟨⟨a trivial,b⟩,c⟩;omega
theorem amg{l:U dh}(h:Nx l){x d:Int}(hd:0<=d):Can (cSS (NT l x d))/\∀y,ea (cSS (NT l x d)) y=true↔∀z,x-d<=z->z<=x+d->ea (nV l z) y=true:=by obtain⟨g1,g2⟩:=NU x d l h (x-d) true [] (λ _=>by omega) (by simp);exact⟨g1,λy=>by rw[apZ,g2];simp⟩
theorem Zx{F:U Int}(x d:Int):∀l,(∀ s∈l,NS F s.column)->∀nx (gap first:Bool) aa,NS F aa->NS F (nZ x d l nx gap first aa).2.2
 |[],_,_,_,_,_,h=>h
 |s::l,hl,nx,gap,first,aa,h=>by
  have ih:=Zx x d l λt ht=>hl t (bq _ ht);simp[nZ];cases gap || (decide (s.x1<=nx) || decide (s.x0>x+d))with
  |true=>exact ih _ _ _ _ h
  |false=>
   cases decide (s.x0>nx)with
   |true=>exact ih _ _ _ _ h
   |false=>
    cases first with
    |true=>exact ih _ _ _ _ (hl s mem_cons_self)
    |false=>exact ih _ _ _ _ (adf h (hl s mem_cons_self))
theorem Zy F:NS F []:=⟨zA,by simp⟩
theorem amh{F:U Int}{l:U dh}(h:∀s∈l,NS F s.column)(x d:Int):NS F (NT l x d):=by
 unfold NT;cases (nZ x d l (x-d) false true []).2.1 || decide ((nZ x d l (x-d) false true []).1<=x+d)with
 |true=>exact Zy F
 |false=>exact Zx x d l h _ _ _ _ (Zy F)
theorem ajp{a d:Int}(h1:0<=a/\a<=1048576)(h2:0<=d/\d<=1048576):i64.wrap (a+d)=a+d:=bT (by omega) (by omega)
theorem ajq{a d:Int}(h1:0<=a/\a<=1048576)(h2:0<=d/\d<=1048576):i64.wrap (a-d)=a-d:=bT (by omega) (by omega)
theorem ajr d aa (r:aj) (h:∀c∈aa.getLast?,c.x0≠r.x0):jG d aa r=jG d (aa++[⟨r.x0,r.x1,[]⟩]) r:=by
 unfold jG;cases ho:aa.getLast? with
 |none=>
  have:aa=[]:=List.getLast?_eq_none_iff.1 ho;subst this;simp
 |some c=>
  have:=h c (by rw[ho];rfl);simp[this]
theorem ag0{d:Int}(hd:0<=d/\d<=1048576) aa (x0 x1:Int) col (s:aN) (hs:0<=s.from_/\s.from_<s.to/\s.to<=1048576):
 jG d (aa++[⟨x0,x1,col⟩]) ⟨x0,s.from_,x1,s.to⟩=aa++[⟨x0,x1,col++EP d [s]⟩]:=by have w1:i64.wrap (s.from_+d)=s.from_+d:=ajp (by omega) hd;have w2:i64.wrap (s.to-d)=s.to-d:=ajq (by omega) hd;unfold jG EP;simp[w1,w2];by_cases h:s.from_+d<s.to-d;simp[h];simp[h]
theorem ag1 d (a b:U aN):EP d (a++b)=EP d a++EP d b:=by simp[EP]
theorem adi{d:Int}(hd:0<=d/\d<=1048576)(x0 x1:Int):∀c,(∀ s∈c,0<=s.from_/\s.from_<s.to/\s.to<=1048576)->∀aa col,
 (aD x0 x1 c).foldl (jG d) (aa++[⟨x0,x1,col⟩])=aa++[⟨x0,x1,col++EP d c⟩]
 |[],_,aa,col=>by simp[aD,EP]
 |s::c,h,aa,col=>by have e:aD x0 x1 (s::c)=⟨x0,s.from_,x1,s.to⟩::aD x0 x1 c:=rfl;rw[e,foldl_cons,ag0 hd _ _ _ _ _ (h s mem_cons_self),adi hd x0 x1 c (λ t ht=>h t (bq _ ht))];have:EP d (s::c)=EP d [s]++EP d c:=ag1 d [s] c;rw[this,aP]
def C9(d:Int)(s:aV):dh:=⟨s.x0,s.x1,EP d s.column⟩
theorem Zz{d:Int}(hd:0<=d/\d<=1048576):∀R,Runs R->(∀ s∈R,∀q∈s.column,0<=q.from_/\q.from_<q.to/\q.to<=1048576)->∀aa,(∀ c∈aa.getLast?,∀s∈R.head?,c.x0<s.x0)->
 (jF R).foldl (jG d) aa=aa++R.map (C9 d)
 |[],_,_,aa,_=>by simp[jF]
 |s::R,h,hb,aa,hl=>by
  have hh:=jW h;have e:jF (s::R)=aD s.x0 s.x1 s.column++jF R:=rfl;rw[e,List.foldl_append];have first:(aD s.x0 s.x1 s.column).foldl (jG d) aa=aa++[C9 d s]:=by
   cases hc:s.column with
   |nil=>exact absurd hc hh.2
   |cons q c=>
    have e2:aD s.x0 s.x1 (q::c)=⟨s.x0,q.from_,s.x1,q.to⟩::aD s.x0 s.x1 c:=rfl;rw[e2,foldl_cons,ajr d aa _ (λ c' hc'=>by have:=hl c' hc' s rfl;show c'.x0≠s.x0;omega),<- foldl_cons,<- e2];rw[adi hd s.x0 s.x1 (q::c) (λ t ht=>hb s mem_cons_self t (by rw[hc];exact ht))];simp[C9,hc]
  rw[first,Zz hd R (iZ h) (λ t ht=>hb t (bq _ ht)) _ (λ c hc t ht=>?_)];simp;simp at hc;have hc:C9 d s=c:=by simpa using hc
  subst hc;cases R with
  |nil=>simp at ht
  |cons u R=>
   simp at ht;subst ht;have:=h.2.1;show s.x0<u.x0;omega
theorem Ta{b:U cZ}(x:cZ)(hb:b.length<=1000)(hn:1000<n) aa (ho:aa.length<=100000000):
 iter (vB b x) n (0,aa)=some (aa++(b.filter λy=>decide (max x.from_ y.from_<min x.to y.to)).map λy=>⟨max x.from_ y.from_,min x.to y.to⟩):=by
 have:=dG (l:=b) (step:=vB b x) (λ i s=>(i,s)) (λ y s=>bif decide (max x.from_ y.from_<min x.to y.to)then s++[⟨max x.from_ y.from_,min x.to y.to⟩]else s) (λ s=>s) (λ i s=>s.length<=100000000+i)
  (λ i hi s hs=>?_) (λ s hs=>by simp[vB]) n (by omega) aa (by omega)
 rw[io]at this;rw[this];congr 1;have gen:∀(ys:U cZ)(s:U cZ),ys.foldl (λ s y=>bif decide (max x.from_ y.from_<min x.to y.to)then s++[⟨max x.from_ y.from_,min x.to y.to⟩]else s) s=s++(ys.filter λy=>decide (max x.from_ y.from_<min x.to y.to)).map λy=>⟨max x.from_ y.from_,min x.to y.to⟩:=by
  intro ys
  induction ys with
  |nil=>intro s;simp
  |cons y ys ih=>
   intro s;rw[foldl_cons,ih,List.filter_cons];cases decide (max x.from_ y.from_<min x.to y.to)<;>simp
 exact gen b aa;have ap:bP s.length s.length (sub ([cZ.mk (max x.from_ b[i].from_) (min x.to b[i].to)]:U cZ) 0 1).length 1 16=true:=cK (n:=1) (by omega) (by simp[maxLen];omega);simp only[vB,bV hi,ak,bB hi,ai,ap,eH,aO,uN];cases decide (max x.from_ b[i].from_<min x.to b[i].to)with
 |true=>
  refine⟨?_,by simp;omega⟩;simp only[ak];rw[aX (by omega)];rfl
 |false=>
  refine⟨?_,by simp;omega⟩;simp only[ay];rw[aX (by omega)]
theorem aeG{a b:U cZ}(ha:a.length<=1000)(hb:b.length<=1000)(hn:1000<n):Ls n a b=some (SY a b):=by
 unfold Ls
 have:=dG (l:=a) (step:=zh n a b) (λ i s=>(i,s)) (λ x s=>s++(b.filter λy=>decide (max x.from_ y.from_<min x.to y.to)).map λy=>⟨max x.from_ y.from_,min x.to y.to⟩) (λ s=>s) (λ i s=>s.length<=1000*i)
  (λ i hi s hs=>?_) (λ s hs=>by simp[zh]) n (by omega) [] (by simp)
 rw[io]at this;simp only[length_nil,aO,ak,this,ai,fG];congr 1;have gen:∀xs s,xs.foldl (λ s x=>s++(b.filter λy=>decide (max x.from_ y.from_<min x.to y.to)).map λy=>⟨max x.from_ y.from_,min x.to y.to⟩) s=s++SY xs b:=by
  intro xs
  induction xs with
  |nil=>intro s;simp[SY]
  |cons x xs ih=>intro s;rw[foldl_cons,ih];simp[SY]
 simpa using gen a [];have hlen:((b.filter λy=>decide (max (a[i]).from_ y.from_<min (a[i]).to y.to)).map λy=>(⟨max (a[i]).from_ y.from_,min (a[i]).to y.to⟩:cZ)).length<=1000:=by rw[length_map];exact Nat.le_trans (length_filter_le _ _) hb
 simp only[zh,bV hi,ak,bB hi,ai,aO];rw[Ta _ hb hn s (by omega)];simp only[ai];refine⟨?_,by rw[bW];omega⟩;rw[aX (by omega)]
theorem EQ{F:U Int}(hF:F.length<=1000){x d:Int}(hx: -1048576<=x/\x<=3000000)(hd:0<=d/\d<=1048576) L (hL:∀s∈L,NS F s.column) (hn:1000<n) (hl:L.length<=1000):
 ∀(m i:Nat) nx (gap first:Bool) aa,i+m=L.length->NS F aa->∀k,m<k->
  iter (vC n L) k (i,x,d,nx,gap,first,aa)=some (x,d,(nZ x d (L.drop i) nx gap first aa).1,(nZ x d (L.drop i) nx gap first aa).2.1,(nZ x d (L.drop i) nx gap first aa).2.2)
 | 0,i,nx,gap,first,aa,hi,ho,k,hk=>by
  obtain⟨k,rfl⟩:∃j,k=j+1:=⟨k-1,by omega⟩;have:i=L.length:=by omega
  subst this;refine iD ?_;simp[vC,nZ]
 |m+1,i,nx,gap,first,aa,hi,ho,k,hk=>by
  obtain⟨k,rfl⟩:∃j,k=j+1:=⟨k-1,by omega⟩;have hil:i<L.length:=by omega
  have w:i64.wrap (x+d)=x+d:=bT (by omega) (by omega);have ih:=λnx gap first aa ho=>EQ hF hx hd L hL hn hl m (i+1) nx gap first aa (by omega) ho k (by omega)
  have hdr:L.drop i=L[i]::L.drop (i+1):=drop_eq_getElem_cons hil;have hc:=hL _ (getElem_mem hil);rw[hdr];simp[nZ]
  have st:vC n L (i,x,d,nx,gap,first,aa)=some (.inl ((i+1:Nat),x,d,
   bif gap || (decide (L[i].x1<=nx) || decide (L[i].x0>x+d))then nx else bif decide (L[i].x0>nx)then nx else L[i].x1,
   bif gap || (decide (L[i].x1<=nx) || decide (L[i].x0>x+d))then gap else bif decide (L[i].x0>nx)then true else gap,
   bif gap || (decide (L[i].x1<=nx) || decide (L[i].x0>x+d))then first else bif decide (L[i].x0>nx)then first else false,
   bif gap || (decide (L[i].x1<=nx) || decide (L[i].x0>x+d))then aa else bif decide (L[i].x0>nx)then aa else bif first then L[i].column else SY aa L[i].column)):=by have lo:=Zw ho;have lc:=Zw hc;simp only[vC,bV hil,ak,bB hil,ai,Gh,w,uN,aeG (n:=n) (a:=aa) (b:=L[i].column) (by omega) (by omega) hn,fG,aO,aW i];cases gap<;>cases decide (L[i].x1<=nx)<;>cases decide (L[i].x0>x+d)<;>cases decide (L[i].x0>nx)<;>cases first<;>rfl
  rw[mM st,ih];cases gap<;>cases decide (L[i].x1<=nx)<;>cases decide (L[i].x0>x+d)<;>cases decide (L[i].x0>nx)<;>cases first<;>rfl
  cases gap || (decide (L[i].x1<=nx) || decide (L[i].x0>x+d))with
  |true=>exact ho
  |false=>
   cases decide (L[i].x0>nx)with
   |true=>exact ho
   |false=>
    cases first with
    |true=>exact hc
    |false=>exact adf ho hc
theorem aeH{F:U Int}(hF:F.length<=1000){x d:Int}(hx: -1048576<=x/\x<=3000000)(hd:0<=d/\d<=1048576) L (hL:∀s∈L,NS F s.column) (hn:1000<n) (hl:L.length<=1000):ED n L x d=some (NT L x d):=by unfold ED;have w1:i64.wrap (x-d)=x-d:=bT (by omega) (by omega);have w2:i64.wrap (x+d)=x+d:=bT (by omega) (by omega);have:=EQ hF hx hd L hL hn hl L.length 0 (x-d) false true [] (by omega) (Zy F) n (by omega);rw[io,List.drop_zero]at this;rw[w1,this];simp only[ai,w2,uN,NT];cases (nZ x d L (x-d) false true []).2.1<;>cases decide ((nZ x d L (x-d) false true []).1<=x+d)<;>rfl
def iq(d:Int)(a:U aj):U dh:=(EL (aL a)).map (C9 d)
def gd(d:Int)(L:U dh):U Int:=Bs (L.flatMap λs=>[s.x0+d,s.x1+d,s.x0-d,s.x1-d])
def og(d:Int)(L:U dh):U aV:=gU (λ a b=>⟨a,b,cSS (NT L a d)⟩) (gd d L)
def qI(a:U aj)(d:Int):U aj×Int:=
 if (decide (0<=d)&&(decide (d<=1048576)&&br a))=true then(if (bJ (og d (iq d a))).length>200 then([],6)else(bJ (og d (iq d a)),0))else([],1)
structure ajs(R:List aV):Prop where
 runs:Runs R
 len:R.length<=200
 col:∀s∈R,Can s.column/\∀q∈s.column,0<=q.from_/\q.from_<q.to/\q.to<=1048576
 xs:∀s∈R,0<=s.x0/\s.x0<s.x1/\s.x1<=1048576
 ud:(R.flatMap λs=>s.column.map (·.from_)).length<=200
theorem ag2 R:(jF R).length=(R.flatMap λs=>s.column.map (·.from_)).length:=by
 induction R with
 |nil=>rfl
 |cons s R ih=>
  have e:jF (s::R)=aD s.x0 s.x1 s.column++jF R:=rfl;rw[e,bW,ih,List.flatMap_cons,bW,bR,length_map]
theorem ag3:∀{R:U aV},Runs R->R.length<=(jF R).length
 |[],_=>by simp
 |s::R,h=>by have hh:=jW h;have e:jF (s::R)=aD s.x0 s.x1 s.column++jF R:=rfl;have:=ag3 (iZ h);have:=List.length_pos_iff.2 hh.2;rw[e,bW,bR,eu];omega
theorem NV{a:U aj}(h:br a=true):ajs (EL (aL a))/\jF (EL (aL a))=a/\∀x,gP (EL (aL a)) x=bA a x:=by
 have⟨hv,hl,hw⟩:=dS h;have⟨r1,r2⟩:=Az (lQ a);rw[yx]at hw;have hc:∀x,gP (EL (aL a)) x=bA a x:=λx=>by rw[r2,qo]
 have okr:∀s∈EL (aL a),∀q∈s.column,cT ⟨s.x0,q.from_,s.x1,q.to⟩=true:=λs hs q hq=>hv _ (by rw[<- hw];exact Vd.2 ⟨s,hs,q,hq,rfl⟩);refine⟨⟨r1,?_,λs hs=>⟨?_,λq hq=>?_⟩,λs hs=>?_,?_⟩,hw,hc⟩;have:=ag3 r1;rw[hw]at this;omega;have⟨m1,m2⟩:=yA r1 s hs;have:=m2 s.x0 (Int.le_refl _) m1;rw[hc]at this;rw[<- this];exact(gL hv s.x0).1;have:=okr s hs q hq;simp at this;omega;have⟨m1,m2⟩:=yA r1 s hs;have hne:s.column≠[]:=by
  intro e;have:=m2 s.x0 (Int.le_refl _) m1;have h3:∃i,∃hi:i<(EL (aL a)).length,(EL (aL a))[i]=s:=mem_iff_getElem.1 hs;have:∀{R:U aV},Runs R->∀s∈R,s.column≠[]:=by
   intro R
   induction R with
   |nil=>intro _ s hs;simp at hs
   |cons t R ih=>
    intro hR s hs;rcases aG.1 hs with rfl|hs;exact(jW hR).2;exact ih (iZ hR) s hs
  exact this r1 s hs e
 obtain⟨q,hq⟩:=List.exists_mem_of_ne_nil _ hne;have:=okr s hs q hq;simp at this;omega;rw[<- ag2,hw];exact hl
theorem Td:∀{R:U aV},Runs R->R.Pairwise (λ s t=>s.x1<=t.x0)
 |[],_=>List.Pairwise.nil
 |[s],_=>by simp
 |s::t::R,h=>by have ih:=Td (iZ h);refine pairwise_cons.2 ⟨λ u hu=>?_,ih⟩;rcases aG.1 hu with rfl|hu;exact h.2.1;have:=(pairwise_cons.1 ih).1 u hu;have:=(jW (iZ h)).1;have:=h.2.1;omega
theorem aov{R:U aV}(h:ajs R){d:Int}(hd:0<=d):Nx (R.map (C9 d)):=by refine⟨?_,λs hs=>?_⟩;rw[List.pairwise_map];exact Td h.runs;obtain⟨t,ht,rfl⟩:=mem_map.1 hs;exact⟨(h.xs t ht).2.1,agX hd (h.col t ht).1⟩
theorem ajt{R:U aV}(h:ajs R){d:Int}(hd:0<=d):∀s∈R.map (C9 d),NS ((R.flatMap λs=>s.column.map (·.from_)).map (· +d)) s.column:=by intro s hs;obtain⟨t,ht,rfl⟩:=mem_map.1 hs;refine⟨agX hd (h.col t ht).1,λq hq=>?_⟩;simp[C9,EP]at hq;obtain⟨p,⟨hp,_⟩,rfl⟩:=hq;exact mem_map.2 ⟨p.from_,mem_flatMap.2 ⟨t,ht,mem_map.2 ⟨p,hp,rfl⟩⟩,rfl⟩
theorem Vj d:∀R x,nV (R.map (C9 d)) x=cSS (EP d (gP R x))
 |[],x=>rfl
 |s::R,x=>by
  have ih:=Vj d R x;simp[nV,gP,tS,C9]at*;cases decide (s.x0<=x)&&decide (x<s.x1)with
  |true=>rfl
  |false=>exact ih
theorem arh{a b:U cZ}(h:cSS a=cSS b):a=b:=by
 induction a generalizing b with
 |nil=>cases b with
  |nil=>rfl
  |cons y b=>simp[cSS]at h
 |cons x a ih=>cases b with
  |nil=>simp[cSS]at h
  |cons y b=>
   simp[cSS]at h;obtain⟨h1,h2⟩:=h;rw[ih h2];obtain⟨x1,x2⟩:=x;obtain⟨y1,y2⟩:=y;simp[HW]at h1;rw[h1.1,h1.2]
theorem NW a:(cSS a).length=a.length:=by simp[cSS]
theorem Qz{a b:U cZ}(hl:a.length<1099511627776)(hn:a.length<n):vD n a b=some (decide (a=b)):=by
 have e:vD n a b=Pz n (λ x1 x2:cZ=>!((x1.from_==x2.from_)&&((x1.to==x2.to)&&true))) a b:=by kernel_rfl
 rw[e];refine JI (λ x y=>?_) hl hn;obtain⟨x1,x2⟩:=x;obtain⟨y1,y2⟩:=y;rw[dH];simp
theorem Te{d:Int}(hd:0<=d/\d<=1048576){L:U dh}(hx:∀s∈L,0<=s.x0/\s.x0<s.x1/\s.x1<=1048576)(hl:L.length<=1000)(hn:1000<n):
 iter (vE d L) n (0,[])=some (L.flatMap λs=>[s.x0+d,s.x1+d,s.x0-d,s.x1-d]):=by
 have:=dG (l:=L) (step:=vE d L) (λ i s=>(i,s)) (λ r s=>s++[i64.wrap (r.x0+d),i64.wrap (r.x1+d),i64.wrap (r.x0-d),i64.wrap (r.x1-d)]) (λ s=>s) (λ i s=>s.length<=4*i)
  (λ i hi s hs=>?_) (λ s hs=>by simp[vE]) n (by omega) [] (aB _)
 rw[io]at this;rw[this];have gen:∀(ys:U dh),(∀ s∈ys,0<=s.x0/\s.x0<s.x1/\s.x1<=1048576)->∀s,ys.foldl (λ s r=>s++[i64.wrap (r.x0+d),i64.wrap (r.x1+d),i64.wrap (r.x0-d),i64.wrap (r.x1-d)]) s=s++ys.flatMap λs=>[s.x0+d,s.x1+d,s.x0-d,s.x1-d]:=by
  intro ys
  induction ys with
  |nil=>intro _ s;simp
  |cons y ys ih=>
   intro hy s;have h0:=hy y mem_cons_self;rw[foldl_cons,ih (λ t ht=>hy t (bq _ ht)),ajp (by omega) hd,ajp (by omega) hd,ajq (by omega) hd,ajq (by omega) hd];simp
 congr 1;simpa using gen L hx [];have ap:bP s.length s.length (sub ([i64.wrap (L[i].x0+d),i64.wrap (L[i].x1+d),i64.wrap (L[i].x0-d),i64.wrap (L[i].x1-d)]:U Int) 0 4).length 4 8=true:=cK (n:=4) (by omega) (by simp[maxLen];omega);simp only[vE,fG,bV hi,ak,bB hi,ai,ap,eH,aO];refine⟨?_,by simp;omega⟩;rw[aX (by omega)];rfl
theorem Tf es (i:Nat) (hi:i+1<es.length) (_:es.length<1099511627776) pre (x' x1:Int) c (hl:pre.length+c.length<1099511627776) (hn:c.length<n):
 iter (vF ((),es) (i+1:Nat) (pre++aD x' x1 c)) n ((pre.length:Nat),pre++aD x' x1 c)=some (pre++aD x' es[i+1] c):=by
 have:=jg (step:=vF ((),es) (i+1:Nat) (pre++aD x' x1 c)) (λ j=>((pre.length+j:Nat),pre++(aD x' es[i+1] (c.take j)++aD x' x1 (c.drop j)))) c.length (pre++aD x' es[i+1] c) (λ j hj=>?_) ?_ n hn;simpa[aD]using this;have lt:(pre++aD x' x1 c).length=pre.length+c.length:=by rw[bW,bR]
 have d:decide (((pre.length+j:Nat):Int)<((pre++aD x' x1 c).length:Nat))=true:=by rw[lt];simp;omega
 have ib:cR (pre.length+j:Nat) (pre++aD x' x1 c).length=true:=bC (by rw[lt];omega);have tl:(aD x' es[i+1] (c.take j)).length=j:=by rw[bR,length_take];omega
 have dr:c.drop j=c[j]::c.drop (j+1):=drop_eq_getElem_cons hj;have e1:aD x' x1 (c.drop j)=⟨x',c[j].from_,x1,c[j].to⟩::aD x' x1 (c.drop (j+1)):=by rw[dr];rfl
 have g:ci (pre++(aD x' es[i+1] (c.take j)++aD x' x1 (c.drop j))) ((0:Nat)+(pre.length+j:Nat))=some ⟨x',c[j].from_,x1,c[j].to⟩:=by rw[uZ,jf (by omega),jf (by omega),tl,e1];simp
 have z:(((0:Nat):Int)+(pre.length+j:Nat)).toNat=pre.length+j:=by omega
 have sn:aD x' es[i+1] (c.take j++[c[j]])=aD x' es[i+1] (c.take j)++[aj.mk x' c[j].from_ es[i+1] c[j].to]:=by unfold aD;rw[map_append];rfl
 have st:(pre++(aD x' es[i+1] (c.take j)++aD x' x1 (c.drop j))).set (pre.length+j) (aj.mk x' c[j].from_ es[i+1] c[j].to)=pre++(aD x' es[i+1] (c.take (j+1))++aD x' x1 (c.drop (j+1))):=by rw[set_append_right _ _ (by omega),set_append_right _ _ (by omega),tl,e1,fU hj,sn,Nat.add_sub_cancel_left,Nat.sub_self,List.set_cons_zero,aP];rfl
 simp only[vF,d,ak,fG,bB hi,ai,ib,g,z,st];rw[aX (by omega)];rfl;have lt:(pre++aD x' x1 c).length=pre.length+c.length:=by rw[bW,bR]
 have d:decide ((pre.length+c.length:Nat)<((pre++aD x' x1 c).length:Nat))=false:=by rw[lt];simp
 simp[vF];simp[aD]
theorem Tg es (i:Nat) (hi:i+1<es.length) (he:es.length<1099511627776) aa c (hl:aa.length+c.length<1099511627) (hn:c.length<n):
 iter (vG ((),es) (i+1:Nat) c) n (0,aa)=some (aa++aD (es[i]'(by omega)) es[i+1] (cSS c)):=by
 have:=dG (l:=c) (step:=vG ((),es) (i+1:Nat) c) (λ j s=>(j,s)) (λ q s=>s++[⟨es[i]'(by omega),q.from_,es[i+1],q.to⟩]) (λ s=>s) (λ j s=>s.length<=aa.length+j)
  (λ j hj s hs=>?_) (λ s hs=>by simp[vG]) n hn aa (aB _)
 rw[io]at this;rw[this];have gen:∀ys s,ys.foldl (λ s q=>s++[⟨es[i]'(by omega),q.from_,es[i+1],q.to⟩]) s=s++aD (es[i]'(by omega)) es[i+1] (cSS ys):=by
  intro ys
  induction ys with
  |nil=>intro s;simp[aD,cSS]
  |cons y ys ih=>intro s;rw[foldl_cons,ih];simp[aD,cSS,HW]
 rw[gen];have w:i64.wrap ((i+1:Nat)-1)=(i:Nat):=by rw[kY (by omega) (by omega)];rfl
 have ap:bP s.length s.length (sub ([aj.mk (es[i]'(by omega)) (c[j]).from_ es[i+1] (c[j]).to]:U aj) 0 1).length 1 32=true:=cK (n:=1) (by omega) (by simp[maxLen];omega);simp only[vG,bV hj,ak,bB hj,ai,w,fG,bB hi,bB (show i<es.length by omega),ap,eH,aO];refine⟨?_,by simp;omega⟩;rw[aX (by omega)];rfl
theorem QA{d:Int}{L:U dh}{z:Int}:z∈gd d L↔∃s∈L,z=s.x0+d\/z=s.x1+d\/z=s.x0-d\/z=s.x1-d:=by rw[gd,Px,mem_flatMap];simp
theorem QB d (L:U dh):(L.flatMap λs=>[s.x0+d,s.x1+d,s.x0-d,s.x1-d]).length=4*L.length:=by
 induction L with
 |nil=>rfl
 |cons s L ih=>rw[List.flatMap_cons,bW,ih];simp;omega
theorem ap0 d L:(gd d L).length<=4*L.length:=by have h:=qf (jP mT (L.flatMap λs=>[s.x0+d,s.x1+d,s.x0-d,s.x1-d]));rw[dN,QB]at h;exact h
def Ct(d:Int)(L:U dh)(es:U Int)(i:Nat):U cZ:=NT L (es.getD i 0) d
def Xj(d:Int)(L:U dh)(es:U Int)(S:U aV)(i:Nat):U cZ×Int×Int×List aj:=
 (if i=0 then []else Ct d L es (i-1),(((bJ (S.take i)).length-(if i=0 then 0 else(Ct d L es (i-1)).length):Nat):Int),(i+1:Nat),bJ (S.take i))
theorem Ti{d:Int}(hd:0<=d/\d<=1048576){L:U dh}(hx:∀s∈L,0<=s.x0/\s.x0<s.x1/\s.x1<=1048576){F:U Int}(hF:F.length<=200)(hc:∀s∈L,NS F s.column)(hl:L.length<=200)(hn:1000<n):
 iter (rQ n d L ((),gd d L)) n (([]:U cZ),(0:Int),(1:Int),([]:U aj))=some (bJ (og d L)):=by
 have he:=ap0 d L;obtain⟨p1,p2⟩:=pO (λ a b=>(⟨a,b,cSS (NT L a d)⟩:aV)) (gd d L);have hS:(og d L).length=(gd d L).length-1:=p1;have wl:∀x,(NT L x d).length<=200:=λx=>by have:=Zw (amh hc x d);omega
 have xr:∀z∈gd d L,-1048576<=z/\z<=3000000:=by intro z hz;have⟨s,hs,h⟩:=QA.1 hz;have:=hx s hs;omega
 have sc:∀s∈og d L,s.column.length<=200:=by intro s hs;obtain⟨i,hi,rfl⟩:=mem_iff_getElem.1 hs;have:=p2 i (by omega) hi;unfold og;rw[this,NW];exact wl _
 have bl:∀i,(bJ ((og d L).take i)).length<=800*200:=by
  intro i;have h1:=MZ ((og d L).take i) 200 λs hs=>sc s (List.mem_of_mem_take hs);have h2:((og d L).take i).length<=800:=by rw[length_take];omega
  exact Nat.le_trans h1 (Nat.mul_le_mul_right _ h2)
 by_cases hE:(gd d L).length=0;have s0:og d L=[]:=List.length_eq_zero_iff.1 (by omega);have x0:gd d L=[]:=List.length_eq_zero_iff.1 hE;obtain⟨n,rfl⟩:∃m,n=m+1:=⟨n-1,by omega⟩;refine iD ?_;rw[s0,x0];simp[rQ,bJ,sub];have main:=jg (step:=rQ n d L ((),gd d L)) (Xj d L (gd d L) (og d L)) (og d L).length (bJ (og d L)) (λ i hi=>?_) ?_ n (by omega);simpa[Xj,bJ]using main;have hi2:i+1<(gd d L).length:=by omega
 have hi1:i<(gd d L).length:=by omega
 have gD:(gd d L).getD i 0=(gd d L)[i]:=by simp[hi1]
 have hs:(og d L)[i]=⟨(gd d L)[i],(gd d L)[i+1],cSS (Ct d L (gd d L) i)⟩:=by unfold Ct;rw[gD];exact p2 i hi2 hi
 have w:i64.wrap (((i+1:Nat):Int)-1)=(i:Int):=by rw[kY (by omega) (by omega)];rfl
 have wn:ED n L (gd d L)[i] d=some (Ct d L (gd d L) i):=by unfold Ct;rw[gD];exact aeH (F:=F) (by omega) (xr _ (getElem_mem hi1)) hd L hc hn (by omega)
 have wi:(Ct d L (gd d L) i).length<=200:=wl _;have tk:(og d L).take (i+1)=(og d L).take i++[(⟨(gd d L)[i],(gd d L)[i+1],cSS (Ct d L (gd d L) i)⟩:aV)]:=by rw[fU hi,hs]
 have bi:=bl i;have w2:i64.wrap (((i+1:Nat):Int)+1)=((i+1+1:Nat):Int):=aX (by omega);have d1:decide (((i+1:Nat):Int)<((((gd d L)).length:Nat):Int))=true:=bV hi2;have s4:=Tg (n:=n) (gd d L) i hi2 (by omega) (bJ ((og d L).take i)) (Ct d L (gd d L) i) (by omega) (by omega);unfold Xj;simp only[rQ,fG,d1,ak,w,bB hi1,ai,wn,w2,aO,s4];generalize hW:Ct d L (gd d L) i=W at*;by_cases h0:i=0;have g1:decide (((i+1:Nat):Int)>1)=false:=by rw[dQ];omega
 have tz:List.take i (og d L)=[]:=by rw[h0];rfl
 have wz:bJ (List.take i (og d L))=[]:=by rw[tz];rfl
 have w1:bJ (List.take (i+1) (og d L))=aD (gd d L)[i] (gd d L)[i+1] (cSS W):=by rw[tk,tz];rfl
 simp only[g1,ay,ai,wz,fO,w1,hW,Nat.add_sub_cancel,Nat.add_one_ne_zero,if_false,bR,NW,Nat.sub_self,length_nil];have g1:decide (((i+1:Nat):Int)>1)=true:=by simp;omega
 simp only[g1,ak,aC h0,Nat.add_one_ne_zero,if_false,Nat.add_sub_cancel,hW];have hi0:i-1<(og d L).length:=by omega
 have hq:=p2 (i-1) (by omega) hi0;have gD0:(gd d L).getD (i-1) 0=(gd d L)[i-1]:=by simp[show i-1<(gd d L).length by omega]
 have e0:(og d L).take i=(og d L).take (i-1)++[(⟨(gd d L)[i-1],(gd d L)[i-1+1],cSS (Ct d L (gd d L) (i-1))⟩:aV)]:=by have:=fU hi0;rw[show i-1+1=i by omega]at this;rw[this];congr 2;unfold Ct;rw[gD0];exact hq
 have wm:(Ct d L (gd d L) (i-1)).length<=200:=wl _;generalize Ct d L (gd d L) (i-1)=Θ at*;generalize (og d L).take (i-1)=S at e0;have H2:(og d L).take (i+1)=S++[(⟨(gd d L)[i-1],(gd d L)[i-1+1],cSS Θ⟩:aV),(⟨(gd d L)[i],(gd d L)[i+1],cSS W⟩:aV)]:=by rw[tk,e0,aP];rfl
 rw[Qz (by omega) (by omega)];simp only[ai];by_cases VM:W=Θ;subst VM;have⟨pre,x',w3,w4⟩:=Vh ⟨(gd d L)[i],(gd d L)[i+1],cSS W⟩ ⟨(gd d L)[i-1],(gd d L)[i-1+1],cSS W⟩ rfl S;have ww:bJ ((og d L).take i)=pre++aD x' (gd d L)[i-1+1] (cSS W):=by rw[e0,w3]
 have ym:bJ ((og d L).take (i+1))=pre++aD x' (gd d L)[i+1] (cSS W):=by rw[H2,w4]
 have lp:(bJ ((og d L).take i)).length=pre.length+W.length:=by rw[ww,bW,bR,NW]
 have lp2:(bJ ((og d L).take (i+1))).length=pre.length+W.length:=by rw[ym,bW,bR,NW]
 cases hz:decide ((W.length:Int)>0)with
 |true=>
  have s3:=Tf (n:=n) (gd d L) i hi2 (by omega) pre x' (gd d L)[i-1+1] (cSS W) (by rw[NW];omega) (by rw[NW];omega);have pl:(bJ ((og d L).take i)).length-W.length=pre.length:=by omega
  have pl2:(bJ ((og d L).take (i+1))).length-W.length=pre.length:=by omega
  simp only[ak,ai,decide_true,pl,pl2];rw[ww,s3,ym];simp only[ai];have le:bk (pre++aD x' (gd d L)[i-1+1] (cSS W)).length (pre++aD x' (gd d L)[i+1] (cSS W)).length=true:=by apply JH;rw[bW,bW,bR,bR]
  simp only[le,ak,ai]
 |false=>
  have hw0:W=[]:=List.length_eq_zero_iff.1 (by rw[dQ]at hz;omega);subst hw0;have r0:∀a b,aD a b (cSS [])=[]:=λ_ _=>rfl;simp[r0,append_nil]at*;rw[ym,<- ww];simp
 have dn:decide (W=Θ)=false:=by simpa using VM
 have wne:(⟨(gd d L)[i],(gd d L)[i+1],cSS W⟩:aV).column≠(⟨(gd d L)[i-1],(gd d L)[i-1+1],cSS Θ⟩:aV).column:=λe=>VM (arh e);have ym:bJ ((og d L).take (i+1))=bJ ((og d L).take i)++aD (gd d L)[i] (gd d L)[i+1] (cSS W):=by rw[H2,e0];exact Zv _ _ wne S
 have e1:(bif decide ((W.length:Int)>0)then some (decide (W=Θ))else some false:J Bool)=some false:=by rw[dn];cases decide ((W.length:Int)>0)<;>rfl
 rw[e1];simp[ym,bR,NW,Nat.add_sub_cancel];have d1:decide ((((og d L).length+1:Nat):Int)<((((gd d L)).length:Nat):Int))=false:=by rw[dQ];omega
 unfold Xj;simp only[rQ,fG,d1,ay,aO,ak,List.take_length]
theorem aeI{a:U aj}{d:Int}(ha:a.length<=900)(hn:10000<=n):Lu n a d=some (qI a d):=by
 unfold Lu Zc;rw[iJ (by omega) (by omega) (by omega)];simp only[ai,SC,qI];by_cases hv:(decide (0<=d)&&(decide (d<=1048576)&&br a))=true;have hv':(decide (d>=0)&&(decide (d<=1048576)&&br a))=true:=hv;rw[hv'];simp;simp at hv;obtain⟨h0,h1,hr⟩:=hv;have⟨vu,hro,_⟩:=NV hr;have hsl:JU a d=some (iq d a):=by unfold JU;rw[aM (by omega)];congr 1;have:=Zz (d:=d) ⟨h0,h1⟩ (EL (aL a)) vu.runs (λ s hs=>(vu.col s hs).2) [] (by simp);rw[hro]at this;rw[this];rfl
 have hx:∀s∈iq d a,0<=s.x0/\s.x0<s.x1/\s.x1<=1048576:=by intro s hs;obtain⟨t,ht,rfl⟩:=mem_map.1 hs;exact vu.xs t ht
 have hl:(iq d a).length<=200:=by unfold iq;rw[length_map];exact vu.len
 have s1:=Te (n:=n) (d:=d) ⟨h0,h1⟩ hx (by omega) (by omega);have l4:=QB d (iq d a);have s2:=Ti (n:=n) (d:=d) ⟨h0,h1⟩ hx (F:=((EL (aL a)).flatMap λs=>s.column.map (·.from_)).map (· +d)) (by rw[length_map];exact vu.ud) (ajt vu h0) hl (by omega);simp[hsl,s1];rw[lN (by omega) (by omega)];simp[dN];rw[ny (by rw[dN];omega) (by rw[dN];omega)];simp;have hE:iE (jP mT ((iq d a).flatMap λs=>[s.x0+d,s.x1+d,s.x0-d,s.x1-d]))=gd d (iq d a):=rfl;rw[hE,s2];simp;by_cases lv:(bJ (og d (iq d a))).length>200;have:decide ((((bJ (og d (iq d a))).length:Nat):Int)>200)=true:=by simp;omega
 rw[this,aM lv];rfl;have:decide ((((bJ (og d (iq d a))).length:Nat):Int)>200)=false:=by simp;omega
 rw[this,aC lv];rfl;have hv':(decide (d>=0)&&(decide (d<=1048576)&&br a))=false:=by simpa using hv
 rw[hv'];simp only[Bool.not_false,ak];rfl
theorem ap1{a:U aj}{d:Int}(h0:0<=d)(hr:br a=true):qz (og d (iq d a))/\∀x,Can (gP (og d (iq d a)) x)/\∀y,ea (gP (og d (iq d a)) x) y=true↔∀u v,x-d<=u->u<=x+d->y-d<=v->v<=y+d->aZ a u v=true:=by
 have⟨vu,hro,tw⟩:=NV hr;have hv:=(dS hr).1;have hS:=aov vu h0;have xs:=BZ ((iq d a).flatMap λs=>[s.x0+d,s.x1+d,s.x0-d,s.x1-d]);have sat:∀z,nV (iq d a) z=cSS (EP d (bA a z)):=λz=>by unfold iq;rw[Vj,tw]
 have win:∀x,Can (cSS (NT (iq d a) x d))/\∀y,ea (cSS (NT (iq d a) x d)) y=true↔∀z,x-d<=z->z<=x+d->ea (nV (iq d a) z) y=true:=λx=>amg hS h0;refine⟨zC _ _ xs,λx=>?_⟩;have e:gP (og d (iq d a)) x=cSS (NT (iq d a) x d):=by
  have ri:∀z y,ea (nV (iq d a) z) y=true->∃s∈iq d a,s.x0<=z/\z<s.x1:=by intro z y hz;by_cases hx:∃s∈iq d a,s.x0<=z/\z<s.x1;exact hx;rw[J9 (λ s hs=>by by_cases h1:z<s.x0;exact .inl h1;right;by_cases h2:z<s.x1;exact absurd ⟨s,hs,by omega,h2⟩ hx;omega)]at hz;simp[ea]at hz
  have rj:∀s∈iq d a,∀z,s.x0<=z->z<s.x1->nV (iq d a) z=nV (iq d a) s.x0:=by intro s hs z h1 h2;rw[sat,sat];obtain⟨t,ht,rfl⟩:=mem_map.1 hs;have⟨m1,m2⟩:=yA vu.runs t ht;rw[<- tw,<- tw,m2 z h1 h2];exact(congrArg (λ c=>cSS (EP d c)) (m2 t.x0 (Int.le_refl _) m1)).symm
  refine J6 (λ x=>cSS (NT (iq d a) x d)) (gd d (iq d a)) xs x (λ e he hex hc=>?_) (λ hall=>?_) (λ hall=>?_);refine ul (win e).1 (win x).1 λy=>?_;rw[dH,(win e).2,(win x).2];constructor;intro h z hz1 hz2;by_cases hz:z<=e+d;exact h z (by omega) hz;have hE:=h (e+d) (by omega) (Int.le_refl _);obtain⟨s,hs,g1,g2⟩:=ri _ _ hE;have:=hc (s.x1-d) (QA.2 ⟨s,hs,.inr (.inr (.inr rfl))⟩);rw[rj s hs z (by omega) (by omega),<- rj s hs (e+d) g1 g2];exact hE;intro h z hz1 hz2;by_cases hz:x-d<=z;exact h z hz (by omega);have hE:=h (x-d) (Int.le_refl _) (by omega);obtain⟨s,hs,g1,g2⟩:=ri _ _ hE;have:=hc (s.x0+d) (QA.2 ⟨s,hs,.inl rfl⟩);rw[rj s hs z (by omega) (by omega),<- rj s hs (x-d) g1 g2];exact hE;refine ul (win x).1 zA λy=>?_;rw[dH,(win x).2];constructor;intro h;obtain⟨s,hs,g1,g2⟩:=ri _ _ (h (x-d) (Int.le_refl _) (by omega));have:=hall (s.x1+d) (QA.2 ⟨s,hs,.inr (.inl rfl)⟩);omega;intro h;simp[ea]at h;refine ul (win x).1 zA λy=>?_;rw[dH,(win x).2];constructor;intro h;obtain⟨s,hs,g1,g2⟩:=ri _ _ (h (x+d) (by omega) (Int.le_refl _));have:=hall (s.x0-d) (QA.2 ⟨s,hs,.inr (.inr (.inl rfl))⟩);omega;intro h;simp[ea]at h
 rw[e];refine⟨(win x).1,λy=>?_⟩;rw[(win x).2];constructor;intro h u v h1 h2 h3 h4;have:=h u h1 h2;rw[sat,ak6 h0 (gL hv u).1]at this;rw[<- (gL hv u).2];exact this v h3 h4;intro h z h1 h2;rw[sat,ak6 h0 (gL hv z).1];intro v h3 h4;rw[(gL hv z).2];exact h z v h1 h2 h3 h4
theorem Ka{a r:U aj}{d:Int}(h:qI a d=(r,0)):br a=true/\0<=d/\br r=true/\∀x y,aZ r x y=true↔∀u v,x-d<=u->u<=x+d->y-d<=v->v<=y+d->aZ a u v=true:=by unfold qI at h;by_cases hv:(decide (0<=d)&&(decide (d<=1048576)&&br a))=true;rw[aM hv]at h;simp at hv;obtain⟨h0,h1,hr⟩:=hv;by_cases lv:(bJ (og d (iq d a))).length>200;rw[aM lv]at h;simp at h;rw[aC lv]at h;simp at h;subst h;have⟨q1,q2⟩:=ap1 h0 hr;have hv:=(dS hr).1;refine⟨hr,h0,Gv q1 (λ x=>(q2 x).1) (λ x y hxy=>?_) (by omega),λx y=>?_⟩;have:=((q2 x).2 y).1 hxy x y (by omega) (by omega) (by omega) (by omega);exact kV hv this;rw[Gu q1];exact(q2 x).2 y;rw[aC hv]at h;simp at h
theorem aju(p:Nat->Bool)(N:Nat):(p8 p (List.range N)=none->(List.range N).any p=false)/\(∀ i,p8 p (List.range N)=some i->(List.range N).any p=true):=by refine⟨λ h=>?_,λi h=>?_⟩;rw[<- rC,h];rfl;rw[<- rC,h];rfl
theorem Kb{W O:Type}{step:Int->J (Int⊕(W⊕O))}(N:Nat)(p:Nat->Bool)(w:W)(o:O)
 (h:∀i,i<N->step i=some (bif p i then .inr (.inr o)else .inl (i+1:Nat)))
 (hend:step N=some (.inr (.inl w))) (n:Nat) (hn:N<n):iter step n 0=some (bif (List.range N).any p then .inr o else .inl w):=by
 have:=qi (l:=List.range N) (step:=step) (λ i=>(i:Nat)) p w (λ _=>o) (λ i hi=>by rw[List.length_range]at hi;rw[List.getElem_range];exact h i hi) (by rw[List.length_range];exact hend) n (by rw[List.length_range];exact hn);rw[io]at this;rw[this];have⟨r1,r2⟩:=aju p N;cases hf:p8 p (List.range N)with
 |none=>rw[r1 hf];rfl
 |some i=>rw[r2 i hf];rfl
theorem Kc{p:U eZ}(hl:p.length<=1000)(hn:2000<=n):iter (rE n p (gV p)) n 0=some (bif (List.range p.length).any (Mm p)then .inr false else .inl ()):=by
 refine Kb p.length (Mm p) () false (λ i hi=>?_) ?_ n (by omega);have nz:((p.length:Int) !=0)=true:=by simp;intro h;rw[h]at hi;simp at hi
 have md:(i+1)%p.length<p.length:=Nat.mod_lt _ (by omega);have w:i64.wrap (i+1)=(i+1:Nat):=aX (by omega);have g1:ci (gV p) ((0:Nat)+(i:Nat))=some (jK p i):=by rw[bH (by rw[eU];exact hi),Ay]
 have g2:ci (gV p) ((0:Nat)+((i+1)%p.length:Nat))=some (jK p ((i+1)%p.length)):=by rw[bH (by rw[eU];exact md),Ay]
 obtain⟨r,hr1,hr2⟩:=NJ (n:=n) (qe p 0) (qe p i) (by omega);have g3:ci p 0=some (qe p 0):=by rw[apF (by omega),<- Xg]
 have g4:ci p (i:Nat)=some (qe p i):=by rw[bB hi,<- Xg]
 have dz:decide ((i:Int)>0)=decide (0<i):=by rw[dH];simp
 have pt:eZ.mk (jK p i).mf (jK p i).p4=qe p i:=rfl;simp only[rE,eU,bV hi,ak,bC hi,g1,g2,ai,nz,w,ac5,bC md,pt,Qo,oQ,uN,g3,g4,hr1,hr2,dz,Option.map_some];unfold Mm;generalize Xh (qe p i)=b1;generalize (((jK p i).mf==(jK p i).mA)==((jK p i).p4==(jK p i).vn))=b2;generalize (vq (jK p i)==vq (jK p ((i+1)%p.length)))=b3;generalize decide (0<i)=b4;generalize Xi (qe p 0) (qe p i)=b5;cases b1<;>cases b2<;>cases b3<;>cases b4<;>cases b5<;>rfl;simp[rE,eU]
theorem Ke{p:U eZ}(hl:p.length<=1000)(hn:2000<=n){i:Nat}(hi:i<p.length):
 iter (jy (gV p) (i:Nat)) n ((i+2:Nat))=some (bif (List.range p.length).any λk=>decide (i+2<=k)&&VK p i k then .inr (.inr (.inr false))else .inl ()):=by
 have st:∀k,k<p.length->jy (gV p) (i:Nat) (k:Nat)=some (bif VK p i k then .inr (.inr (.inr (.inr false)))else .inl (k+1:Nat)):=by
  intro k hk;have g1:ci (gV p) ((0:Nat)+(i:Nat))=some (jK p i):=by rw[bH (by rw[eU];exact hi),Ay]
  have g2:ci (gV p) ((0:Nat)+(k:Nat))=some (jK p k):=by rw[bH (by rw[eU];exact hk),Ay]
  have w:i64.wrap (i64.wrap ((i:Nat)+(p.length:Nat))-(k:Nat))=(i+p.length-k:Nat):=by rw[bT (x:=(i:Nat)+(p.length:Nat)),bT (by omega) (by omega)];omega
  have dz:decide (((i+p.length-k:Nat):Int)>1)=decide (i+p.length-k>1):=by rw[dH,bF,bF];omega
  simp only[jy,eU,bV hk,ak,bC hi,bC hk,g1,g2,ai,w,dz,EK,uN,Option.map_some,aW k];unfold VK;cases decide (i+p.length-k>1)<;>cases Sp (jK p i) (jK p k)<;>rfl
 have main:∀m k,k+m=p.length->∀f,m<f->iter (jy (gV p) (i:Nat)) f (k:Nat)=some (bif (List.range p.length).any λj=>decide (k<=j)&&VK p i j then .inr (.inr (.inr false))else .inl ()):=by
  intro m
  induction m with
  |zero=>
   intro k hk f hf;obtain⟨f,rfl⟩:∃g,f=g+1:=⟨f-1,by omega⟩;have:k=p.length:=(by omega);subst this;have e:((List.range p.length).any λj=>decide (p.length<=j)&&VK p i j)=false:=(by rw[Bool.eq_false_iff];intro h;rw[any_eq_true]at h;obtain⟨j,h1,h2⟩:=h;rw[List.mem_range]at h1;simp at h2;omega);rw[e];refine iD ?_;simp[jy,eU]
  |succ m ih=>
   intro k hk f hf;obtain⟨f,rfl⟩:∃g,f=g+1:=⟨f-1,by omega⟩;have hkl:k<p.length:=(by omega);have h1:=st k hkl;cases hb:VK p i k with
   |true=>
    rw[hb]at h1;have e:((List.range p.length).any λj=>decide (k<=j)&&VK p i j)=true:=(by rw[any_eq_true];exact⟨k,List.mem_range.2 hkl,by simp[hb]⟩);rw[e];exact iD h1
   |false=>
    rw[hb]at h1;rw[mM h1,ih (k+1) (by omega) f (by omega)];congr 2;rw[dH,any_eq_true,any_eq_true];constructor;rintro⟨j,j1,j2⟩;simp at j2;exact⟨j,j1,by simp;exact⟨by omega,j2.2⟩⟩;rintro⟨j,j1,j2⟩;simp at j2;refine⟨j,j1,?_⟩;simp;refine⟨?_,j2.2⟩;rcases Nat.lt_or_ge k j with h|h;omega;have:j=k:=(by omega);subst this;rw[hb]at j2;simp at j2
 by_cases h2:i+2<=p.length;exact main (p.length-(i+2)) (i+2) (by omega) n (by omega);obtain⟨n,rfl⟩:∃g,n=g+1:=⟨n-1,by omega⟩;have e:((List.range p.length).any λj=>decide (i+2<=j)&&VK p i j)=false:=by rw[Bool.eq_false_iff];intro h;rw[any_eq_true]at h;obtain⟨j,h1,h2⟩:=h;rw[List.mem_range]at h1;simp at h2;omega
 rw[e];have d:decide (((i+2:Nat):Int)<(p.length:Nat))=false:=by rw[dQ];omega
 refine iD ?_;simp only[jy,eU,d,ay]
theorem Kg{p:U eZ}(hl:p.length<=1000)(hn:2000<=n):iter (rF n (gV p)) n 0=some (bif (List.range p.length).any λi=>(List.range p.length).any λk=>decide (i+2<=k)&&VK p i k then .inr false else .inl ()):=by
 refine Kb p.length _ () false (λ i hi=>?_) ?_ n (by omega);have w2:i64.wrap (i+2)=(i+2:Nat):=by rw[bT (by omega) (by omega)];omega
 simp only[rF,eU,bV hi,ak,w2,Ke hl hn hi,aW i];cases (List.range p.length).any λk=>decide (i+2<=k)&&VK p i k<;>rfl;simp[rF,eU]
theorem Tj p (hn:2000<=n):xq n p=some (SK p):=by
 unfold xq SK;by_cases h4:p.length<4;have d1:decide ((p.length:Int)<4)=true:=by simp;omega
 have d2:decide (4<=p.length)=false:=by simp;omega
 rw[d1,d2];rfl;have d1:decide ((p.length:Int)<4)=false:=by simp;omega
 have d2:decide (4<=p.length)=true:=by simp;omega
 by_cases h60:p.length>60;have d3:decide ((p.length:Int)>60)=true:=by simp;omega
 have d4:decide (p.length<=60)=false:=by simp;omega
 rw[d1,d2,d3,d4];rfl;have d3:decide ((p.length:Int)>60)=false:=by simp;omega
 have d4:decide (p.length<=60)=true:=by simp;omega
 have g:ci (gV p) ((0:Nat)+0)=some (jK p 0):=by have:=bH (l:=gV p) (i:=0) (by rw[eU];omega);rw[Ay]at this;exact this
 have i0:cR 0 (gV p).length=true:=by have:=bC (i:=0) (n:=(gV p).length) (by rw[eU];omega);simpa using this
 rw[d1,d2,d3,d4];simp only[ay,ai,Cr (n:=n) (p:=p) (by omega) (by omega),Kc (n:=n) (p:=p) (by omega) hn,Bool.true_and];cases (List.range p.length).any (Mm p)with
 |true=>rfl
 |false=>
  simp only[ay,jO,Kg (n:=n) (p:=p) (by omega) hn];cases (List.range p.length).any λi=>(List.range p.length).any λk=>decide (i+2<=k)&&VK p i k with
  |true=>rfl
  |false=>
   simp only[ay,jO,i0,ak,g,ai,oQ];rfl
def Da(p:U eZ)(x:Int):U Int:=((gV p).filter λs=>!vq s&&(decide (min s.mf s.mA<=x)&&decide (x<max s.mf s.mA))).map (·.p4)
def Ho(x0 x1:Int):U Int->U aj
 |a::b::l=>⟨x0,a,x1,b⟩::Ho x0 x1 l
 |_=>[]
def oc(p:U eZ):U Int:=Bs (p.map (·.x))
def ZA(p:U eZ):U aj:=(gU (λ a b=>Ho a b (jP mT (Da p a))) (oc p)).flatten
def zF(p:U eZ):U aj×Int:=if SK p=true then(if (ZA p).length>200 then([],6)else(ZA p,0))else([],10)
theorem ajv{p:U eZ}(h:SK p=true):4<=p.length/\p.length<=60:=by unfold SK at h;simp at h;exact⟨h.1,h.2.1⟩
theorem Ia{p:U eZ}(hl:p.length<=1000)(hn:2000<=n):iter (mR p) n (0,[])=some (p.map (·.x)):=by
 have:=dG (l:=p) (step:=mR p) (λ i s=>(i,s)) (λ r s=>s++[r.x]) (λ s=>s) (λ i s=>s.length<=i)
  (λ i hi s hs=>?_) (λ s hs=>by simp[mR]) n (by omega) [] (aB _)
 rw[io]at this;rw[this];have gen:∀(ys:U eZ) s,ys.foldl (λ s r=>s++[r.x]) s=s++ys.map (·.x):=by
  intro ys
  induction ys with
  |nil=>intro s;simp
  |cons y ys ih=>intro s;rw[foldl_cons,ih];simp
 congr 1;simpa using gen p [];have ap:bP s.length s.length (sub ([(p[i]).x]:U Int) 0 1).length 1 8=true:=cK (n:=1) (by omega) (by simp[maxLen];omega);simp only[mR,bV hi,ak,bB hi,ai,ap,eH,aO];refine⟨?_,by simp;omega⟩;rw[aX (by omega)];rfl
theorem Ib{p:U eZ}(hl:p.length<=1000)(hn:2000<=n) es (i:Nat) (hi:i<es.length):iter (mU ((),es) (gV p) (i:Nat)) n (0,[])=some (Da p es[i]):=by
 have:=dG (l:=gV p) (step:=mU ((),es) (gV p) (i:Nat)) (λ i s=>(i,s)) (λ r s=>bif !vq r&&(decide (min r.mf r.mA<=es[i])&&decide (es[i] <max r.mf r.mA))then s++[r.p4]else s) (λ s=>s) (λ i s=>s.length<=i)
  (λ j hj s hs=>?_) (λ s hs=>by simp[mU]) n (by rw[eU];omega) [] (aB _)
 rw[io]at this;rw[this];have gen:∀(ys:U kg) s,ys.foldl (λ s r=>bif !vq r&&(decide (min r.mf r.mA<=es[i])&&decide (es[i] <max r.mf r.mA))then s++[r.p4]else s) s=s++(ys.filter λs=>!vq s&&(decide (min s.mf s.mA<=es[i])&&decide (es[i] <max s.mf s.mA))).map (·.p4):=by
  intro ys
  induction ys with
  |nil=>intro s;simp
  |cons y ys ih=>
   intro s;rw[foldl_cons,ih,List.filter_cons];cases !vq y&&(decide (min y.mf y.mA<=es[i])&&decide (es[i] <max y.mf y.mA))<;>simp
 congr 1;exact gen (gV p) [];rw[eU]at hj;have g:ci (gV p) ((0:Nat)+(j:Nat))=some (gV p)[j]:=bH (by rw[eU];exact hj);have ap:bP s.length s.length (sub ([((gV p)[j]'(by rw[eU];exact hj)).p4]:U Int) 0 1).length 1 8=true:=cK (n:=1) (by omega) (by simp[maxLen];omega);generalize hr:(gV p)[j]'(by rw[eU];exact hj)=r at*;simp only[mU,eU,bV hj,ak,bC hj,g,ai,oQ,bC hi,bH hi,uN,ap,eH,aO,aW j];cases vq r<;>cases decide (min r.mf r.mA<=es[i])<;>cases decide (es[i] <max r.mf r.mA)<;>refine⟨rfl,?_⟩<;>simp<;>omega
theorem adk(x0 x1:Int):∀l:U Int,(Ho x0 x1 l).length<=l.length
 |[]|[_]=>by simp[Ho]
 |a::b::l=>by have:=adk x0 x1 l;simp[Ho];omega
theorem Ic es (i:Nat) (hi:i+1<es.length) (he:es.length<=10000) (w2 r8:U Int) (hw:w2.length=r8.length) (hr:r8.length<=1000) aa (ho:aa.length<=10000000) (hn:2000<=n):
 iter (jR ((),es) (i:Nat) w2 r8) n (0,aa)=some (aa++Ho (es[i]'(by omega)) es[i+1] r8):=by
 have main:∀(m k:Nat) aa,k+m=r8.length->aa.length<=10000000+k->∀f,m<f->iter (jR ((),es) (i:Nat) w2 r8) f ((k:Nat),aa)=some (aa++Ho (es[i]'(by omega)) es[i+1] (r8.drop k)):=by
  intro m
  induction m using Nat.strongRecOn with
  |ind m ih=>
   intro k aa hk hko f hf;obtain⟨f,rfl⟩:∃g,f=g+1:=⟨f-1,by omega⟩;have w1:i64.wrap (k+1)=(k+1:Nat):=aX (by omega);have w3:i64.wrap (k+2)=(k+2:Nat):=(by rw[bT (by omega) (by omega)];omega);have w4:i64.wrap (i+1)=(i+1:Nat):=aX (by omega);by_cases h2:k+1<r8.length;have d:decide (((k+1:Nat):Int)<(w2.length:Nat))=true:=(by rw[hw];exact bV h2);have ap:bP aa.length aa.length (sub ([aj.mk (es[i]'(by omega)) (r8[k]'(by omega)) es[i+1] r8[k+1]]:U aj) 0 1).length 1 32=true:=cK (n:=1) (by omega) (by simp[maxLen];omega);have st:jR ((),es) (i:Nat) w2 r8 ((k:Nat),aa)=some (.inl ((k+2:Nat),aa++[aj.mk (es[i]'(by omega)) (r8[k]'(by omega)) es[i+1] r8[k+1]])):=(by simp only[jR,w1,w3,w4,d,ak,bC (show i<es.length by omega),bH (show i<es.length by omega),ai,bC (show k<w2.length by omega),bH (show k<r8.length by omega),bC hi,bH hi,bC (show k+1<w2.length by omega),bH h2,ap,eH,aO];rfl);have dr:r8.drop k=r8[k]::r8[k+1]::r8.drop (k+2):=(by rw[drop_eq_getElem_cons (by omega),drop_eq_getElem_cons h2]);rw[mM st,ih (m-2) (by omega) (k+2) _ (by omega) (by rw[bW,List.length_singleton];omega) f (by omega),dr];simp[Ho];have d:decide (((k+1:Nat):Int)<(w2.length:Nat))=false:=(by rw[hw,dQ];omega);have e:Ho (es[i]'(by omega)) es[i+1] (r8.drop k)=[]:=by
    have hl:(r8.drop k).length<=1:=by rw[length_drop];omega
    match r8.drop k,hl with
    |[],_|[_],_=>rfl
    |_::_::_,h=>simp at h
   rw[e,append_nil];refine iD ?_;simp only[jR,w1,d,ay,aO,ak]
 have:=main r8.length 0 aa (by omega) (by omega) n (by omega);rw[io,List.drop_zero]at this;exact this
theorem ap2 p:(oc p).length<=p.length:=by have h:=qf (jP mT (p.map (·.x)));rw[dN,length_map]at h;exact h
theorem ZB p x:(Da p x).length<=p.length:=by unfold Da;rw[length_map,<- eU p];exact length_filter_le _ _
theorem AL{α:Type}(b:Nat):∀l:U (List α),(∀ x∈l,x.length<=b)->l.flatten.length<=l.length*b
 |[],_=>by simp
 |x::l,h=>by have h1:=AL b l λy hy=>h y (bq _ hy);have h2:=h x mem_cons_self;rw[List.flatten_cons,bW,eu,Nat.add_mul];omega
theorem Ie{p:U eZ}(hl:p.length<=1000)(hn:2000<=n):
 iter (mV n ((),oc p) (gV p)) n (0,[])=some (ZA p):=by
 have hx:=ap2 p;obtain⟨p1,p2⟩:=pO (λ a b=>Ho a b (jP mT (Da p a))) (oc p)
 let C:=gU (λ a b=>Ho a b (jP mT (Da p a))) (oc p)
 have hC:C.length=(oc p).length-1:=p1;have cl:∀c∈C,c.length<=1000:=by intro c hc;obtain⟨i,hi,rfl⟩:=mem_iff_getElem.1 hc;have:=p2 i (by omega) hi;show(C[i]).length<=1000;rw[show C[i]=_ from this];have h1:=adk (oc p)[i] (oc p)[i+1] (jP mT (Da p (oc p)[i]));rw[dN]at h1;have h2:=ZB p (oc p)[i];omega
 have bl:∀i,((C.take i).flatten).length<=1000*1000:=by
  intro i;have h1:=AL 1000 (C.take i) λx hx=>cl x (List.mem_of_mem_take hx);have h2:(C.take i).length<=1000:=by rw[length_take];omega
  exact Nat.le_trans h1 (Nat.mul_le_mul_right _ h2)
 have main:=jg (step:=mV n ((),oc p) (gV p)) (λ i=>((i:Nat),(C.take i).flatten)) C.length (ZA p) (λ i hi=>?_) ?_ n (by omega);simpa using main;have hi2:i+1<(oc p).length:=by omega
 have hw:i64.wrap (((oc p).length:Nat)-1)=(C.length:Nat):=by rw[bT (by omega) (by omega)];omega
 have bi:=bl i;have cr:=ZB p (oc p)[i];have e:C.take (i+1)=C.take i++[Ho (oc p)[i] (oc p)[i+1] (jP mT (Da p (oc p)[i]))]:=by rw[fU hi];congr 2;exact p2 i hi2 hi
 simp only[mV,hw,bV hi,ak,length_nil,aO,Ib hl hn (oc p) i (by omega),ai];rw[lN (by omega) (by omega)];simp;rw[Ic (oc p) i hi2 (by omega) (Da p (oc p)[i]) (jP mT (Da p (oc p)[i])) (by rw[dN]) (by rw[dN];omega) _ (by omega) hn];simp[e,aW i];have hw:i64.wrap (((oc p).length:Nat)-1)=((oc p).length:Nat)-1:=bT (by omega) (by omega);have d:decide ((C.length:Int)<((oc p).length:Nat)-1)=false:=by rw[dQ];omega
 simp[mV,hw,d];rfl
theorem QC p (hn:2000<=n):vz n p=some (zF p):=by
 unfold vz zF;rw[Tj p hn];simp;cases hr:SK p with
 |false=>rfl
 |true=>
  have⟨_,hl⟩:=ajv hr;simp[Ia (n:=n) (p:=p) (by omega) hn];rw[lN (by rw[length_map];omega) (by rw[length_map];omega)];simp[dN];rw[ny (by rw[dN,length_map];omega) (by rw[dN,length_map];omega)];simp[Cr (n:=n) (p:=p) (by omega) (by omega)];have hE:iE (jP mT (p.map (·.x)))=oc p:=rfl;rw[hE,Ie (by omega) hn];simp;by_cases lv:(ZA p).length>200;have:decide ((((ZA p).length:Nat):Int)>200)=true:=by simp;omega
  rw[this,aM lv];rfl;have:decide ((((ZA p).length:Nat):Int)>200)=false:=by simp;omega
  rw[this,aC lv];rfl
theorem ag4 p:(zF p).1.length<=200:=by unfold zF;split;split;simp;simp;omega;simp
def ar3(a b:aj):Int:=bif(!cT a || !cT b)then -1 else max (max 0 (i64.wrap ((max a.x0 b.x0)-(min a.x1 b.x1)))) (i64.wrap ((max a.y0 b.y0)-(min a.y1 b.y1)))
theorem aow(a b:aj):RE a b=some (ar3 a b):=by unfold RE ar3;rw[j3,j3];simp only[ai];cases cT a<;>cases cT b<;>rfl
def aox:j6:=j6.mk 0 0 [] []
def dU(land:U j6)(id:Int):j6×Bool:=match land.find? λt=>t.id==id with
 |some t=>(t,true)
 |none=>(aox,false)
theorem ZC{α:Type}(p:α->Bool) l:(∃ (i:Nat) (h:i<l.length),p8 p l=some i/\l.find? p=some l[i])\/(p8 p l=none/\l.find? p=none):=by rcases Aj p l with ⟨i,hi,h1,h2,h3⟩|⟨h1,h2⟩;refine .inl ⟨i,hi,h1,?_⟩;rw[List.find?_eq_some_iff_getElem];exact⟨h2,i,hi,rfl,λj hj=>by simpa using h3 j hj⟩;refine .inr ⟨h1,?_⟩;rw[List.find?_eq_none];intro x hx;rw[h2 x hx];simp
def ar4(t:dX)(name:ByteArray):Int:=match t.rows.find? λe=>ByteArray.toList e.name==ByteArray.toList name with
 |some e=>e.n
 |none=>t.sY
theorem ZE{α:Type}(p:α->Bool) l:(∃ (i:Nat) (h:i<l.length),CU p l=i/\l.find? p=some l[i])\/(CU p l=-1/\l.find? p=none):=by rcases ZC p l with ⟨i,hi,h1,h2⟩|⟨h1,h2⟩;exact .inl ⟨i,hi,by simp[CU,h1],h2⟩;exact .inr ⟨by simp[CU,h1],h2⟩
def aoy:U ByteArray:=[⟨#[104,111,109,101]⟩,⟨#[115,104,111,112]⟩,⟨#[119,111,114,107]⟩,⟨#[112,97,114,107]⟩,⟨#[112,108,97,110,116]⟩,⟨#[104,97,108,108]⟩]
def nameOf(use:Int):J ByteArray:=ci aoy use
theorem ZF{Θ O:Type}{step:Θ->J (Θ⊕O)}(R:Nat->Θ->Prop)(N:Nat)(Q:O->Prop)(h:∀i v,i<N->R i v->∃v',step v=some (.inl v')/\R (i+1) v')(hN:∀v,R N v->∃o,step v=some (.inr o)/\Q o):
 ∀n,N<n->∀v,R 0 v->∃o,iter step n v=some o/\Q o:=by
 have main:∀k i n v,i+k=N->k<n->R i v->∃o,iter step n v=some o/\Q o:=by
  intro k
  induction k with
  |zero=>
   intro i n v hi hn hR;obtain⟨m,rfl⟩:∃m,n=m+1:=⟨n-1,by omega⟩;have:i=N:=(by omega);subst this;have⟨o,h1,h2⟩:=hN v hR;exact⟨o,iD h1,h2⟩
  |succ k ih=>
   intro i n v hi hn hR;obtain⟨m,rfl⟩:∃m,n=m+1:=⟨n-1,by omega⟩;obtain⟨v',h1,h2⟩:=h i v (by omega) hR;obtain⟨o,h3,h4⟩:=ih (i+1) m v' (by omega) (by omega) h2;exact⟨o,by rw[mM h1,h3],h4⟩
 intro n hn v hR;exact main N 0 n v (by omega) hn hR
def Db(z:gm):U aj:=if (zF z.corners).2=0 then(zF z.corners).1 else []
theorem ajw(z:gm):(Db z).length<=200:=by unfold Db;split;exact ag4 _;simp
theorem VN(z:gm)(hn:2000<=n):ze n z=some (Db z):=by
 unfold ze Db;rw[QC _ hn];simp;by_cases h:(zF z.corners).2=0;have:((zF z.corners).2 !=0)=false:=by simp[h]
 rw[this,aM h];rfl;have:((zF z.corners).2 !=0)=true:=by simp[h]
 rw[this,aC h];rfl
def dF(a b:aj):aj:=⟨max a.x0 b.x0,max a.y0 b.y0,min a.x1 b.x1,min a.y1 b.y1⟩
theorem QD(a:aj):zP a=some (bif cT a then(a,true)else(⟨0,0,0,0⟩,false)):=by unfold zP;rw[j3];simp[uN]
theorem AO(a b:aj):uD a b=some (bif cT a&&(cT b&&cT (dF a b))then(dF a b,true)else(⟨0,0,0,0⟩,false)):=by unfold uD;rw[j3,j3];simp only[ai,uN];rw[show aj.mk (max a.x0 b.x0) (max a.y0 b.y0) (min a.x1 b.x1) (min a.y1 b.y1)=dF a b from rfl,QD];simp only[ai];generalize cT (dF a b)=c;cases cT a<;>cases cT b<;>cases c<;>rfl
def AP(r:aj):Int:=i64.wrap (i64.wrap (r.x1-r.x0)*i64.wrap (r.y1-r.y0))
theorem zS{r:aj}(h:cT r=true):Ao r=some (AP r):=by unfold Ao;rw[QD,h];rfl
def LQ(x:aj)(n:Int)(y:aj):Int:=bif cT x&&(cT y&&cT (dF x y))then i64.wrap (n+AP (dF x y))else n
def Gz(a b:U aj):Int:=a.foldl (λ n x=>b.foldl (LQ x) n) 0
theorem ap3{α G:Type} c (a:α) (u v:G):(bif c then(a,u)else(a,v)).1=a:=by cases c<;>rfl
theorem Kh b (x:aj) (hb:b.length<=1000) (hn:2000<=n) (m u v:Int):∃o,iter (rG n b x) n (m,0,u,v)=some o/\o.1=b.foldl (LQ x) m:=by
 refine ZF (λ i (w:Int×Int×Int×Int)=>w.2.1=i/\w.1=(b.take i).foldl (LQ x) m) b.length (λ (o:Int×Int×Int)=>o.1=b.foldl (LQ x) m) (λ i w hi hR=>?_) (λ w hR=>?_) n (by omega) _ ⟨rfl,rfl⟩;obtain⟨w1,w2,w3,w4⟩:=w;obtain⟨h1,h2⟩:=hR;simp at h1 h2;subst h1;have e:(b.take (i+1)).foldl (LQ x) m=LQ x w1 b[i]:=by rw[fU hi,List.foldl_append,<- h2];rfl
 simp only[rG,bV hi,ak,bB hi,ai,AO];have e0:LQ x w1 b[i]=bif cT x&&(cT b[i]&&cT (dF x b[i]))then i64.wrap (w1+AP (dF x b[i]))else w1:=rfl;rw[e0]at e;cases hc:cT x&&(cT b[i]&&cT (dF x b[i]))with
 |false=>
  rw[hc]at e;simp only[ay,Bool.not_false,ak,ai];exact⟨_,rfl,aX (by omega),e.symm⟩
 |true=>
  rw[hc]at e;have hcc:cT (dF x b[i])=true:=by revert hc;generalize cT (dF x b[i])=c;cases c;cases cT x<;>cases cT b[i]<;>simp;simp
  simp only[ak,Bool.not_true,ay,zS hcc,ai,jA];rw[show ∀u v:Int,sub [u,v] 0 2=[u,v]from λ_ _=>rfl,Zi _ _ (by omega)];simp only[ai,uN];simp only[show ∀u v:Int,bk [u,v].length 2=true from λ_ _=>rfl,ak,ai];refine⟨_,rfl,aW i,?_⟩;rw[e];exact ap3 _ _ _ _
 obtain⟨w1,w2,w3,w4⟩:=w;obtain⟨h1,h2⟩:=hR;simp only at h1 h2;subst h1;simp only[rG,Qn,ay];exact⟨_,rfl,by rw[h2,List.take_length]⟩
theorem Tk(a b:U aj)(ha:a.length<=1000)(hb:b.length<=1000)(hn:2000<=n):∃q,xu n a b=some (Gz a b,q):=by
 unfold xu;obtain⟨o,h1,h2⟩:=ZF (step:=rH n a b) (λ i (w:Int×Int×Int×Int)=>w.2.1=i/\w.1=(a.take i).foldl (λ n x=>b.foldl (LQ x) n) 0) a.length (λ (o:Int×Int×Int)=>o.1=Gz a b) (λ i w hi hR=>by obtain⟨w1,w2,w3,w4⟩:=w;obtain⟨h1,h2⟩:=hR;simp at h1 h2;subst h1;have⟨o,g1,g2⟩:=Kh (n:=n) b a[i] hb hn w1 w3 w4;obtain⟨o1,o2,o3⟩:=o;simp only[rH,bV hi,ak,bB hi,ai,g1];refine⟨_,rfl,aX (by omega),?_⟩;simp at g2;rw[fU hi,List.foldl_append,<- h2,g2];rfl) (λ w hR=>by obtain⟨w1,w2,w3,w4⟩:=w;obtain⟨h1,h2⟩:=hR;simp only at h1 h2;subst h1;simp only[rH,Qn,ay];exact⟨_,rfl,by rw[h2,List.take_length];rfl⟩) n (by omega) (0,0,1048576,0) ⟨rfl,rfl⟩;obtain⟨o1,o2,o3⟩:=o;simp at h2;subst h2;exact⟨_,by rw[h1];rfl⟩
def zG(zs:U gm)(area:U aj):U Int:=bif br area then zs.map λz=>Gz area (Db z)else []
theorem Tm(p:dJ) a (hz:p.zones.length<=100) (ha:a.length<=900) (hn:2000<=n):xw n p a=some (zG p.zones a):=by
 unfold xw zG;rw[iJ (by omega) (by omega) (by omega)];simp;cases br a with
 |false=>rfl
 |true=>
  have:=dG (l:=p.zones) (step:=rJ n p a) (λ i s=>(i,s)) (λ z s=>s++[Gz a (Db z)]) (λ s=>s) (λ i s=>s.length<=i)
   (λ i hi s hs=>?_) (λ s hs=>by simp[rJ]) n (by omega) [] (aB _)
  rw[io]at this;simp only[ak,this];congr 1;have gen:∀(ys:U gm) s,ys.foldl (λ s z=>s++[Gz a (Db z)]) s=s++ys.map λz=>Gz a (Db z):=by
   intro ys
   induction ys with
   |nil=>intro s;simp
   |cons y ys ih=>intro s;rw[foldl_cons,ih];simp
  exact gen p.zones [];have cl:=ajw p.zones[i];obtain⟨q,hq⟩:=Tk (n:=n) a (Db p.zones[i]) (by omega) (by omega) hn;have ap:bP s.length s.length (sub ([Gz a (Db p.zones[i])]:U Int) 0 1).length 1 8=true:=cK (n:=1) (by omega) (by simp[maxLen];omega);simp only[rJ,bV hi,ak,bB hi,ai,VN _ hn,fG,aO,hq,ap,eH];refine⟨?_,by simp;omega⟩;rw[aX (by omega)];rfl
theorem Vk zs a:(zG zs a).length<=zs.length:=by unfold zG;cases br a<;>simp
def yU(zs:U gm)(l:U Int)(m:Nat):Int:=(List.range m).foldl (λ b i=>if (!((zs.getD i ⟨⟨#[]⟩,false,[]⟩).overlay)&&(decide (l.getD i 0>0)&&(decide (b<0) || decide (l.getD i 0>l.getD b.toNat 0))))=true then i else b) (-1)
def GA(zs:U gm)(l:U Int)(i:Nat):Bool:=decide (i=yU zs l l.length) || ((zs.getD i ⟨⟨#[]⟩,false,[]⟩).overlay&&decide (l.getD i 0>0))
def wj(zs:U gm)(area:U aj):U ByteArray:=((List.range (zG zs area).length).filter (GA zs (zG zs area))).map λi=>(zs.getD i ⟨⟨#[]⟩,false,[]⟩).name
theorem Vl zs l:∀m,yU zs l m=-1\/∃k:Nat,k<m/\yU zs l m=k
 | 0=>.inl rfl
 |m+1=>by have ih:=Vl zs l m;unfold yU;rw[List.range_succ,List.foldl_append];simp only[foldl_cons,List.foldl_nil];split;exact .inr ⟨m,by omega,rfl⟩;rcases ih with h|⟨k,h1,h2⟩;exact .inl h;exact .inr ⟨k,by omega,h2⟩
theorem Ki{α:Type}{l:U α}{i:Nat}(d:α)(h:i<l.length):l.getD i d=l[i]:=by simp[h]
theorem Tn(p:dJ) l (hl:l.length<=p.zones.length) (hz:p.zones.length<=100) (hn:2000<=n):iter (rM p l) n ((-1),0)=some (yU p.zones l l.length):=by
 have main:=jg (step:=rM p l) (λ i=>(yU p.zones l i,(i:Nat))) l.length (yU p.zones l l.length) (λ i hi=>?_) (by simp[rM]) n (by omega);exact main;have hz':i<p.zones.length:=by omega
 have e:yU p.zones l (i+1)=if (!(p.zones[i]).overlay&&(decide (l[i]>0)&&(decide (yU p.zones l i<0) || decide (l[i]>l.getD (yU p.zones l i).toNat 0))))=true then(i:Int)else yU p.zones l i:=by
  conv=>lhs;unfold yU
  rw[List.range_succ,List.foldl_append];simp only[foldl_cons,List.foldl_nil,Ki _ hz',Ki _ hi];rfl
 rw[e];rcases Vl p.zones l i with h|⟨k,h1,h2⟩;rw[h];have d:decide (-1<0)=true:=rfl;simp only[rM,bV hi,ak,bC hi,bH hi,ai,bB hz',d,uN,Bool.true_or,Bool.and_true,aW i];cases (p.zones[i]).overlay<;>cases decide (l[i]>0)<;>rfl;rw[h2];have d:decide ((k:Nat)<0)=false:=by simp
 have hk:k<l.length:=by omega
 simp only[rM,bV hi,ak,bC hi,bH hi,ai,bB hz',uN,bC hk,bH hk,Int.toNat_natCast,Ki _ hk,aW i];cases (p.zones[i]).overlay<;>cases decide (l[i]>0)<;>cases decide (l[i]>l[k])<;>rfl
theorem QE(p:dJ) a (hz:p.zones.length<=100) (ha:a.length<=900) (hn:2000<=n):zQ n p a=some (wj p.zones a):=by
 unfold zQ;have sl:=Vk p.zones a;rw[Tm p a hz ha hn];simp;rw[Tn p _ sl hz hn];simp;unfold wj;generalize hL:zG p.zones a=l at*
 have:=dG (l:=List.range l.length) (step:=zf p l (yU p.zones l l.length)) (λ i s=>(i,s)) (λ i s=>bif GA p.zones l i then s++[(p.zones.getD i ⟨⟨#[]⟩,false,[]⟩).name]else s) (λ s=>s) (λ i s=>s.length<=i)
  (λ i hi s hs=>?_) (λ s hs=>by rw[List.length_range];simp[zf]) n (by rw[List.length_range];omega) [] (aB _)
 rw[io]at this;simp[this];congr 1;have gen:∀(ys:U Nat) s,ys.foldl (λ s i=>bif GA p.zones l i then s++[(p.zones.getD i ⟨⟨#[]⟩,false,[]⟩).name]else s) s=s++(ys.filter (GA p.zones l)).map λi=>(p.zones.getD i ⟨⟨#[]⟩,false,[]⟩).name:=by
  intro ys
  induction ys with
  |nil=>intro s;simp
  |cons y ys ih=>
   intro s;rw[foldl_cons,ih,List.filter_cons];cases GA p.zones l y<;>simp
 exact gen (List.range l.length) [];rw[List.length_range]at hi;have hz':i<p.zones.length:=by omega
 rw[List.getElem_range];have ap:bP s.length s.length (sub ([(p.zones[i]).name]:U ByteArray) 0 1).length 1 16=true:=cK (n:=1) (by omega) (by simp[maxLen];omega);have hb:((i:Nat)==yU p.zones l l.length)=decide ((i:Nat)=yU p.zones l l.length):=by rw[dH];simp
 simp only[zf,bV hi,ak,bC hi,bH hi,ai,bB hz',hb,uN,ap,eH,aO,GA,Ki _ hz',Ki _ hi,aW i];cases decide ((i:Nat)=yU p.zones l l.length)<;>cases (p.zones[i]).overlay<;>cases decide (l[i]>0)<;>refine⟨rfl,?_⟩<;>simp<;>omega
theorem ak7 zs a:(wj zs a).length<=zs.length:=by unfold wj;rw[length_map];have h1:=length_filter_le (GA zs (zG zs a)) (List.range (zG zs a).length);rw[List.length_range]at h1;have:=Vk zs a;omega
def fp(a b:ByteArray):Bool:=ByteArray.toList a==ByteArray.toList b
theorem wD{l:U ByteArray}{a:ByteArray}(hl:l.length<1099511627776)(hn:l.length<n):gu n l a=some (l.any (fp a)):=by
 unfold gu;have e:tL n l a=aem n (λ x=>ByteArray.toList a==ByteArray.toList x) l:=by kernel_rfl
 rw[e,U2 hl hn,ai,yZ];rfl
theorem rY{l:U ByteArray}{Z:(ByteArray×Unit)->J Bool}(p:ByteArray->Bool)(h:∀x∈l,Z (x,())=some (p x))(hl:l.length<1099511627776)(hn:l.length<n):gG n l Z=some (l.any p):=by
 unfold gG;have e:sD n l Z=xR n l Z:=by kernel_rfl
 rw[e,jc p h hl hn,ai,yZ]
def Xk(r:bO)(zs:U ByteArray):Bool:=(decide (r.zones=[]) || r.zones.any λz=>zs.any (fp z))&&!(r.except.any λz=>zs.any (fp z))
theorem Tp(r:bO) zs (h1:r.zones.length<=100) (h2:r.except.length<=100) (h3:zs.length<=100) (hn:2000<=n):sP n r zs=some (Xk r zs):=by
 have hf:∀x:ByteArray,lg n x zs=some (zs.any (fp x)):=λx=>by unfold lg;rw[wD (by omega) (by omega)];rfl
 unfold sP Xk;rw[rY (λ z=>zs.any (fp z)) (λ x _=>hf x) (by omega) (by omega),rY (λ z=>zs.any (fp z)) (λ x _=>hf x) (by omega) (by omega)];simp;have e:((r.zones.length:Int)==0)=decide (r.zones=[]):=by rw[dH,beq_iff_eq,bF];constructor;intro h;exact List.length_eq_zero_iff.1 (by omega);intro h;rw[h];rfl
 rw[e];cases decide (r.zones=[])<;>cases (r.zones.any λz=>zs.any (fp z))<;>cases (r.except.any λz=>zs.any (fp z))<;>rfl
def ku(zs:U ByteArray)(day:Int)(r:bO):Bool:=decide (r.from_<=day)&&((r.k7==0 || decide (day<r.k7))&&Xk r zs)
def Dc(rules:U bO)(zs:U ByteArray)(day:Int):U Nat:=(List.range rules.length).filter λi=>(rules[i]?).any (ku zs day)
abbrev ajx(r:bO):Prop:=r.zones.length<=100/\r.except.length<=100
theorem Hq(p:dJ) zs day (hr:∀r∈p.rules,ajx r) (hl:p.rules.length<=100) (h3:zs.length<=100) (hn:2000<=n):rO n p zs day=some ((Dc p.rules zs day).map λ(i:Nat)=>(i:Int)):=by
 unfold rO Dc
 have:=dG (l:=List.range p.rules.length) (step:=tN n p zs day) (λ i s=>(i,s)) (λ i s=>bif(p.rules[i]?).any (ku zs day)then s++[(i:Int)]else s) (λ s=>s) (λ i s=>s.length<=i)
  (λ i hi s hs=>?_) (λ s hs=>by rw[List.length_range];simp[tN]) n (by rw[List.length_range];omega) [] (aB _)
 rw[io]at this;simp[this];congr 1;have gen:∀(ys:U Nat) s,ys.foldl (λ s (i:Nat)=>bif(p.rules[i]?).any (ku zs day)then s++[(i:Int)]else s) s=s++(ys.filter λi=>(p.rules[i]?).any (ku zs day)).map λ(i:Nat)=>(i:Int):=by
  intro ys
  induction ys with
  |nil=>intro s;simp
  |cons y ys ih=>
   intro s;rw[foldl_cons,ih,List.filter_cons];cases (p.rules[y]?).any (ku zs day)<;>simp
 exact gen (List.range p.rules.length) [];rw[List.length_range]at hi;rw[List.getElem_range];obtain⟨o1,o2⟩:=hr _ (getElem_mem hi);have ap:bP s.length s.length (sub ([(i:Nat)]:U Int) 0 1).length 1 8=true:=cK (n:=1) (by omega) (by simp[maxLen];omega);have eg:(p.rules[i]?).any (ku zs day)=ku zs day p.rules[i]:=by rw[dY hi];rfl
 rw[eg];simp only[tN,bV hi,ak,bB hi,ai,Tp _ zs o1 o2 h3 hn,uN,ap,eH,aO,ku,aW i];cases decide ((p.rules[i]).from_<=day)<;>cases (p.rules[i]).k7==0<;>cases decide (day<(p.rules[i]).k7)<;>cases Xk p.rules[i] zs<;>refine⟨rfl,?_⟩<;>simp<;>omega
def GD(p:bU):Bool:=decide (0<=p.side/\p.side<=3)&&(decide (0<=p.base/\p.base<=4096)&&(decide (0<=p.num/\p.num<=4096)&&decide (1<=p.den/\p.den<=4096)))
theorem Kj(p:bU):GD p=true↔(0<=p.side/\p.side<=3)/\(0<=p.base/\p.base<=4096)/\(0<=p.num/\p.num<=4096)/\(1<=p.den/\p.den<=4096):=by simp[GD]
theorem Hr(a b c:Int):mY a b c=some (decide (b<=a/\a<=c)):=by
 unfold mY;by_cases h1:b<=a;have d:decide (b<=a)=true:=by simpa using h1
 rw[d,ak];congr 1;rw[dH];simp[h1];have d:decide (b<=a)=false:=by simpa using h1
 rw[d,ay];congr 1;rw[dH];simp[h1]
theorem ZG(p:bU):Cc p=some (GD p):=by unfold Cc GD;simp only[Hr,ai,uN];generalize decide (0<=p.side/\p.side<=3)=a;generalize decide (0<=p.base/\p.base<=4096)=b;generalize decide (0<=p.num/\p.num<=4096)=c;cases a<;>cases b<;>cases c<;>rfl
theorem Df{l:U bU}{Z:(bU×Unit)->J Bool}(p:bU->Bool)(h:∀x∈l,Z (x,())=some (p x))(hl:l.length<1099511627776)(hn:l.length<n):lW n l Z=some (l.any p):=by
 unfold lW;have e:ug n l Z=xR n l Z:=by kernel_rfl
 rw[e,jc p h hl hn,ai,yZ]
def qJ(b:aj)(l:U bU):Bool:=cT b&&!(l.any λp=>!GD p)
theorem Kk(b:aj) l (hl:l.length<=1000) (hn:2000<=n):xX n b l=some (qJ b l):=by unfold xX qJ;rw[j3,Df (λ p=>!GD p) (λ p _=>by show vH p=_;unfold vH;rw[ZG];rfl) (by omega) (by omega)];simp only[ai,uN];cases cT b<;>rfl
theorem ajy{a n:Int}(hn:0<n):(if Int.tmod a n<0 then Int.tdiv a n-1 else Int.tdiv a n)=a/n:=by
 have h1:=Int.mul_ediv_add_emod a n;have h2:=Int.emod_nonneg a (by omega:n≠0);have h3:=Int.emod_lt_of_pos a hn;rcases Int.le_total 0 a with h|h;have e1:Int.tmod a n=a%n:=Int.tmod_eq_emod_of_nonneg h;have e2:Int.tdiv a n=a/n:=Int.tdiv_eq_ediv_of_nonneg h;rw[e1,e2,aC (by omega)];obtain⟨b,rfl⟩:∃b,a=-b:=⟨-a,by omega⟩;have hb:0<=b:=by omega
 have e1:Int.tmod (-b) n=-(b%n):=by rw[Int.neg_tmod,Int.tmod_eq_emod_of_nonneg hb]
 have e2:Int.tdiv (-b) n=-(b/n):=by rw[Int.neg_tdiv,Int.tdiv_eq_ediv_of_nonneg hb]
 have g1:=Int.mul_ediv_add_emod b n;have g2:=Int.emod_nonneg b (by omega:n≠0);have g3:=Int.emod_lt_of_pos b hn;rw[e1,e2];by_cases hm:b%n=0;rw[aC (by omega)];have:(-b)/n=-(b/n):=by refine(Int.ediv_eq_iff_of_pos hn).2 ?_;constructor;rw[Int.neg_mul,Int.mul_comm (b/n)];omega;rw[Int.neg_mul,Int.mul_comm (b/n)];omega
 omega;rw[aM (by omega)];have:(-b)/n=-(b/n)-1:=by refine(Int.ediv_eq_iff_of_pos hn).2 ?_;constructor;rw[Int.sub_mul,Int.neg_mul,Int.mul_comm (b/n)];omega;rw[Int.sub_mul,Int.neg_mul,Int.mul_comm (b/n)];omega
 omega
theorem Cu{a n:Int}(hn:0<n)(ha: -4611686018427387904<=a/\a<=4611686018427387904):qU a n=some (a/n):=by
 have nz:(n !=0)=true:=by simp;omega
 have hb: -4611686018427387904<=a/n/\a/n<=4611686018427387904:=by
  constructor;rw[Int.le_ediv_iff_mul_le hn];have: -4611686018427387904*n<=-4611686018427387904:=by omega
  omega;rcases Int.le_total 0 a with h|h;have:=Int.ediv_le_self n h;omega;have:a/n<=0:=by have:=(Int.ediv_lt_iff_lt_mul (a:=a) (b:=1) hn).2 (by omega);omega
  omega
 have hf:=ajy (a:=a) hn;have ht: -4611686018427387904<=Int.tdiv a n/\Int.tdiv a n<=4611686018427387905:=by split at hf<;>omega
 unfold qU;simp[nz];rw[bT (x:=Int.tdiv a n),bT (x:=Int.tdiv a n-1),<- hf];by_cases h:Int.tmod a n<0;have d:decide (Int.tmod a n<0)=true:=by simpa using h
 rw[d,aM h];rfl;have d:decide (Int.tmod a n<0)=false:=by simpa using h
 rw[d,aC h];rfl
def uH(b:aj)(side x y:Int):Int:=if side=0 then x-b.x0 else if side=1 then b.x1-1-x else if side=2 then y-b.y0 else b.y1-1-y
def Tq(b:aj)(p:bU)(x y:Int):Int:=p.base+p.num*uH b p.side x y/p.den
def QF(b:aj)(l:U bU)(x y:Int):Int:=l.foldl (λ h p=>min h (Tq b p x y)) 4096
abbrev yl(x y:Int):Prop:=(0<=x/\x<1048576)/\(0<=y/\y<1048576)
theorem ag5{b:aj}(hb:cT b=true){x y:Int}(h:yl x y) side: -1048576<=uH b side x y/\uH b side x y<=1048576:=by simp at hb;obtain⟨h1,h2⟩:=h;unfold uH;split;omega;split;omega;split<;>omega
theorem adl{a d:Int}(ha:0<=a/\a<=4096)(hd: -1048576<=d/\d<=1048576): -4294967296<=a*d/\a*d<=4294967296:=by have h1:a*d<=a*1048576:=Int.mul_le_mul_of_nonneg_left hd.2 ha.1;have h2:a*(-1048576)<=a*d:=Int.mul_le_mul_of_nonneg_left hd.1 ha.1;omega
theorem adm{a n:Int}(hn:0<n)(ha: -4294967296<=a/\a<=4294967296): -4294967296<=a/n/\a/n<=4294967296:=by constructor;rw[Int.le_ediv_iff_mul_le hn];omega;rcases Int.le_total 0 a with h|h;have:=Int.ediv_le_self n h;omega;have:=(Int.ediv_lt_iff_lt_mul (a:=a) (b:=1) hn).2 (by omega);omega
theorem aeJ{b:aj}{l:U bU}{x y:Int}(hb:cT b=true)(hp:∀p∈l,GD p=true)(h:yl x y)(hl:l.length<=1000)(hn:2000<=n):LB n b l x y=some (QF b l x y):=by
 unfold LB yL;have hr:=hb;simp at hr;obtain⟨h1,h2⟩:=h;rw[bT (x:=x-b.x0),bT (x:=b.x1-1),bT (x:=b.x1-1-x),bT (x:=y-b.y0),bT (x:=b.y1-1),bT (x:=b.y1-1-y)];simp;have:=kZ (l:=l) (step:=zw b l x y ⟨x-b.x0,b.x1-1-x,y-b.y0,b.y1-1-y⟩) (λ i s=>(s,(i:Nat))) (λ p s=>min s (Tq b p x y)) (λ s=>s) (λ i hi s=>?_) (λ s=>by simp[zw]) n (by omega) 4096;rw[io]at this;rw[this];rfl;obtain⟨s1,s2,s3,s4⟩:=(Kj _).1 (hp _ (getElem_mem hi));have ib:cR (l[i]).side 4=true:=by simp[cR];omega
 have g:ci ([x-b.x0,b.x1-1-x,y-b.y0,b.y1-1-y]:U Int) (l[i]).side=some (uH b (l[i]).side x y):=by
  have hs:(l[i]).side=0\/(l[i]).side=1\/(l[i]).side=2\/(l[i]).side=3:=by omega
  rcases hs with e|e|e|e<;>rw[e]<;>simp[ci,uH]
 have db:=ag5 hb ⟨h1,h2⟩ (l[i]).side;have mb:=adl s3 db;have dv:=adm (n:=(l[i]).den) (by omega) mb;simp only[zw,bV hi,ak,bB hi,ai,ib,g];rw[bT (x:=(l[i]).num*uH b (l[i]).side x y),Cu (by omega) (by omega)];simp only[ai];rw[bT (x:=(l[i]).base+_),aX (by omega)];rfl
def X1(b:aj)(l:U bU)(x y:Int):Int:=if qJ b l=true/\yl x y then max 0 (QF b l x y)else -1
theorem uI(b:aj) l:qJ b l=true↔cT b=true/\∀p∈l,GD p=true:=by unfold qJ;rw[aY,Bool.not_eq_true',List.any_eq_false];simp
def asks(b:aj)(z:Int)(p:bU)(x y:Int):Prop:=(z-p.base)*p.den<=p.num*uH b p.side x y
theorem ZH{b:aj}{z:Int}{p:bU}(hp:GD p=true)(x y:Int):asks b z p x y↔z<=Tq b p x y:=by obtain⟨s1,s2,s3,s4⟩:=(Kj _).1 hp;unfold asks Tq;have:=Int.le_ediv_iff_mul_le (a:=z-p.base) (b:=p.num*uH b p.side x y) (c:=p.den) (by omega);rw[<- this];omega
theorem ap4{k d n m:Int}(hn:0<n):(k*m<=n*d)↔-((-k)*m/n)<=d:=by have:=Int.le_ediv_iff_mul_le (a:=-d) (b:=(-k)*m) (c:=n) hn;rw[show (-((-k)*m/n)<=d)↔-d<=(-k)*m/n by omega,this,Int.neg_mul,Int.neg_mul,Int.mul_comm d n];omega
abbrev As:=Int×Int×Int×Int
def M5(s:As):aj:=⟨s.1,s.2.1,s.2.2.1,s.2.2.2⟩
def AQ(b:aj)(z:Int)(p:bU)(s:As):As⊕((Int×Int×Int×Int)⊕(aj×Bool)):=
 if p.num=0 then(if z>p.base then .inr (.inr (⟨0,0,0,0⟩,false))else .inl s)
 else if p.side=0 then .inl (max s.1 (b.x0+-((p.base-z)*p.den/p.num)),s.2.1,s.2.2.1,s.2.2.2)
 else if p.side=1 then .inl (s.1,s.2.1,min s.2.2.1 (b.x1- -((p.base-z)*p.den/p.num)),s.2.2.2)
 else if p.side=2 then .inl (s.1,max s.2.1 (b.y0+-((p.base-z)*p.den/p.num)),s.2.2.1,s.2.2.2)
 else .inl (s.1,s.2.1,s.2.2.1,min s.2.2.2 (b.y1- -((p.base-z)*p.den/p.num)))
theorem ZI{b:aj}{l:U bU}{z:Int}(hb:cT b=true)(hp:∀p∈l,GD p=true)(hz:0<=z/\z<=4096)(hl:l.length<=1000)(hn:2000<=n)(s:As):
 iter (sQ b l z) n (0,s)=some (BX (AQ b z) (λ s=>.inl s) l s):=by
 have hr:=hb;simp at hr;have:=alZ (l:=l) (step:=sQ b l z) (λ i (s:As)=>((i:Nat),s)) (AQ b z) (λ s=>.inl s) (λ i hi s=>?_) (λ s=>?_) n (by omega) s;exact this;obtain⟨v2,v3,v4,v5⟩:=s;obtain⟨s1,s2,s3,s4⟩:=(Kj _).1 (hp _ (getElem_mem hi));have mb:=adl (a:=(l[i]).den) (d:=(l[i]).base-z) (by omega) (by omega);rw[Int.mul_comm]at mb;simp only[sQ,bV hi,ak,bB hi,ai];rw[bT (x:=(l[i]).base-z),bT (x:=((l[i]).base-z)*(l[i]).den)];unfold AQ;by_cases h0:(l[i]).num=0;have e0:((l[i]).num==0)=true:=by simpa using h0
 rw[e0,aM h0];by_cases hzb:z>(l[i]).base;have d:decide (z>(l[i]).base)=true:=by simpa using hzb
 rw[aM hzb];simp only[ak,d];rfl;have d:decide (z>(l[i]).base)=false:=by simpa using hzb
 rw[aC hzb];simp[d,aW i];have e0:((l[i]).num==0)=false:=by simpa using h0
 have dv:=adm (n:=(l[i]).num) (by omega) mb;rw[e0,aC h0];simp only[ay];rw[Cu (by omega) (by omega)];simp only[ai];generalize ((l[i]).base-z)*(l[i]).den/(l[i]).num=q at*;rw[bT (x:=0-q),Int.zero_sub,bT (x:=b.x0+-q),bT (x:=b.x1- -q),bT (x:=b.y0+-q),bT (x:=b.y1- -q)];have hs:(l[i]).side=0\/(l[i]).side=1\/(l[i]).side=2\/(l[i]).side=3:=by omega
 rcases hs with e|e|e|e<;>rw[e]<;>simp[aW i];obtain⟨v2,v3,v4,v5⟩:=s;simp[sQ]
def aqG(b:aj)(z:Int)(l:U bU)(s:As):Prop:=
    (∃ t,BX (AQ b z) (λ s=>(.inl s:(Int×Int×Int×Int)⊕(aj×Bool))) l s=.inl t/\(s.1<=t.1/\s.2.1<=t.2.1/\t.2.2.1<=s.2.2.1/\t.2.2.2<=s.2.2.2)/\∀x y,fI (M5 t) x y=true↔fI (M5 s) x y=true/\∀p∈l,asks b z p x y)\/
    (BX (AQ b z) (λ s=>(.inl s:(Int×Int×Int×Int)⊕(aj×Bool))) l s=.inr (⟨0,0,0,0⟩,false)/\∃p∈l,∀x y,¬asks b z p x y)
theorem dP(r:aj)(x y:Int):fI r x y=true↔(r.x0<=x/\x<r.x1)/\(r.y0<=y/\y<r.y1):=by simp[fI]
theorem ZJ{b:aj}{z:Int}:∀l,(∀ p∈l,GD p=true)->∀s:As,aqG b z l s
 |[],_,s=>.inl ⟨s,rfl,⟨Int.le_refl _,Int.le_refl _,Int.le_refl _,Int.le_refl _⟩,λx y=>by simp⟩
 |p::l,hp,s=>by
  have hp0:=hp p mem_cons_self;have ih:=ZJ (b:=b) (z:=z) l λq hq=>hp q (bq _ hq);obtain⟨s1,s2,s3,s4⟩:=(Kj _).1 hp0;have go:∀s':As,AQ b z p s=.inl s'->(s.1<=s'.1/\s.2.1<=s'.2.1/\s'.2.2.1<=s.2.2.1/\s'.2.2.2<=s.2.2.2)->(∀ x y,fI (M5 s') x y=true↔fI (M5 s) x y=true/\asks b z p x y)->aqG b z (p::l) s:=λs' hf hb' he=>by have hl:BX (AQ b z) (λ s=>(.inl s:(Int×Int×Int×Int)⊕(aj×Bool))) (p::l) s=BX (AQ b z) (λ s=>(.inl s:(Int×Int×Int×Int)⊕(aj×Bool))) l s':=(by simp[BX,hf]);rcases ih s' with ⟨t,t1,t2,t3⟩|⟨t1,q,hq,t2⟩;exact .inl ⟨t,by rw[hl,t1],⟨by omega,by omega,by omega,by omega⟩,λx y=>by rw[t3,he];simp[and_assoc]⟩;exact .inr ⟨by rw[hl,t1],q,bq _ hq,t2⟩
  by_cases h0:p.num=0;by_cases hz:z>p.base;refine .inr ⟨?_,p,mem_cons_self,λx y ha=>?_⟩;have hf:AQ b z p s=.inr (.inr (⟨0,0,0,0⟩,false)):=by unfold AQ;rw[aM h0,aM hz]
  simp[BX,hf];unfold asks at ha;rw[h0,Int.zero_mul]at ha;have:0<(z-p.base)*p.den:=Int.mul_pos (by omega) (by omega);omega;refine go s (by unfold AQ;rw[aM h0,aC hz]) ⟨Int.le_refl _,Int.le_refl _,Int.le_refl _,Int.le_refl _⟩ λx y=>?_;have:asks b z p x y:=by unfold asks;rw[h0,Int.zero_mul];have:=Int.mul_nonneg (a:=p.base-z) (b:=p.den) (by omega) (by omega);rw[show z-p.base=-(p.base-z)by omega,Int.neg_mul];omega
  simp[this];have hn:0<p.num:=by omega
  have key:∀x y,asks b z p x y↔-((p.base-z)*p.den/p.num)<=uH b p.side x y:=λx y=>by unfold asks;rw[ap4 hn,show -(z-p.base)=p.base-z by omega]
  have hs:p.side=0\/p.side=1\/p.side=2\/p.side=3:=by omega
  generalize hq:(p.base-z)*p.den/p.num=q at key;rcases hs with e|e|e|e;refine go (max s.1 (b.x0+-q),s.2.1,s.2.2.1,s.2.2.2) (by unfold AQ;rw[aC h0,aM e,hq]) ⟨by simp;omega,Int.le_refl _,Int.le_refl _,Int.le_refl _⟩ λx y=>?_;rw[key];simp[dP,M5,uH];omega;refine go (s.1,s.2.1,min s.2.2.1 (b.x1- -q),s.2.2.2) (by unfold AQ;rw[aC h0,aC (by omega),aM e,hq]) ⟨Int.le_refl _,Int.le_refl _,by simp;omega,Int.le_refl _⟩ λx y=>?_;rw[key];simp[dP,M5,uH];omega;refine go (s.1,max s.2.1 (b.y0+-q),s.2.2.1,s.2.2.2) (by unfold AQ;rw[aC h0,aC (by omega),aC (by omega),aM e,hq]) ⟨Int.le_refl _,by simp;omega,Int.le_refl _,Int.le_refl _⟩ λx y=>?_;rw[key];simp[dP,M5,uH];omega;refine go (s.1,s.2.1,s.2.2.1,min s.2.2.2 (b.y1- -q)) (by unfold AQ;rw[aC h0,aC (by omega),aC (by omega),aC (by omega),hq]) ⟨Int.le_refl _,Int.le_refl _,Int.le_refl _,by simp;omega⟩ λx y=>?_;rw[key];simp[dP,M5,uH];omega
theorem asC(x y:Int):fI (M5 (0,0,1048576,1048576)) x y=true↔yl x y:=by show((decide (0<=x)&&decide (x<1048576))&&(decide (0<=y)&&decide (y<1048576)))=true↔_;simp
theorem VO(b:aj) l {z:Int} (hz:1<=z/\z<=4096) (hl:l.length<=1000) (hn:2000<=n):
 ∃r,Gi n b l z=some r/\r.1.length<=1/\(∀ q∈r.1,cT q=true)/\∀x y,aZ r.1 x y=true↔qJ b l=true/\yl x y/\∀p∈l,z<=Tq b p x y:=by
 unfold Gi;rw[Kk b l hl hn];simp only[ai];cases hv:qJ b l with
 |false=>exact⟨_,rfl,by simp,by simp,λx y=>by simp[aZ]⟩
 |true=>
  have⟨v1,v2⟩:=(uI b l).1 hv;have dz:decide (0<=z/\z<=4096)=true:=by simp;omega
  have ez:(z==0)=false:=by simp;omega
  simp only[Bool.not_true,ay,Hr,dz,ai,ez];unfold NC;rw[show ((0:Int),xd.x0,xd.y0,xd.x1,xd.y1)=(0,((0,0,1048576,1048576):As))from rfl,ZI v1 v2 (by omega) hl hn];rcases ZJ (b:=b) (z:=z) l v2 (0,0,1048576,1048576)with ⟨⟨t1,t2,t3,t4⟩,h1,h2,h3⟩|⟨h1,p,hp,h2⟩;rw[h1];simp only[jO,uN,ai];simp at h2;have h3':∀x y,fI ⟨t1,t2,t3,t4⟩ x y=true↔yl x y/\∀p∈l,z<=Tq b p x y:=λx y=>by have:=h3 x y;rw[show M5 (t1,t2,t3,t4)=⟨t1,t2,t3,t4⟩from rfl]at this;rw[this,asC];constructor;rintro⟨a,b⟩;exact⟨a,λp hp=>(ZH (v2 p hp) x y).1 (b p hp)⟩;rintro⟨a,b⟩;exact⟨a,λp hp=>(ZH (v2 p hp) x y).2 (b p hp)⟩
  by_cases hx:t1<t3;have dx:decide (t1<t3)=true:=by simpa using hx
  simp only[dx,ak];by_cases hy:t2<t4;have dy:decide (t2<t4)=true:=by simpa using hy
  simp only[dy,ak];refine⟨([aj.mk t1 t2 t3 t4],0),rfl,by simp,λq hq=>?_,λx y=>?_⟩;rw[aI.1 hq];simp;omega;rw[show aZ [aj.mk t1 t2 t3 t4] x y=fI ⟨t1,t2,t3,t4⟩ x y by simp[aZ,fI],h3'];simp;have dy:decide (t2<t4)=false:=by simpa using hy
  simp only[dy,ay];refine⟨_,rfl,by simp,by simp,λx y=>?_⟩;have h0:fI ⟨t1,t2,t3,t4⟩ x y=false:=by simp only[fI];rw[Bool.and_eq_false_iff];right;rw[Bool.and_eq_false_iff,dQ,dQ];omega
  have:=h3' x y;rw[h0]at this;simp only[aZ,List.any_nil,Bool.false_eq_true,false_iff,true_and];exact λh=>by have:=this.2 h;cases this
  have dx:decide (t1<t3)=false:=by simpa using hx
  simp only[dx,ay];refine⟨_,rfl,by simp,by simp,λx y=>?_⟩;have h0:fI ⟨t1,t2,t3,t4⟩ x y=false:=by simp only[fI];rw[Bool.and_eq_false_iff];left;rw[Bool.and_eq_false_iff,dQ,dQ];omega
  have:=h3' x y;rw[h0]at this;simp only[aZ,List.any_nil,Bool.false_eq_true,false_iff,true_and];exact λh=>by have:=this.2 h;cases this
  rw[h1];simp only[rz,ai,ay];refine⟨_,rfl,by simp,by simp,λx y=>?_⟩;simp only[aZ,List.any_nil,Bool.false_eq_true,false_iff,true_and];rintro⟨_,h⟩;exact h2 x y ((ZH (v2 p hp) x y).2 (h p hp))
def Hi(x:fu):Bool:=decide (x.z0<0) || (decide (x.z0>=x.z1) || (decide (x.z1>4096) || (decide (x.area=[]) || !br x.area)))
def BC(p:J fu×fu):Bool:=Hi p.2 || p.1.any λq=>decide (q.z1>p.2.z0) || (q.z1==p.2.z0&&decide (q.area=p.2.area))
def Dg(s:U fu):U (Option fu×fu):=(none::s.map some).zip s
def Dh(s:U fu):Bool:=decide (s.length<=80)&&!((Dg s).any BC)
theorem qW s:(Dg s).length=s.length:=by simp[Dg]
theorem GH{s:U fu}{i:Nat}(h:i<(Dg s).length):(Dg s)[i]=(if h0:i=0 then none else some (s[i-1]'(by rw[qW]at h;omega)),s[i]'(by rw[qW]at h;exact h)):=by
 simp[Dg];cases i with
 |zero|succ i=>simp
theorem Vm{s:U fu}(ha:∀x∈s,x.area.length<=900)(hn:1000<=n):JY n s=some (Dh s):=by
 unfold JY Dh;by_cases h80:s.length<=80;have d:decide ((s.length:Int)>80)=false:=by simp;omega
 have d2:decide (s.length<=80)=true:=by simpa using h80
 have z:∀l:U aj,(((l.length:Int))==0)=decide (l=[]):=λl=>by cases l<;>simp<;>omega
 have:=qi (l:=Dg s) (step:=Co n s) (λ i=>(i:Nat)) BC () (λ _=>false) (λ i hi=>?_) ?_ n (by rw[qW];omega);rw[io]at this;rw[d,d2,this,<- SS];cases p8 BC (Dg s)<;>rfl;rw[GH];rw[qW]at hi;have hi':decide ((i:Int)<s.length)=true:=by simpa using hi
 have h1:=ha _ (getElem_mem hi);simp only[Co,hi',ak,bB hi,ai,z,iJ (n:=n) (l:=s[i].area) (by omega) (by omega) hn,BC];rw[aX (by omega)];have b:((bif decide (s[i].z0<0)then some true else bif decide (s[i].z0>=s[i].z1)then some true else bif decide (s[i].z1>4096)then some true else bif decide (s[i].area=[])then some true else some (!br s[i].area)):J Bool)=some (Hi s[i]):=by unfold Hi;cases decide (s[i].z0<0)<;>cases decide (s[i].z0>=s[i].z1)<;>cases decide (s[i].z1>4096)<;>cases decide (s[i].area=[])<;>rfl
 rw[b];simp;cases Hi s[i]with
 |true=>simp
 |false=>
  by_cases h0:i=0;subst h0;have:(((0:Nat))==0)=true:=rfl;simp;have e0:((i:Int)==0)=false:=by simp;omega
  have w:i64.wrap (i-1)=(i-1:Nat):=kY (by omega) (by omega);have h2:=ha _ (getElem_mem (show i-1<s.length by omega));simp[e0,w,bB (show i-1<s.length by omega),ajm (n:=n) (a:=s[i-1].area) (b:=s[i].area) (by omega) (by omega),h0];cases decide (s[i-1].z1>s[i].z0)with
  |true=>simp
  |false=>
   cases s[i-1].z1==s[i].z0 with
   |false=>simp
   |true=>cases decide (s[i-1].area=s[i].area)<;>simp
 rw[qW];simp[Co];have d:decide ((s.length:Int)>80)=true:=by simp;omega
 have d2:decide (s.length<=80)=false:=by simpa using h80
 rw[d,d2];rfl
structure aoz(x:fu):Prop where
 lo:0<=x.z0
 lt:x.z0<x.z1
 hi:x.z1<=4096
 ne:x.area≠[]
 rt:br x.area=true
def ar5(s:U fu):Prop:=∀i (h:i+1<s.length),s[i].z1<=s[i+1].z0/\¬(s[i].z1=s[i+1].z0/\s[i].area=s[i+1].area)
theorem ag7(x:fu):Hi x=false↔aoz x:=by unfold Hi;simp;constructor;rintro⟨h1,h2,h3,h4,h5⟩;exact⟨by omega,by omega,by omega,h4,h5⟩;rintro⟨h1,h2,h3,h4,h5⟩;exact⟨by omega,by omega,by omega,h4,h5⟩
theorem NY s:Dh s=true↔s.length<=80/\(∀ x∈s,aoz x)/\ar5 s:=by
 unfold Dh;rw[aY,bF,Bool.not_eq_true',List.any_eq_false];refine and_congr_right λ_=>?_;constructor;intro h;have key:∀i (hi:i<s.length),BC ((Dg s)[i]'(by rw[qW];exact hi))=false:=λi hi=>by have:=h _ (getElem_mem (show i<(Dg s).length by rw[qW];exact hi));simpa using this
 refine⟨λ x hx=>?_,λi hi=>?_⟩;obtain⟨i,hi,rfl⟩:=mem_iff_getElem.1 hx;have:=key i hi;rw[GH]at this;unfold BC at this;rw[Bool.or_eq_false_iff]at this;exact(ag7 _).1 this.1;have:=key (i+1) hi;rw[GH]at this;unfold BC at this;rw[Bool.or_eq_false_iff]at this;have h2:=this.2;simp only[Nat.succ_ne_zero,dif_neg,not_false_eq_true,Option.any_some,Nat.add_sub_cancel,Bool.or_eq_false_iff,dQ,Bool.and_eq_false_iff,beq_eq_false_iff_ne]at h2;refine⟨by omega,λ⟨e1,e2⟩=>?_⟩;rcases h2.2 with h3|h3;exact h3 e1;exact h3 e2;rintro⟨h1,h2⟩ p hp;obtain⟨i,hi,rfl⟩:=mem_iff_getElem.1 hp;rw[GH];rw[qW]at hi;unfold BC;have hb:=(ag7 _).2 (h1 _ (getElem_mem hi));by_cases h0:i=0;simp[h0]at hb |-;exact hb;obtain⟨j,rfl⟩:∃j,i=j+1:=⟨i-1,by omega⟩;have⟨n1,n2⟩:=h2 j hi;simp only[Nat.succ_ne_zero,dif_neg,not_false_eq_true,Option.any_some,Nat.add_sub_cancel];rw[hb];simp only[Bool.false_or,Bool.or_eq_true,bF,aY,beq_iff_eq];rintro (h|h);omega;exact n2 h
def PR(Φ:U aj)(top:Int)(s:U fu):Prop:=∃c∈s,c.z1>top/\Qv c.area Φ=true
theorem aoA Φ top (x:fu):PR Φ top [x]↔x.z1>top/\Qv x.area Φ=true:=by
 unfold PR;constructor;rintro⟨c,hc,h⟩;have:c=x:=by simpa using hc
 rw[<- this];exact h;intro h;exact⟨x,by simp,h⟩
theorem uJ{l:U fu}{Z:(fu×Unit)->J Bool}(p:fu->Bool)(h:∀x∈l,Z (x,())=some (p x))(hl:l.length<1099511627776)(hn:l.length<n):jI n l Z=some (l.any p):=by
 unfold jI vJ;have:=qi (l:=l) (step:=nu l Z) (λ i=>(i:Nat)) p () (λ i=>(i:Nat)) (λ i hi=>?_) (by simp[nu]) n hn;rw[io]at this;rw[this,<- SS];cases p8 p l with
 |none=>rfl
 |some i=>simp<;>omega
 have hi':decide ((i:Int)<l.length)=true:=by simpa using hi
 simp only[nu,hi',ak,bB hi,ai,h _ (getElem_mem hi)];rw[aX (by omega)];cases p l[i]<;>rfl
def Hh(s:U fu)(lot:Int)(e:dI):Bool:=e.lot==lot&&(br e.area&&s.any λc=>decide (c.z1>e.top)&&Qv c.area e.area)
def HF(l:U dI)(lot:Int)(s:U fu):Bool:=Dh s&&!(l.any (Hh s lot))
theorem abw{l:U dI}{lot:Int}{s:U fu}(hl:l.length<=900)(he:∀e∈l,e.area.length<=900)(ha:∀x∈s,x.area.length<=900)(hn:1000<=n):Gt n l lot s=some (HF l lot s):=by
 unfold Gt HF;rw[Vm ha hn];simp;cases hr:Dh s with
 |false=>rfl
 |true=>
 have l80:=((NY s).1 hr).1;have:=qi (l:=l) (step:=xD n l lot s) (λ i=>(i:Nat)) (Hh s lot) () (λ _=>false) (λ i hi=>?_) (by simp[xD]) n (by omega);rw[io]at this;simp;rw[this,<- SS];cases p8 (Hh s lot) l<;>rfl;have hi':decide ((i:Int)<l.length)=true:=by simpa using hi
 have h1:=he _ (getElem_mem hi);have cf:=uJ (n:=n) (l:=s) (Z:=λy:fu×Unit=>sZ n y.1 l[i]) (λ c=>decide (c.z1>l[i].top)&&Qv c.area l[i].area) (λ c hc=>by have:=ha c hc;show sZ n c l[i]=_;unfold sZ;rw[ajl (by omega) (by omega) (by omega) (by omega)];cases decide (c.z1>l[i].top)<;>rfl) (by omega) (by omega);simp only[xD,hi',ak,bB hi,ai,iJ (n:=n) (l:=l[i].area) (by omega) (by omega) hn,cf];rw[aX (by omega)];unfold Hh;cases h2:l[i].lot==lot with
 |false=>
  have:(l[i].lot !=lot)=true:=by simp[bne,h2]
  simp[this]
 |true=>
  have:(l[i].lot !=lot)=false:=by simp[bne,h2]
  simp[this];cases br l[i].area with
  |false=>simp
  |true=>cases s.any λc=>decide (c.z1>l[i].top)&&Qv c.area l[i].area<;>simp
theorem aoB s lot (e:dI):Hh s lot e=true↔e.lot=lot/\br e.area=true/\PR e.area e.top s:=by unfold Hh PR;rw[aY,aY,beq_iff_eq,any_eq_true];simp
theorem ag8(r:aj):cT r=true↔(0<=r.x0/\r.x0<r.x1/\r.x1<=1048576)/\(0<=r.y0/\r.y0<r.y1/\r.y1<=1048576):=by simp;omega
theorem LU{b:aj}{l:U bU}(r:aj) x (hb:cT b=true) (hp:∀p∈l,GD p=true) (hr:cT r=true) (hx:0<=x/\x<1048576) (hl:l.length<=1000) (hn:2000<=n) v:
 iter (qc n b l r x) n (v,0)=some (min (min v (QF b l x r.y0)) (QF b l x (r.y1-1))):=by
 have ho:=(ag8 r).1 hr;have w:i64.wrap (r.y1-1)=r.y1-1:=bT (by omega) (by omega);have:=kZ (l:=[r.y0,r.y1-1]) (step:=qc n b l r x) (λ i s=>(s,(i:Nat))) (λ y m=>min m (QF b l x y)) (λ s=>s) (λ i hi s=>?_) (λ s=>by simp[qc]) n (by simp;omega) v;rw[io]at this;exact this;have h2:i<2:=by simpa using hi
 have yb:0<=([r.y0,r.y1-1]:U Int)[i]/\([r.y0,r.y1-1]:U Int)[i] <1048576:=by rcases i with _|_|i;simp;omega;simp;omega;omega
 simp only[qc,bV h2,ak,bC h2,w,bH hi,ai,aeJ hb hp ⟨hx,yb⟩ hl hn,aW i]
def PQ(b:aj)(l:U bU)(v:Int)(r:aj):Int:=min (min (min (min v (QF b l r.x0 r.y0)) (QF b l r.x0 (r.y1-1))) (QF b l (r.x1-1) r.y0)) (QF b l (r.x1-1) (r.y1-1))
theorem LV{b:aj}{l:U bU}(r:aj)(hb:cT b=true)(hp:∀p∈l,GD p=true)(hr:cT r=true)(hl:l.length<=1000)(hn:2000<=n) v:
 iter (qd n b l r) n (v,0)=some (PQ b l v r):=by
 have ho:=(ag8 r).1 hr;have w:i64.wrap (r.x1-1)=r.x1-1:=bT (by omega) (by omega);have:=kZ (l:=[r.x0,r.x1-1]) (step:=qd n b l r) (λ i s=>(s,(i:Nat))) (λ x m=>min (min m (QF b l x r.y0)) (QF b l x (r.y1-1))) (λ s=>s) (λ i hi s=>?_) (λ s=>by simp[qd]) n (by simp;omega) v;rw[io]at this;exact this;have h2:i<2:=by simpa using hi
 have xb:0<=([r.x0,r.x1-1]:U Int)[i]/\([r.x0,r.x1-1]:U Int)[i] <1048576:=by rcases i with _|_|i;simp;omega;simp;omega;omega
 simp only[qd,bV h2,ak,bC h2,w,bH hi,ai,LU r _ hb hp hr xb hl hn,aW i]
def Mo(b:aj)(l:U bU)(a:U aj):Int:=a.foldl (PQ b l) 4096
theorem VP{b:aj}{l:U bU}{a:U aj}(hb:cT b=true)(hp:∀p∈l,GD p=true)(ha:∀r∈a,cT r=true)(hal:a.length<=1000)(hl:l.length<=1000)(hn:2000<=n):zx n b l a=some (Mo b l a):=by unfold zx;have:=kZ (l:=a) (step:=tX n b l a) (λ i s=>(s,(i:Nat))) (λ r m=>PQ b l m r) (λ s=>s) (λ i hi s=>?_) (λ s=>by simp[tX]) n (by omega) 4096;rw[io]at this;rw[this];rfl;simp only[tX,bV hi,ak,bB hi,ai,LV a[i] hb hp (ha _ (getElem_mem hi)) hl hn,aW i]
def ApR(a b:aj):Prop:=∀x y,fI a x y=true->fI b x y=true->False
def Br(l:U aj):Prop:=l.Pairwise ApR/\∀r∈l,cT r=true
theorem lT l (x y:Int):aZ l x y=true↔∃r∈l,fI r x y=true:=by simp[aZ,fI]
theorem abx(a b:U aj)(x y:Int):aZ (a++b) x y=(aZ a x y || aZ b x y):=by simp[aZ]
theorem iy(r:aj):cT r=true↔(0<=r.x0/\r.x0<r.x1/\r.x1<=1048576)/\(0<=r.y0/\r.y0<r.y1/\r.y1<=1048576):=by simp;omega
theorem ZK{a:U aj}(h:br a=true):Br a:=by have⟨vu,hro,_⟩:=NV h;refine⟨?_,(dS h).1⟩;rw[<- hro];unfold jF;rw[List.pairwise_flatMap];refine⟨λ s hs=>?_,(Td vu.runs).imp λ{s t} hst=>?_⟩;unfold aD;rw[List.pairwise_map];refine(vu.col s hs).1.1.imp λ{p q} hpq x y h1 h2=>?_;rw[dP]at h1 h2;simp at h1 h2;omega;intro p hp q hq x y h1 h2;unfold aD at hp hq;obtain⟨p',_,rfl⟩:=mem_map.1 hp;obtain⟨q',_,rfl⟩:=mem_map.1 hq;rw[dP]at h1 h2;simp at h1 h2;omega
theorem ER(a b:aj):sS a b=some (dF a b,decide ((dF a b).x0<(dF a b).x1)&&decide ((dF a b).y0<(dF a b).y1)):=by unfold sS dF;simp;cases decide (max a.x0 b.x0<min a.x1 b.x1)<;>rfl
def je(a b:aj):Bool:=decide ((dF a b).x0<(dF a b).x1)&&decide ((dF a b).y0<(dF a b).y1)
theorem Kl(a b:aj)(x y:Int):fI (dF a b) x y=(fI a x y&&fI b x y):=by rw[dH,aY,dP,dP,dP];unfold dF;simp;omega
theorem aeK{a b:aj}(ha:cT a=true)(hb:cT b=true)(hm:je a b=true):cT (dF a b)=true:=by rw[iy]at*;unfold je dF at hm;simp at hm;unfold dF;simp;omega
theorem ado{a b:aj}(h:je a b=false)(x y:Int):(fI a x y&&fI b x y)=false:=by
 rw[<- Kl,Bool.eq_false_iff];intro hc;rw[dP]at hc;have:je a b=true:=by simp[je];omega
 rw[h]at this;cases this
def okB(r:aj):Bool:=decide (r.x0<r.x1)&&decide (r.y0<r.y1)
def four(r m:aj):U aj:=[⟨r.x0,r.y0,m.x0,r.y1⟩,⟨m.x1,r.y0,r.x1,r.y1⟩,⟨m.x0,r.y0,m.x1,m.y0⟩,⟨m.x0,m.y1,m.x1,r.y1⟩]
def QG(c r:aj):U aj:=bif je r c then(four r (dF r c)).filter okB else [r]
def Ig(l:U aj)(c:aj):U aj:=l.flatMap (QG c)
theorem aoD(c r:aj):(QG c r).length<=4:=by
 unfold QG;cases je r c with
 |false=>simp
 |true=>exact Nat.le_trans (length_filter_le _ _) (by simp[four])
theorem LW(x m:aj) b aa (ho:aa.length<=1000000000) (hn:10<n):
 iter (p9 x (m,b)) n (0,aa)=some (aa++(four x m).filter okB):=by
 have:=dG (l:=four x m) (step:=p9 x (m,b)) (λ i s=>(i,s)) (λ r s=>bif okB r then s++[r]else s) (λ s=>s) (λ i s=>s.length<=aa.length+i)
  (λ i hi s hs=>?_) (λ s hs=>by simp[p9,four]) n (by simp[four];omega) aa (aB _)
 rw[io]at this;rw[this];congr 1;have gen:∀(ys:U aj) s,ys.foldl (λ s r=>bif okB r then s++[r]else s) s=s++ys.filter okB:=by
  intro ys
  induction ys with
  |nil=>intro s;simp
  |cons y ys ih=>
   intro s;rw[foldl_cons,ih,List.filter_cons];cases okB y<;>simp
 exact gen _ _;have h4:i<4:=by simpa[four]using hi
 have g:ci ([aj.mk x.x0 x.y0 m.x0 x.y1,aj.mk m.x1 x.y0 x.x1 x.y1,aj.mk m.x0 x.y0 m.x1 m.y0,aj.mk m.x0 m.y1 m.x1 x.y1]:U aj) ((0:Nat)+(i:Nat))=some (four x m)[i]:=bH hi;generalize (four x m)[i]=r at*;have ap:bP s.length s.length (sub ([r]:U aj) 0 1).length 1 32=true:=cK (n:=1) (by omega) (by simp[maxLen];omega);simp only[p9,bV h4,ak,bC h4,g,ai,uN,ap,eH,aO,okB,aW i];cases decide (r.x0<r.x1)<;>cases decide (r.y0<r.y1)<;>refine⟨rfl,?_⟩<;>simp<;>omega
theorem VQ{l:U aj}(c:aj)(hl:l.length<=1000000)(hn:10<n)(hn2:l.length<n):zi n l c=some (Ig l c):=by
 unfold zi
 have:=dG (l:=l) (step:=tO n l c) (λ i s=>(i,s)) (λ r s=>s++QG c r) (λ s=>s) (λ i s=>s.length<=4*i)
  (λ i hi s hs=>?_) (λ s hs=>by simp[tO]) n hn2 [] (by simp)
 rw[io]at this;simp only[length_nil,aO,ak,this,ai,fG];congr 1;have gen:∀ys s,ys.foldl (λ s r=>s++QG c r) s=s++Ig ys c:=by
  intro ys
  induction ys with
  |nil=>intro s;simp[Ig]
  |cons y ys ih=>intro s;rw[foldl_cons,ih];simp[Ig]
 exact gen l [];have cl:=aoD c l[i];have ap:bP s.length s.length (sub ([l[i]]:U aj) 0 1).length 1 32=true:=cK (n:=1) (by omega) (by simp[maxLen];omega);simp only[tO,bV hi,ak,bB hi,ai,ER,ap,eH,aO,LW (n:=n) l[i] (dF l[i] c) _ s (by omega) hn,uN,aW i];rw[show (decide ((dF l[i] c).x0<(dF l[i] c).x1)&&decide ((dF l[i] c).y0<(dF l[i] c).y1))=je l[i] c from rfl];refine⟨?_,by rw[bW];omega⟩;unfold QG;cases je l[i] c<;>rfl
theorem amk(r c:aj)(hm:je r c=true)(x y:Int):aZ ((four r (dF r c)).filter okB) x y=(fI r x y&&!fI c x y):=by
 unfold je dF at hm;simp at hm;rw[dH,lT,aY,Bool.not_eq_true',<- Bool.not_eq_true,dP,dP];constructor;rintro⟨q,hq,hh⟩;obtain⟨hq,_⟩:=mem_filter.1 hq;rw[dP]at hh;simp[four,dF]at hq;rcases hq with rfl|rfl|rfl|rfl<;>simp at hh<;>omega;rintro⟨h1,h2⟩;have key:∀q,q∈four r (dF r c)->fI q x y=true->∃q∈(four r (dF r c)).filter okB,fI q x y=true:=λq hq hh=>by refine⟨q,mem_filter.2 ⟨hq,?_⟩,hh⟩;rw[dP]at hh;simp[okB];omega
 by_cases c1:x<c.x0;exact key ⟨r.x0,r.y0,(dF r c).x0,r.y1⟩ (by simp[four]) (by rw[dP];simp[dF];omega);by_cases c2:c.x1<=x;exact key ⟨(dF r c).x1,r.y0,r.x1,r.y1⟩ (by simp[four]) (by rw[dP];simp[dF];omega);by_cases c3:y<c.y0;exact key ⟨(dF r c).x0,r.y0,(dF r c).x1,(dF r c).y0⟩ (by simp[four]) (by rw[dP];simp[dF];omega);exact key ⟨(dF r c).x0,(dF r c).y1,(dF r c).x1,r.y1⟩ (by simp[four]) (by rw[dP];simp[dF];omega)
theorem Tt(c r:aj)(x y:Int):aZ (QG c r) x y=(fI r x y&&!fI c x y):=by
 unfold QG;cases hm:je r c with
 |true=>exact amk r c hm x y
 |false=>
  have:=ado hm x y;have e:aZ [r] x y=fI r x y:=by simp[aZ,fI]
  simp only[ay,e];cases h1:fI r x y with
  |false=>rfl
  |true=>rw[h1]at this;simp at this;simp[this]
theorem Km(f:aj->U aj)(l:U aj)(x y:Int):aZ (l.flatMap f) x y=l.any λr=>aZ (f r) x y:=by
 induction l with
 |nil=>rfl
 |cons r l ih=>rw[List.flatMap_cons,abx,ih,List.any_cons]
theorem aml l (c:aj) (x y:Int):aZ (Ig l c) x y=(aZ l x y&&!fI c x y):=by unfold Ig;rw[Km];have e:aZ l x y=l.any λr=>fI r x y:=rfl;rw[e,dH,aY,any_eq_true,any_eq_true];constructor;rintro⟨r,hr,h⟩;rw[Tt,aY]at h;exact⟨⟨r,hr,h.1⟩,h.2⟩;rintro⟨⟨r,hr,h⟩,h2⟩;exact⟨r,hr,by rw[Tt,h,h2];rfl⟩
def ES(X Δ:U Int)(l:U aj):Prop:=∀r∈l,r.x0∈X/\r.y0∈Δ
theorem Xl{X:U Int}{a b:Int}(h1:a∈X)(h2:b∈X):max a b∈X:=by rcases Int.le_total a b with h|h;rw[Int.max_eq_right h];exact h2;rw[Int.max_eq_left h];exact h1
theorem ag9{c r q:aj}(hr:cT r=true)(hc:cT c=true)(h:q∈QG c r):cT q=true/\(∀ X:U Int,r.x0∈X->c.x0∈X->c.x1∈X->q.x0∈X)/\(∀ Δ:U Int,r.y0∈Δ->c.y1∈Δ->q.y0∈Δ):=by
 unfold QG at h;cases hm:je r c with
 |false=>
  rw[hm]at h;simp at h;subst h;exact⟨hr,λX h _ _=>h,λΔ h _=>h⟩
 |true=>
  rw[hm]at h;simp only[ak]at h;obtain⟨h1,h2⟩:=mem_filter.1 h;simp[okB]at h2;have hk:=aeK hr hc hm;rw[iy]at hr hc;rw[iy]at hk;have cx:(dF r c).x0=max r.x0 c.x0/\(dF r c).y0=max r.y0 c.y0/\(dF r c).x1=min r.x1 c.x1/\(dF r c).y1=min r.y1 c.y1:=⟨rfl,rfl,rfl,rfl⟩;obtain⟨c1,c2,c3,c4⟩:=cx;simp[four]at h1;rw[iy];rcases h1 with rfl|rfl|rfl|rfl;simp at h2 |-;exact⟨by omega,λX a _ _=>a,λΔ a _=>a⟩;simp at h2 |-;refine⟨by omega,λX _ _ a=>?_,λΔ a _=>a⟩;rw[show (dF r c).x1=c.x1 by omega];exact a;simp at h2 |-;refine⟨by omega,λX a b _=>?_,λΔ a _=>a⟩;rw[c1];exact Xl a b;simp at h2 |-;refine⟨by omega,λX a b _=>?_,λΔ _ a=>?_⟩;rw[c1];exact Xl a b;rw[show (dF r c).y1=c.y1 by omega];exact a
theorem amm{c r:aj}(hr:cT r=true)(hc:cT c=true):(QG c r).Pairwise ApR:=by
 unfold QG;cases hm:je r c with
 |false=>simp
 |true=>
  simp;refine List.Pairwise.filter _ ?_;have hk:=aeK hr hc hm;rw[iy]at hk;simp[four];refine⟨⟨?_,?_,?_⟩,⟨?_,?_⟩,?_⟩<;>intro x y h1 h2<;>rw[dP]at h1 h2<;>simp at h1 h2<;>omega
theorem adp{l:U aj}{c:aj}(h:Br l)(hc:cT c=true):Br (Ig l c):=by refine⟨?_,λq hq=>?_⟩;unfold Ig;rw[List.pairwise_flatMap];refine⟨λ r hr=>amm (h.2 r hr) hc,h.1.imp λ{r s} hrs p hp q hq x y h1 h2=>?_⟩;have e1:aZ (QG c r) x y=true:=(lT _ _ _).2 ⟨p,hp,h1⟩;have e2:aZ (QG c s) x y=true:=(lT _ _ _).2 ⟨q,hq,h2⟩;rw[Tt,aY]at e1 e2;exact hrs x y e1.1 e2.1;obtain⟨r,hr,h1⟩:=mem_flatMap.1 hq;exact(ag9 (h.2 r hr) hc h1).1
theorem adq{l:U aj}{c:aj}(h:∀r∈l,cT r=true)(hc:cT c=true){X Δ:U Int}(hx:ES X Δ l)(h1:c.x0∈X)(h2:c.x1∈X)(h3:c.y1∈Δ):ES X Δ (Ig l c):=by intro q hq;obtain⟨r,hr,hm⟩:=mem_flatMap.1 hq;have⟨_,g2,g3⟩:=ag9 (h r hr) hc hm;exact⟨g2 X (hx r hr).1 h1 h2,g3 Δ (hx r hr).2 h3⟩
theorem aha{X Δ:U Int}{l:U aj}(h:Br l)(hx:ES X Δ l):l.length<=X.length*Δ.length:=by
 have e:(X.flatMap λx=>Δ.map λy=>(x,y)).length=X.length*Δ.length:=by
  clear hx
  induction X with
  |nil=>simp
  |cons x X ih=>rw[List.flatMap_cons,bW,ih,length_map,eu,Nat.add_mul];omega
 have:=S9 (l:=l.map λr=>(r.x0,r.y0)) (m:=X.flatMap λx=>Δ.map λy=>(x,y)) (by rw[List.pairwise_map];refine(List.Pairwise.and_mem.1 h.1).imp λ{a b} hab=>?_;obtain⟨h1,h2,h3⟩:=hab;intro he;have e1:a.x0=b.x0:=congrArg Prod.fst he;have e2:a.y0=b.y0:=congrArg Prod.snd he;have o1:=(iy _).1 (h.2 a h1);have o2:=(iy _).1 (h.2 b h2);exact h3 a.x0 a.y0 ((dP _ _ _).2 (by omega)) ((dP _ _ _).2 (by omega))) (λ p hp=>by obtain⟨r,hr,rfl⟩:=mem_map.1 hp;exact mem_flatMap.2 ⟨r.x0,(hx r hr).1,mem_map.2 ⟨r.y0,(hx r hr).2,rfl⟩⟩);rw[length_map,e]at this;exact this
theorem GI{l:U aj}{x0 x1:Int}(hl:l.length<1099511627776){n:Nat}(hn:l.length<n):iter (lG l x0 x1) n (0,[])=some (aD x0 x1 (Gx l x0 x1)):=by
 have:=dG (l:=l) (step:=lG l x0 x1) (λ i s=>(i,s)) (λ r s=>bif decide (r.x0<=x0)&&decide (x1<=r.x1)then s++[⟨x0,r.y0,x1,r.y1⟩]else s) (λ s=>s) (λ i s=>s.length<=i)
  (λ i hi s hs=>?_) (λ s hs=>by simp[lG]) n hn [] (aB _)
 rw[io]at this;rw[this];congr 1;have gen:∀ys s,ys.foldl (λ s r=>bif decide (r.x0<=x0)&&decide (x1<=r.x1)then s++[⟨x0,r.y0,x1,r.y1⟩]else s) s=s++aD x0 x1 (Gx ys x0 x1):=by
  intro ys
  induction ys with
  |nil=>intro s;simp[Gx,aD]
  |cons y ys ih=>
   intro s;simp[ih];cases h:(decide (y.x0<=x0)&&decide (x1<=y.x1))with
   |true=>simp[Gx,h,aD,Qx]
   |false=>simp[Gx,h]
 simpa using gen l [];have hi':decide ((i:Int)<l.length)=true:=by simpa using hi
 have ap:bP s.length s.length (sub ([aj.mk x0 l[i].y0 x1 l[i].y1]:U aj) 0 1).length 1 32=true:=cK (n:=1) (by omega) (by simp[maxLen];omega);simp only[lG,hi',ak,bB hi,ai,SC];cases h:(decide (l[i].x0<=x0)&&decide (x1<=l[i].x1))with
 |true=>
  simp only[ak,ap,eH,aO,ai];refine⟨?_,by simp;omega⟩;rw[aX (by omega)];rfl
 |false=>
  simp only[ay,aO,ak,ai];exact⟨by rw[aX (by omega)],by omega⟩
theorem GJ(x0 x1:Int)(a b:U aN):aD x0 x1 (a++b)=aD x0 x1 a++aD x0 x1 b:=by simp[aD]
theorem GK{x0 x1:Int}(w1:U aj)(T:U aN)(hw:w1.length=T.length)(hl:T.length<1099511627776)(hn:T.length<n):
 ∃o,iter (lH w1) n ((0:Int),(0:Int),aD x0 x1 T)=some o/\o.1=(((T.foldl ext []).length:Nat):Int)/\o.2.take (T.foldl ext []).length=aD x0 x1 (T.foldl ext [])/\(T.foldl ext []).length<=T.length:=by
 refine ZF (λ i (v:Int×Int×List aj)=>v.2.1=(i:Int)/\v.1=((((T.take i).foldl ext []).length:Nat):Int)/\∃mid,v.2.2=aD x0 x1 ((T.take i).foldl ext [])++mid++aD x0 x1 (T.drop i)/\mid.length+((T.take i).foldl ext []).length=i) T.length _ (λ i v hi hR=>?_) (λ v hR=>?_) n hn _ ⟨rfl,rfl,[],by simp[aD],by simp⟩;obtain⟨v5,v6,v7⟩:=v;obtain⟨h1,h2,mid,h3,h4⟩:=hR;simp only at h1 h2 h3;subst h1;subst h2;subst h3;have hC:(T.take (i+1)).foldl ext []=ext ((T.take i).foldl ext []) T[i]:=by rw[fU hi,List.foldl_append];rfl
 generalize (T.take i).foldl ext []=C at*;have lC:(aD x0 x1 C).length=C.length:=bR _ _ _;have dr:aD x0 x1 (T.drop i)=⟨x0,T[i].from_,x1,T[i].to⟩::aD x0 x1 (T.drop (i+1)):=by rw[drop_eq_getElem_cons hi];rfl
 have g2:ci (aD x0 x1 C++mid++aD x0 x1 (T.drop i)) (((0:Nat):Int)+(i:Int))=some ⟨x0,T[i].from_,x1,T[i].to⟩:=by rw[uZ,jf (by rw[bW];omega),dr,bW,lC,show i-(C.length+mid.length)=0 by omega];rfl
 obtain⟨m0,ms,hms⟩:∃m0 ms,mid++[(⟨x0,T[i].from_,x1,T[i].to⟩:aj)]=m0::ms:=by
  cases mid with
  |nil|cons a b=>exact⟨_,_,rfl⟩
 have hA:aD x0 x1 C++mid++aD x0 x1 (T.drop i)=aD x0 x1 C++(m0::ms)++aD x0 x1 (T.drop (i+1)):=by rw[dr,<- hms];simp
 have lm:ms.length=mid.length:=by have:=congrArg List.length hms;simp at this;omega
 have ibi:cR (i:Int) w1.length=true:=bC (by omega);have d1:decide ((i:Int)<(w1.length:Int))=true:=by rw[hw];exact bV hi
 have w:i64.wrap ((i:Int)+1)=((i+1:Nat):Int):=aX (by omega);have ao:ext C T[i]=C++[T[i]]->∃v',some (Sum.inl (((C.length+1:Nat):Int),((i+1:Nat):Int),(aD x0 x1 C++mid++aD x0 x1 (T.drop i)).set C.length ⟨x0,T[i].from_,x1,T[i].to⟩))=some (Sum.inl v':(Int×Int×List aj)⊕(Int×List aj))/\v'.2.1=((i+1:Nat):Int)/\v'.1=(((ext C T[i]).length:Nat):Int)/\∃mid',v'.2.2=aD x0 x1 (ext C T[i])++mid'++aD x0 x1 (T.drop (i+1))/\mid'.length+(ext C T[i]).length=i+1:=λhe=>by refine⟨_,rfl,rfl,by rw[he];simp,ms,?_,by rw[he,bW,List.length_singleton];omega⟩;show(aD x0 x1 C++mid++aD x0 x1 (T.drop i)).set C.length _=_;rw[hA,aP,List.cons_append,he,GJ];have:=Zh (aD x0 x1 C) (ms++aD x0 x1 (T.drop (i+1))) m0 ⟨x0,T[i].from_,x1,T[i].to⟩;rw[lC]at this;rw[this];simp[aD]
 rcases List.eq_nil_or_concat C with e0|⟨o,q,e0⟩;subst e0;have e1:ext [] T[i]=[]++[T[i]]:=rfl;have d5:decide (((([]:U aN).length:Nat):Int)>0)=false:=rfl;have ib0:cR (((([]:U aN).length:Nat):Int)) w1.length=true:=bC (by simp;omega);have g0:∃z,ci (aD x0 x1 []++mid++aD x0 x1 (T.drop i)) (((0:Nat):Int)+((([]:U aN).length:Nat):Int))=some z:=by rw[hA];exact⟨m0,by simp[ci,aD]⟩
 obtain⟨z,g0⟩:=g0;have z0:(((0:Nat):Int)+((([]:U aN).length:Nat):Int)).toNat=([]:U aN).length:=rfl;have wl:i64.wrap (((([]:U aN).length:Nat):Int)+1)=(((([]:U aN).length+1:Nat)):Int):=aX (by simp);rw[hC];simp only[lH,d1,ak,ibi,g2,ai,d5,ay,ib0,g0,z0,wl,w];exact ao e1;rw[List.concat_eq_append]at e0;have d5:decide ((C.length:Int)>0)=true:=by rw[e0];simp
 have wp:i64.wrap ((C.length:Int)-1)=(o.length:Int):=by rw[kY (by rw[e0];simp) (by omega),e0];simp
 have ibo:cR (o.length:Int) w1.length=true:=bC (by rw[e0]at h4;simp at h4;omega);have ibc:cR (C.length:Int) w1.length=true:=bC (by omega);have lo:(aD x0 x1 o).length=o.length:=bR _ _ _;have gq:ci (aD x0 x1 C++mid++aD x0 x1 (T.drop i)) (((0:Nat):Int)+(o.length:Int))=some ⟨x0,q.from_,x1,q.to⟩:=by rw[uZ,e0,GJ,aP,aP,jf (by omega),lo,Nat.sub_self];rfl
 have zo:(((0:Nat):Int)+(o.length:Nat)).toNat=o.length:=by omega
 have zc:(((0:Nat):Int)+(C.length:Nat)).toNat=C.length:=by omega
 have wl:i64.wrap ((C.length:Nat)+1)=(C.length+1:Nat):=aX (by omega);have gc:∃z,ci (aD x0 x1 C++mid++aD x0 x1 (T.drop i)) ((0:Nat)+(C.length:Nat))=some z:=by rw[hA,uZ,aP,jf (by omega),lC,Nat.sub_self];exact⟨m0,rfl⟩
 obtain⟨z,gc⟩:=gc;rw[hC];simp only[lH,d1,ak,ibi,g2,ai,d5,wp,ibo,gq,ibc,zo,zc,wl,w];have eo:ext C T[i]=bif q.to==T[i].from_ then o++[⟨q.from_,T[i].to⟩]else o++[q]++[T[i]]:=by rw[e0];exact NP o q T[i]
 cases hq:q.to==T[i].from_ with
 |true=>
  rw[hq]at eo;simp only[ak]at eo |-;refine⟨_,rfl,rfl,?_,mid++[⟨x0,T[i].from_,x1,T[i].to⟩],?_,?_⟩;rw[eo,e0];simp;show(aD x0 x1 C++mid++aD x0 x1 (T.drop i)).set o.length _=_;rw[eo,e0,GJ,dr,GJ];have:=Zh (aD x0 x1 o) (mid++(⟨x0,T[i].from_,x1,T[i].to⟩::aD x0 x1 (T.drop (i+1)))) ⟨x0,q.from_,x1,q.to⟩ ⟨x0,q.from_,x1,T[i].to⟩;rw[lo]at this;simp;refine Eq.trans this ?_;simp[aD];rw[eo];rw[e0]at h4;simp at h4 |-;omega
 |false=>
  rw[hq]at eo;simp only[ay]at eo |-;have e1:ext C T[i]=C++[T[i]]:=by rw[eo,e0]
  simp only[gc,ai];exact ao e1
 obtain⟨v5,v6,v7⟩:=v;obtain⟨h1,h2,mid,h3,h4⟩:=hR;simp only at h1 h2 h3;subst h1;subst h2;subst h3;rw[List.take_length]at*;have d1:decide ((T.length:Int)<(w1.length:Nat))=false:=by rw[hw];exact Qn _
 simp only[lH,d1,ay];refine⟨_,rfl,rfl,?_,by omega⟩;show List.take _ (aD x0 x1 (T.foldl ext [])++mid++_)=_;rw[aP,List.take_left' (bR _ _ _)]
theorem ajz{l:U aj}(h:Br l) x:(dR l x).Pairwise λs t=>s.to<=t.from_\/t.to<=s.from_:=by unfold dR;rw[List.pairwise_map];refine(List.Pairwise.and_mem.1 (h.1.filter _)).imp λ{a b} hab=>?_;obtain⟨h1,h2,h3⟩:=hab;obtain⟨m1,p1⟩:=mem_filter.1 h1;obtain⟨m2,p2⟩:=mem_filter.1 h2;simp at p1 p2;have o1:=(iy _).1 (h.2 a m1);have o2:=(iy _).1 (h.2 b m2);show a.y1<=b.y0\/b.y1<=a.y0;by_cases c1:a.y1<=b.y0;exact .inl c1;by_cases c2:b.y1<=a.y0;exact .inr c2;exact(h3 x (max a.y0 b.y0) ((dP _ _ _).2 (by omega)) ((dP _ _ _).2 (by omega))).elim
theorem NZ{l:U aj}{x0 x1:Int}(hd:Br l)(ha:∀r∈l,(decide (r.x0<=x0)&&decide (x1<=r.x1))=(decide (r.x0<=x0)&&decide (x0<r.x1)))
 (hl:l.length<1099511627776) (hn:l.length<n):tQ n l x0 x1=some (aD x0 x1 (bA l x0)):=by
 have hv:=hd.2;have hs:Gx l x0 x1=dR l x0:=by unfold Gx dR;rw[List.filter_congr ha];rfl
 have h1:=Av l x0;have hp:=Nu Qw (aD x0 x1 (dR l x0));have hso:=PD Qw (aD x0 x1 (dR l x0));have h2:(rX vy (aD x0 x1 (dR l x0))).length=(dR l x0).length:=by rw[y5 Qw,bR]
 unfold tQ;simp[GI (x0:=x0) (x1:=x1) (l:=l) (by omega) (n:=n) (by omega),hs];rw[yT (λ a b=>if a.y0<b.y0 then -1 else if b.y0<a.y0 then 1 else 0) (λ a b=>by show pF a b=_;unfold pF;rw[jA];rfl) (λ a b=>by by_cases h1:a.y0<b.y0;simp[h1];by_cases h2:b.y0<a.y0<;>simp[h1,h2]) (by rw[bR];omega) (by rw[bR];omega)];simp;generalize hL:rX vy (aD x0 x1 (dR l x0))=L at*;have hx:∀r∈L,r.x0=x0/\r.x1=x1:=by intro r hr;have:=hp.mem_iff.1 hr;simp[aD]at this;obtain⟨s,_,rfl⟩:=this;exact⟨rfl,rfl⟩
 have eL:=ade hx;have pT:(L.map Qx).Perm (dR l x0):=by have:=hp.map Qx;rw[agW]at this;exact this
 have sT:(L.map Qx).Pairwise λx y=>x.from_<=y.from_:=by rw[List.pairwise_map];refine hso.imp λ{a b} hab=>?_;simp at hab;show a.y0<=b.y0;omega
 generalize L.map Qx=T at eL pT sT;subst eL;rw[bR]at h2;have oT:∀s∈T,xm s:=λs h=>NI hv x0 s (pT.mem_iff.1 h);have dT:T.Pairwise λs t=>s.to<=t.from_\/t.to<=s.from_:=(pT.pairwise_iff (λ {a b} h=>h.symm)).2 (ajz hd x0);have aT:T.Pairwise λx y=>x.to<=y.from_:=by refine(List.Pairwise.and_mem.1 (sT.and dT)).imp λ{a b} hab=>?_;obtain⟨m1,m2,s1,s2⟩:=hab;have:=oT a m1;have:=oT b m2;rcases s2 with h|h;exact h;simp at *;omega
 obtain⟨o,g1,g2,g3,g4⟩:=GK (n:=n) (x0:=x0) (x1:=x1) (aD x0 x1 (dR l x0)) T (by rw[bR];omega) (by omega) (by omega);obtain⟨o1,o2⟩:=o;simp at g2 g3;subst g2;rw[g1];have so:z8 0 ((T.foldl ext []).length:Nat) (aD x0 x1 (dR l x0)).length=true:=wM (by omega) (by omega) (by rw[bR];omega);have z:((((T.foldl ext []).length:Nat):Int)).toNat=(T.foldl ext []).length:=by omega
 rw[bR]at so;simp only[ai,bR,so,ak,z,anN,g3,aO];obtain⟨c1,c2⟩:=SQ T [] zA oT aT (by simp);have⟨d1,d2⟩:=gL hv x0;rw[ul c1 d1 λy=>by rw[c2,d2,xG,Bool.false_or,Zf pT,Cs]]
theorem ar6{x0 x1 u0 u1:Int}{c d:U aN}(hl:c.length<1099511627776)(hn:c.length<n):
 kF n (aD x0 x1 c) (aD u0 u1 d) (λ y:aj×aj×Unit=>oG y.1 y.2.1)=some (decide (c=d)):=by
 unfold kF;rw[bR,bR];by_cases hlen:c.length=d.length;have h0:((c.length:Int) !=(d.length:Nat))=false:=by simp[hlen]
 rw[h0];have zl:(c.zip d).length=c.length:=by rw[List.length_zip];omega
 have:=qi (l:=c.zip d) (step:=jh (aD x0 x1 c) (aD u0 u1 d) (λ y:aj×aj×Unit=>oG y.1 y.2.1)) (λ i=>(i:Nat)) (λ z=>!decide (z.1=z.2)) () (λ _=>false) (λ i hi=>?_) ?_ n (by omega);rw[io]at this;simp;rw[this];rcases Aj (λ z:aN×aN=>!decide (z.1=z.2)) (c.zip d)with ⟨i,hi,h1,h2,_⟩|⟨h1,h2⟩;rw[h1];have:c≠d:=by intro e;subst e;simp at h2
 simp[this];rw[h1];have:c=d:=by
  refine List.ext_getElem hlen λi hi hj=>?_;have hm:(c[i],d[i])∈c.zip d:=by rw[mem_iff_getElem];exact⟨i,by omega,by simp⟩
  have:=h2 _ hm;simpa using this
 simp[this];have hic:i<c.length:=by omega
 have hid:i<d.length:=by omega
 have hi':decide ((i:Int)<((aD x0 x1 c).length:Nat))=true:=by rw[bR];simpa using hic
 simp only[jh,hi',ak,Zt hic,Zt hid,ai,List.getElem_zip];generalize c[i]=p;generalize d[i]=q;obtain⟨p1,p2⟩:=p;obtain⟨q1,q2⟩:=q;have e:decide ((⟨p1,p2⟩:aN)=⟨q1,q2⟩)=((p1==q1)&&(p2==q2)):=by rw[dH];simp
 rw[e];unfold oG;simp;rw[aX (by omega)];cases p1==q1<;>cases p2==q2<;>rfl;have hi':decide ((((c.zip d).length:Nat):Int)<((aD x0 x1 c).length:Nat))=false:=by rw[bR,zl];simp
 simp only[jh,hi',ay];have h0:((c.length:Int) !=(d.length:Nat))=true:=by rw[bne_iff_ne];omega
 rw[h0];have:c≠d:=λe=>hlen (by rw[e]);simp[this]
theorem Kn{l:U aj}(hl:l.length<10995116277)(hn:l.length<n):iter (oH l) n (0,[])=some (l.flatMap λr=>[r.x0,r.x1]):=by
 have:=dG (l:=l) (step:=oH l) (λ i s=>(i,s)) (λ r s=>s++[r.x0,r.x1]) (λ s=>s) (λ i s=>s.length<=2*i)
  (λ i hi s hs=>?_) (λ s hs=>by simp[oH]) n hn [] (aB _)
 rw[io]at this;rw[this];have gen:∀(ys:U aj) s,ys.foldl (λ s r=>s++[r.x0,r.x1]) s=s++ys.flatMap λr=>[r.x0,r.x1]:=by
  intro ys
  induction ys with
  |nil=>intro s;simp
  |cons y ys ih=>intro s;simp[ih]
 congr 1;simpa using gen l [];have hi':decide ((i:Int)<(l.length:Nat))=true:=by simpa using hi
 have ap:bP s.length s.length (sub ([l[i].x0,l[i].x1]:U Int) 0 2).length 2 8=true:=cK (n:=2) (by omega) (by simp[maxLen];omega);simp only[oH,hi',ak,bB hi,ai,ap,eH,aO];refine⟨?_,by simp;omega⟩;rw[aX (by omega)];rfl
theorem Ko es (i:Nat) (hi:i+1<es.length) (he:es.length<1099511627776) pre (x' x1:Int) c (hl:pre.length+c.length<1099511627776) (hn:c.length<n):
 iter (oI ((),es) i (pre++aD x' x1 c)) n ((pre.length:Nat),pre++aD x' x1 c)=some (pre++aD x' es[i+1] c):=by
 have:=jg (step:=oI ((),es) i (pre++aD x' x1 c)) (λ j=>((pre.length+j:Nat),pre++(aD x' es[i+1] (c.take j)++aD x' x1 (c.drop j)))) c.length (pre++aD x' es[i+1] c) (λ j hj=>?_) ?_ n hn;simpa[aD]using this;have lt:(pre++aD x' x1 c).length=pre.length+c.length:=by rw[bW,bR]
 have d:decide (((pre.length+j:Nat):Int)<((pre++aD x' x1 c).length:Nat))=true:=by rw[lt];simp;omega
 have w:i64.wrap (i+1)=(i+1:Nat):=aX (by omega);have ib:cR (pre.length+j:Nat) (pre++aD x' x1 c).length=true:=bC (by rw[lt];omega);have tl:(aD x' es[i+1] (c.take j)).length=j:=by rw[bR,length_take];omega
 have dr:c.drop j=c[j]::c.drop (j+1):=drop_eq_getElem_cons hj;have e1:aD x' x1 (c.drop j)=⟨x',c[j].from_,x1,c[j].to⟩::aD x' x1 (c.drop (j+1)):=by rw[dr];rfl
 have g:ci (pre++(aD x' es[i+1] (c.take j)++aD x' x1 (c.drop j))) ((0:Nat)+(pre.length+j:Nat))=some ⟨x',c[j].from_,x1,c[j].to⟩:=by rw[uZ,jf (by omega),jf (by omega),tl,e1];simp
 have z:(((0:Nat):Int)+(pre.length+j:Nat)).toNat=pre.length+j:=by omega
 have sn:aD x' es[i+1] (c.take j++[c[j]])=aD x' es[i+1] (c.take j)++[aj.mk x' c[j].from_ es[i+1] c[j].to]:=by unfold aD;rw[map_append];rfl
 have st:(pre++(aD x' es[i+1] (c.take j)++aD x' x1 (c.drop j))).set (pre.length+j) (aj.mk x' c[j].from_ es[i+1] c[j].to)=pre++(aD x' es[i+1] (c.take (j+1))++aD x' x1 (c.drop (j+1))):=by rw[set_append_right _ _ (by omega),set_append_right _ _ (by omega),tl,e1,fU hj,sn,Nat.add_sub_cancel_left,Nat.sub_self,List.set_cons_zero,aP];rfl
 simp only[oI,d,ak,w,bC hi,bH hi,ai,ib,g,z,st];rw[aX (by omega)];rfl;have lt:(pre++aD x' x1 c).length=pre.length+c.length:=by rw[bW,bR]
 have d:decide ((pre.length+c.length:Nat)<((pre++aD x' x1 c).length:Nat))=false:=by rw[lt];simp
 simp[oI];simp[aD]
theorem Tv{l:U aj}(hd:Br l)(hl:l.length<=200000)(hn:1000000<=n):xA n l=some (bJ (aL l)):=by
 unfold xA;have hv:=hd.2;have he:=CY l;simp[Kn (l:=l) (n:=n) (by omega) (by omega)];rw[lN (by rw[nD];omega) (by rw[nD];omega)];simp only[ai,dN];rw[ny (by rw[dN,nD];omega) (by rw[dN,nD];omega)];simp only[ai];have hE:iE (jP mT (l.flatMap λr=>[r.x0,r.x1]))=bg l:=rfl;rw[hE];obtain⟨p1,p2⟩:=pO (λ a b=>(⟨a,b,bA l a⟩:aV)) (bg l);have hP:(aL l).length=(bg l).length-1:=p1;have bl:∀i,(bJ ((aL l).take i)).length<=400000*200000:=by
  intro i;have h1:=MZ ((aL l).take i) 200000 λs hs=>by have:=U9 (List.mem_of_mem_take hs);omega
  have h2:((aL l).take i).length<=400000:=by rw[length_take];omega
  exact Nat.le_trans h1 (Nat.mul_le_mul_right _ h2)
 have mx:max (0:Int) (i64.wrap ((((bg l).length:Nat):Int)-1))=(((aL l).length:Nat):Int):=by rw[bT (by omega) (by omega)];omega
 have key:iter (oJ n l ((),bg l)) n ((0:Int),([]:U aj),([]:U aj))=some (bJ (aL l)):=by
  have:=jg (step:=oJ n l ((),bg l)) (λ i=>((i:Int),bJ ((aL l).take i),Vi (aL l) i)) (aL l).length (bJ (aL l)) (λ i hi=>?_) ?_ n (by omega);simpa[bJ,Vi]using this;have hi2:i+1<(bg l).length:=by omega
  have hi1:i<(bg l).length:=by omega
  have d:decide ((i:Int)<((aL l).length:Nat))=true:=by simpa using hi
  have w:i64.wrap (i+1)=(i+1:Nat):=aX (by omega);have hs:(aL l)[i]=⟨(bg l)[i],(bg l)[i+1],bA l (bg l)[i]⟩:=p2 i hi2 hi;have adj:∀r∈l,(decide (r.x0<=(bg l)[i])&&decide ((bg l)[i+1]<=r.x1))=(decide (r.x0<=(bg l)[i])&&decide ((bg l)[i] <r.x1)):=by intro r hr;congr 1;have hm:r.x1∈bg l:=AB.2 ⟨r,hr,.inr rfl⟩;obtain⟨j,hj,e⟩:=mem_iff_getElem.1 hm;have hst:=tq l;rw[List.pairwise_iff_getElem]at hst;rw[<- e,dH,bF,bF];rcases Nat.lt_or_ge i j with hij|hij;have a1:=hst i j hi1 hj hij;rcases Nat.eq_or_lt_of_le (show i+1<=j by omega)with e|hlt;subst e;omega;have a2:=hst (i+1) j hi2 hj hlt;omega;rcases Nat.eq_or_lt_of_le hij with e|hlt;subst e;have a2:=hst j (j+1) hj hi2 (by omega);omega;have a1:=hst j i hj hi1 hlt;have a2:=hst i (i+1) hi1 hi2 (by omega);omega
  have lc:=vL l (bg l)[i];have co:=NZ (n:=n) (l:=l) (x0:=(bg l)[i]) (x1:=(bg l)[i+1]) hd adj (by omega) (by omega);have tk:=fU hi;have SU:(aL l).take (i+1)=(aL l).take i++[(⟨(bg l)[i],(bg l)[i+1],bA l (bg l)[i]⟩:aV)]:=by rw[tk,hs]
  have la:Vi (aL l) (i+1)=aD (bg l)[i] (bg l)[i+1] (bA l (bg l)[i]):=by unfold Vi;rw[SU,List.getLast?_append];rfl
  have bi:=bl i;have ap:bP (bJ ((aL l).take i)).length (bJ ((aL l).take i)).length (aD (bg l)[i] (bg l)[i+1] (bA l (bg l)[i])).length (aD (bg l)[i] (bg l)[i+1] (bA l (bg l)[i])).length 32=true:=by refine cK ?_ ?_;rw[bR];omega;rw[bR];simp[maxLen];omega
  simp only[oJ,mx,d,ak,bC hi1,bH hi1,ai,w,bC hi2,bH hi2,co,fG,aO,la,ap,eH];rcases List.eq_nil_or_concat ((aL l).take i)with e0|⟨S,t,e0⟩;have lz:Vi (aL l) i=aD 0 0 []:=by unfold Vi;rw[e0];rfl
  have wn:bJ ((aL l).take (i+1))=aD (bg l)[i] (bg l)[i+1] (bA l (bg l)[i]):=by rw[SU,e0];rfl
  have wz:bJ ((aL l).take i)=[]:=by rw[e0];rfl
  rw[lz,ar6 (by omega) (by omega),wn,wz];cases hc:bA l (bg l)[i]with
  |nil=>
   have dz:decide ((((aD (bg l)[i] (bg l)[i+1] []).length:Nat):Int)>0)=false:=(by simp[aD]);simp;rfl
  |cons q c=>
   have dz:decide (q::c=[])=false:=(by simp);simp only[dz,ai];cases decide (((aD (bg l)[i] (bg l)[i+1] (q::c)).length:Nat)>0)<;>simp<;>rfl
  rw[List.concat_eq_append]at e0;have lz:Vi (aL l) i=aD t.x0 t.x1 t.column:=by unfold Vi;rw[e0,List.getLast?_append];rfl
  have H2:(aL l).take (i+1)=S++[t,(⟨(bg l)[i],(bg l)[i+1],bA l (bg l)[i]⟩:aV)]:=by rw[SU,e0,aP];rfl
  rw[lz,ar6 (by omega) (by omega)];by_cases hc:bA l (bg l)[i]=t.column;have⟨pre,x',w1,w2⟩:=Vh ⟨(bg l)[i],(bg l)[i+1],bA l (bg l)[i]⟩ t hc S;have ww:bJ ((aL l).take i)=pre++aD x' t.x1 t.column:=by rw[e0,w1]
  have ym:bJ ((aL l).take (i+1))=pre++aD x' (bg l)[i+1] t.column:=by rw[H2,w2]
  rw[ym,ww];rw[ww,bW,bR]at bi;have s3:=Ko (n:=n) (bg l) i hi2 (by omega) pre x' t.x1 t.column (by omega) (by rw[<- hc];omega);have wd:i64.wrap (((pre++aD x' t.x1 t.column).length:Nat)-(((aD (bg l)[i] (bg l)[i+1] (bA l (bg l)[i])).length:Nat):Int))=(pre.length:Nat):=by rw[bW,bR,bR,hc,bT (by omega) (by omega)];omega
  have le:bk (pre++aD x' t.x1 t.column).length (pre++aD x' (bg l)[i+1] t.column).length=true:=by apply JH;rw[bW,bW,bR,bR]
  have dc:decide (bA l (bg l)[i]=t.column)=true:=by simpa using hc
  simp only[wd,s3,le,dc,ai,ak];cases hd:decide ((((aD (bg l)[i] (bg l)[i+1] (bA l (bg l)[i])).length:Nat):Int)>0)with
  |true=>simp
  |false=>
   have hz:t.column=[]:=(by rw[bR,hc]at hd;simp at hd;exact hd);have hz2:bA l (bg l)[i]=[]:=(by rw[hc,hz]);simp[hz,hz2,aD,map_nil,append_nil]
  have ym:bJ ((aL l).take (i+1))=bJ ((aL l).take i)++aD (bg l)[i] (bg l)[i+1] (bA l (bg l)[i]):=by rw[H2,Zv _ t hc S,e0]
  have dc:decide (bA l (bg l)[i]=t.column)=false:=by simpa using hc
  rw[ym];simp only[dc,ai];cases decide ((((aD (bg l)[i] (bg l)[i+1] (bA l (bg l)[i])).length:Nat):Int)>0)<;>simp;have d:decide (((aL l).length:Nat)<((aL l).length:Nat))=false:=by simp
  simp[oJ,mx,List.take_length,aO]
 rw[key];simp[aO]
abbrev A6(t:j6):Prop:=t.area.length<=900/\t.from_.length*8<=140737488355328
theorem ajA{t:j6}(h:A6 t):PX t=some t:=by unfold PX;have h2:=h.2;rw[Sz (by omega),ai,show Gd t.from_=some t.from_ from U3 (b:=8) (by omega) (by simp[maxLen];omega),ai];simp
theorem EU{land:U j6}{id:Int}(h:∀t∈land,A6 t)(hl:land.length<1099511627776)(hn:land.length<n):za n land id=some (dU land id):=by
 unfold za;have:=qi (l:=land) (step:=Gf land id) (λ i=>i) (λ t=>t.id==id) () (λ i=>(land.getD i aox,true)) (λ i hi=>?_) ?_ n hn;rw[io]at this;rw[this];unfold dU;rcases ZC (λ t:j6=>t.id==id) land with ⟨i,hi,h1,h2⟩|⟨h1,h2⟩;rw[h1,h2];simp[hi];rw[h1,h2];rfl;simp only[Gf,bV hi,ak,bB hi,ai,ajA (h _ (getElem_mem hi))];cases land[i].id==id with
 |true=>simp[hi]
 |false=>simp only[ay];rw[aX (by omega)]
 simp[Gf]
theorem wS{land:U j6}(h:∀t∈land,A6 t) id:A6 (dU land id).1:=by unfold dU;split;rename_i t ht;exact h t (List.mem_of_find?_eq_some ht);simp[A6,aox]
structure ZL(t:dK):Prop where
 rules:t.aw.length<=20
 Cl:∀r∈t.aw,ajx r
 zones:t.bu.length<=20
 land:t.land.length<=20
 lots:∀l∈t.land,A6 l
 bz:t.bz.length<=5
 xj:∀e∈t.bz,e.area.length<=10
theorem Kq{α:Type}(p:α->Bool):∀l:U α,((List.range l.length).filter λi=>(l[i]?).any p).filterMap (λ i=>l[i]?)=l.filter p
 |[]=>rfl
 |a::l=>by
  have ih:=Kq p l;rw[eu,List.range_succ_eq_map,List.filter_cons,List.filter_cons];have e:(List.filter (λ i=>((a::l)[i]?).any p) (List.map Nat.succ (List.range l.length))).filterMap (λ i=>(a::l)[i]?)=l.filter p:=by rw[List.filter_map,List.filterMap_map];exact ih
  cases hp:p a with
  |true|false=>simp[hp];simpa using e
def yM(t:dK)(lot day:Int):U bO:=bif(dU t.land lot).2 then t.aw.filter (ku (wj t.bu (dU t.land lot).1.area) day)else []
theorem N7(t:dK)(lot day:Int):(yM t lot day).length<=t.aw.length:=by
 unfold yM;cases (dU t.land lot).2 with
 |true=>exact length_filter_le _ _
 |false=>simp
theorem Cv{t:dK}(h:ZL t)(lot day:Int)(hn:2000<=n):qR n t lot day=some (yM t lot day):=by
 obtain⟨h1,h2,h3,h4,h5,h6,h7⟩:=h;unfold qR yM;rw[EU h5 (by omega) (by omega)];simp only[ai];have lw:=wS h5 lot;cases (dU t.land lot).2 with
 |false=>rfl
 |true=>
  have zl:=ak7 t.bu (dU t.land lot).1.area;simp only[Bool.not_true,ay,ak];rw[QE _ _ (by simp;omega) lw.1 hn];simp only[ai,fG,aO,ak];rw[Hq _ _ _ h2 (by simp;omega) (by omega) hn];simp only[ai,length_nil,aO,ak];generalize hZ:wj t.bu (dU t.land lot).1.area=φ at*;have hm:∀i∈Dc t.aw φ day,i<t.aw.length:=λi hi=>List.mem_range.1 (mem_filter.1 hi).1;have hlen:(Dc t.aw φ day).length<=t.aw.length:=by have:=length_filter_le (λ i=>(t.aw[i]?).any (ku φ day)) (List.range t.aw.length);rw[List.length_range]at this;exact this
  rw[<- Kq];rw[show ((List.range t.aw.length).filter λi=>(t.aw[i]?).any (ku φ day))=Dc t.aw φ day from rfl];generalize Dc t.aw φ day=az at*
  have:=dG (l:=az) (step:=qE t (az.map λ(i:Nat)=>i)) (λ i s=>(i,s)) (λ i s=>s++(t.aw[i]?).toList) (λ s=>s) (λ i s=>s.length<=i)
   (λ i hi s hs=>?_) (λ s hs=>by simp[qE]) n (by omega) [] (aB _)
  rw[io]at this;rw[this];simp only[ai];congr 1;have gen:∀(ys:U Nat) s,ys.foldl (λ s i=>s++(t.aw[i]?).toList) s=s++ys.filterMap λi=>t.aw[i]? :=by
   intro ys
   induction ys with
   |nil=>intro s;simp
   |cons y ys ih=>
    intro s;rw[foldl_cons,ih,List.filterMap_cons];cases t.aw[y]?<;>simp
  exact gen az [];have hk:=hm _ (getElem_mem hi);have e1:(az.map λ(i:Nat)=>(i:Int)).length=az.length:=length_map _;have g1:ci (az.map λ(i:Nat)=>(i:Int)) ((0:Nat)+(i:Nat))=some ((az[i]:Nat):Int):=by rw[bH (by rw[e1];exact hi)];simp
  have ap:bP s.length s.length (sub ([t.aw[az[i]]]:U bO) 0 1).length 1 232=true:=cK (n:=1) (by omega) (by simp[maxLen];omega);simp only[qE,e1,bV hi,ak,bC hi,g1,ai,bB hk,ap,eH,aO,aW i];rw[dY hk];exact⟨rfl,by simp;omega⟩
def vO:ByteArray:=⟨#[115,101,116,98,97,99,107]⟩
def wT(r:bO):Bool:=match r.cM with
 |[a,b]=>r.kind==0&&(r.ga==12&&(a.op==0&&(decide (a.args.length=0)&&(b.op==1&&(fp b.s vO&&decide (b.args.length=0))))))
 |_=>false
def QH(r:bO):Int:=match r.cM with
 |[a,_]=>a.n
 |_=>0
theorem LX(r:bO):∃m,rP r=some (m,wT r)/\(wT r=true->m=QH r):=by
 unfold rP wT QH;by_cases h2:r.cM.length=2
 match hm:r.cM,h2 with
 |[a,b],_=>
  have l2:((([a,b]:U dD).length:Nat) !=2)=false:=rfl;have g0:ci [a,b] 0=some a:=rfl;have g1:ci [a,b] 1=some b:=rfl;have la:((a.args.length:Int)==0)=decide (a.args.length=0):=by rw[dH];simp
  have lb:((b.args.length:Int)==0)=decide (b.args.length=0):=by rw[dH];simp
  simp only[uN,ai,g0,g1,la,lb,bne];rw[show (ByteArray.toList b.s==ByteArray.toList (⟨#[115,101,116,98,97,99,107]⟩))=fp b.s vO from rfl];generalize fp b.s vO=q;generalize (a.op==0)=q1;generalize (b.op==1)=q2;generalize decide (a.args.length=0)=q3;generalize decide (b.args.length=0)=q4;cases r.kind==0<;>cases r.ga==12<;>cases q<;>cases q1<;>cases q2<;>cases q3<;>cases q4<;>exact⟨_,rfl,λh=>by first|rfl|cases h⟩
 have l2:((r.cM.length:Int) !=2)=true:=by rw[bne_iff_ne];omega
 have e:(match r.cM with
  |[a,b]=>r.kind==0&&(r.ga==12&&(a.op==0&&(decide (a.args.length=0)&&(b.op==1&&(fp b.s vO&&decide (b.args.length=0))))))
  |_=>false)=false:=by
  match hm:r.cM with
  |[]|[_]=>rfl
  |[_,_]=>rw[hm]at h2;simp at h2
  |_::_::_::_=>rfl
 rw[e,l2];refine⟨0,?_,λh=>by cases h⟩;cases r.kind !=0<;>cases r.ga !=12<;>rfl
def vP(t:dK)(lot day:Int):Int:=(yM t lot day).foldl (λ m r=>bif wT r then max m (QH r)else m) 0
theorem aoE(t:dK)(lot day:Int):0<=vP t lot day:=by
 unfold vP;have:∀(l:U bO) m,0<=m->0<=l.foldl (λ m r=>bif wT r then max m (QH r)else m) m:=by
  intro l
  induction l with
  |nil=>intro m h;exact h
  |cons r l ih=>
   intro m h;rw[foldl_cons];refine ih _ ?_;cases wT r with
   |true=>simp;omega
   |false=>exact h
 exact this _ _ (Int.le_refl _)
theorem qX{t:dK}(h:ZL t)(lot day:Int)(hn:2000<=n):mX n t lot day=some (vP t lot day):=by
 have hl:=N7 t lot day;have h1:=h.rules;unfold mX vP;rw[Cv h lot day hn];simp only[ai];generalize yM t lot day=l at*;have:=kZ (l:=l) (step:=mW l) (λ i s=>(s,(i:Nat))) (λ r m=>bif wT r then max m (QH r)else m) (λ s=>s) (λ i hi s=>?_) (λ s=>by simp[mW]) n (by omega) 0;rw[io]at this;rw[this];rfl;have⟨m,e1,e2⟩:=LX l[i];simp only[mW,bV hi,ak,bC hi,bH hi,ai,e1,uN,aW i];cases hs:wT l[i]with
 |true=>rw[e2 hs]
 |false=>rfl
def Xm(r:bO):bU:=⟨r.eM,r.eQ,r.fi,r.fj⟩
def vQ(t:dK)(lot day:Int):U bU:=((yM t lot day).filter λr=>r.kind==1).map Xm
theorem ahc(t:dK)(lot day:Int):(vQ t lot day).length<=t.aw.length:=by unfold vQ;rw[length_map];exact Nat.le_trans (length_filter_le _ _) (N7 t lot day)
theorem um{t:dK}(h:ZL t)(lot day:Int)(hn:2000<=n):l9 n t lot day=some (vQ t lot day):=by
 have hl:=N7 t lot day;have h1:=h.rules;unfold l9 vQ;rw[Cv h lot day hn];simp;generalize yM t lot day=l at*
 have:=dG (l:=l) (step:=pE l) (λ i s=>(i,s)) (λ r s=>bif r.kind==1 then s++[Xm r]else s) (λ s=>s) (λ i s=>s.length<=i)
  (λ i hi s hs=>?_) (λ s hs=>by simp[pE]) n (by omega) [] (aB _)
 rw[io]at this;rw[this];simp;congr 1;have gen:∀(ys:U bO) s,ys.foldl (λ s r=>bif r.kind==1 then s++[Xm r]else s) s=s++(ys.filter λr=>r.kind==1).map Xm:=by
  intro ys
  induction ys with
  |nil=>intro s;simp
  |cons y ys ih=>
   intro s;rw[foldl_cons,ih,List.filter_cons];cases y.kind==1<;>simp
 exact gen l [];have ap:bP s.length s.length (sub ([bU.mk (l[i]).eM (l[i]).eQ (l[i]).fi (l[i]).fj]:U bU) 0 1).length 1 32=true:=cK (n:=1) (by omega) (by simp[maxLen];omega);simp only[pE,bV hi,ak,bC hi,bH hi,ai,uN,ap,eH,aO,aW i];cases (l[i]).kind==1<;>refine⟨rfl,?_⟩<;>simp<;>omega
def Vn(a r:aj):aj:=⟨min a.x0 r.x0,min a.y0 r.y0,max a.x1 r.x1,max a.y1 r.y1⟩
def Xn:U aj->aj
 |[]=>⟨0,0,0,0⟩
 |r::l=>l.foldl Vn r
def nH(a:U aj):aj×Bool:=bif decide (a≠[])&&br a then(Xn a,true)else(⟨0,0,0,0⟩,false)
theorem ahd{a:U aj}(ha:a≠[])(hv:∀r∈a,cT r=true)(hl:a.length<=900)(hn:2000<=n):Qa n a=some (Xn a,true):=by
 unfold Qa;have:=kZ (l:=a.zip (List.range a.length)) (step:=Cb a) (λ i (s:Bool×Int×Int×Int×Int)=>(s.1,(i:Nat),s.2)) (λ p s=>bif !s.1 then(true,p.1.x0,p.1.y0,p.1.x1,p.1.y1)else(s.1,min s.2.1 p.1.x0,min s.2.2.1 p.1.y0,max s.2.2.2.1 p.1.x1,max s.2.2.2.2 p.1.y1)) (λ s=>s) (λ i hi s=>?_) (λ s=>?_) n (by simp;omega) (false,0,0,0,0);rw[io]at this;simp only at this;rw[this];cases a with
 |nil=>exact absurd rfl ha
 |cons r l=>
  have gen:∀(l:U aj)(k:U Nat)(s:aj),l.length<=k.length->(l.zip k).foldl (λ (s:Bool×Int×Int×Int×Int) p=>bif !s.1 then(true,p.1.x0,p.1.y0,p.1.x1,p.1.y1)else(s.1,min s.2.1 p.1.x0,min s.2.2.1 p.1.y0,max s.2.2.2.1 p.1.x1,max s.2.2.2.2 p.1.y1)) (true,s.x0,s.y0,s.x1,s.y1)=(true,(l.foldl Vn s).x0,(l.foldl Vn s).y0,(l.foldl Vn s).x1,(l.foldl Vn s).y1):=by
   intro l
   induction l with
   |nil=>intro k s _;rfl
   |cons r l ih=>
    intro k s hk;cases k with
    |nil=>simp at hk
    |cons j k=>
     rw[List.zip_cons_cons,foldl_cons,foldl_cons];exact ih k (Vn s r) (by simpa using hk)
  rw[eu,List.range_succ_eq_map,List.zip_cons_cons,foldl_cons];simp only[Bool.not_false,ak];rw[gen l _ r (by simp)];rfl
 have hi':i<a.length:=by simpa using hi
 obtain⟨s1,s2,s3,s4,s5⟩:=s;have ok:=hv _ (getElem_mem hi');simp only[Cb,bV hi',ak,bB hi',ai,j3,ok,Bool.not_true,ay,uN,List.getElem_zip,aW i];obtain⟨s1,s2,s3,s4,s5⟩:=s;have:(a.zip (List.range a.length)).length=a.length:=by simp
 simp[Cb]
theorem QI a (hl:a.length<=900) (hn:2000<=n):zR n a=some (nH a):=by
 unfold zR nH;cases a with
 |nil=>rfl
 |cons r l=>
  have e:((((r::l).length:Nat):Int)==0)=false:=by simp;omega
  have e2:decide (r::l≠[])=true:=by simp
  rw[iJ (by omega) (by omega) (by omega),e,e2];simp;cases hr:br (r::l)with
  |false=>rfl
  |true=>
   simp;rw[ahd (by simp) (dS hr).1 hl hn];rfl
theorem ZM:∀(l:U aj)(r:aj),cT r=true->(∀ q∈l,cT q=true)->cT (l.foldl Vn r)=true
 |[],_,h,_=>h
 |q::l,r,h,hl=>by rw[foldl_cons];refine ZM l _ ?_ λp hp=>hl p (bq _ hp);have:=hl q mem_cons_self;rw[iy]at*;unfold Vn;simp;omega
theorem ZN{a:U aj}(h:a≠[])(hr:br a=true):nH a=(Xn a,true)/\cT (Xn a)=true:=by
 unfold nH;have e2:decide (a≠[])=true:=by simpa using h
 rw[hr,e2];refine⟨rfl,?_⟩;have hv:=(dS hr).1;cases a with
 |nil=>exact absurd rfl h
 |cons r l=>exact ZM l r (hv r mem_cons_self) λq hq=>hv q (bq _ hq)
def wU(base may:U aj):U aj:=base.flatMap λr=>(may.filter (je r)).map (dF r)
theorem ahe(base may:U aj)(x y:Int):aZ (wU base may) x y=(aZ base x y&&aZ may x y):=by
 unfold wU;rw[Km,dH,aY,any_eq_true];constructor;rintro⟨r,hr,h⟩;obtain⟨q,hq,hh⟩:=(lT _ _ _).1 h;obtain⟨m,hm,rfl⟩:=mem_map.1 hq;rw[Kl,aY]at hh;exact⟨(lT _ _ _).2 ⟨r,hr,hh.1⟩,(lT _ _ _).2 ⟨m,(mem_filter.1 hm).1,hh.2⟩⟩;rintro⟨h1,h2⟩;obtain⟨r,hr,hh1⟩:=(lT _ _ _).1 h1;obtain⟨m,hm,hh2⟩:=(lT _ _ _).1 h2;refine⟨r,hr,(lT _ _ _).2 ⟨dF r m,mem_map.2 ⟨m,mem_filter.2 ⟨hm,?_⟩,rfl⟩,by rw[Kl,hh1,hh2];rfl⟩⟩;cases hb:je r m with
 |true=>rfl
 |false=>have:=ado hb x y;rw[hh1,hh2]at this;cases this
theorem ahf{base may:U aj}(hb:Br base)(h1:may.length<=1)(hm:∀q∈may,cT q=true):Br (wU base may):=by
 refine⟨?_,λq hq=>?_⟩;unfold wU;rw[List.pairwise_flatMap];refine⟨λ r hr=>?_,hb.1.imp λ{r s} hrs p hp q hq x y g1 g2=>?_⟩;have:((may.filter (je r)).map (dF r)).length<=1:=by rw[length_map];exact Nat.le_trans (length_filter_le _ _) h1
 match (may.filter (je r)).map (dF r),this with
 |[],_=>exact List.Pairwise.nil
 |[_],_=>simp
 |_::_::_,h=>simp at h
 obtain⟨m,_,rfl⟩:=mem_map.1 hp;obtain⟨m',_,rfl⟩:=mem_map.1 hq;rw[Kl,aY]at g1 g2;exact hrs x y g1.1 g2.1;obtain⟨r,hr,h⟩:=mem_flatMap.1 hq;obtain⟨m,hm',rfl⟩:=mem_map.1 h;obtain⟨hm1,hm2⟩:=mem_filter.1 hm';exact aeK (hb.2 r hr) (hm m hm1) hm2
theorem ahg{base may:U aj}{X Δ:U Int}(hx:∀r∈base,r.x0∈X/\r.y0∈Δ)(hm:∀r∈may,r.x0∈X/\r.y0∈Δ):ES X Δ (wU base may):=by intro q hq;obtain⟨r,hr,h⟩:=mem_flatMap.1 hq;obtain⟨m,hm',rfl⟩:=mem_map.1 h;have a:=hx r hr;have b:=hm m (mem_filter.1 hm').1;exact⟨Xl a.1 b.1,Xl a.2 b.2⟩
def wV(h:Int)(l:U aj)(es:U dI):U aj:=es.foldl (λ l e=>bif decide (e.top>=h)then l else e.area.foldl Ig l) l
theorem Kr may z (r:aj) aa (ho:aa.length<=1000000) (h1:may.length<=1000) (hn:2000<=n):
 iter (oK (may,z) r) n (0,aa)=some (aa++(may.filter (je r)).map (dF r)):=by
 have:=dG (l:=may) (step:=oK (may,z) r) (λ i s=>(i,s)) (λ m s=>bif je r m then s++[dF r m]else s) (λ s=>s) (λ i s=>s.length<=aa.length+i)
  (λ i hi s hs=>?_) (λ s hs=>by simp[oK]) n (by omega) aa (aB _)
 rw[io]at this;rw[this];congr 1;have gen:∀(ys:U aj) s,ys.foldl (λ s m=>bif je r m then s++[dF r m]else s) s=s++(ys.filter (je r)).map (dF r):=by
  intro ys
  induction ys with
  |nil=>intro s;simp
  |cons y ys ih=>
   intro s;rw[foldl_cons,ih,List.filter_cons];cases je r y<;>simp
 exact gen may aa;have ap:bP s.length s.length (sub ([dF r may[i]]:U aj) 0 1).length 1 32=true:=cK (n:=1) (by omega) (by simp[maxLen];omega);simp only[oK,bV hi,ak,bC hi,bH hi,ai,ER,uN,ap,eH,aO,aW i];rw[show (decide ((dF r may[i]).x0<(dF r may[i]).x1)&&decide ((dF r may[i]).y0<(dF r may[i]).y1))=je r may[i]from rfl];cases je r may[i]<;>refine⟨rfl,?_⟩<;>simp<;>omega
theorem Kt(base may:U aj) z (h0:base.length<=1000) (h1:may.length<=1) (hn:2000<=n):
 iter (oL n base (may,z)) n (0,[])=some (wU base may):=by
 have:=dG (l:=base) (step:=oL n base (may,z)) (λ i s=>(i,s)) (λ r s=>s++(may.filter (je r)).map (dF r)) (λ s=>s) (λ i s=>s.length<=i)
  (λ i hi s hs=>?_) (λ s hs=>by simp[oL]) n (by omega) [] (aB _)
 rw[io]at this;rw[this];congr 1;have gen:∀ys s,ys.foldl (λ s r=>s++(may.filter (je r)).map (dF r)) s=s++wU ys may:=by
  intro ys
  induction ys with
  |nil=>intro s;simp[wU]
  |cons y ys ih=>intro s;rw[foldl_cons,ih];simp[wU]
 exact gen base [];have l1:((may.filter (je base[i])).map (dF base[i])).length<=1:=by rw[length_map];exact Nat.le_trans (length_filter_le _ _) h1
 simp only[oL,bV hi,ak,bB hi,ai,aO,Kr may z base[i] s (by omega) (by omega) hn,aW i];exact⟨trivial,by rw[bW];omega⟩
structure PP(X Δ:List Int)(es:List dI):Prop where
 ok:∀e∈es,br e.area=true
 x0:∀e∈es,∀c∈e.area,c.x0∈X
 x1:∀e∈es,∀c∈e.area,c.x1∈X
 y1:∀e∈es,∀c∈e.area,c.y1∈Δ
 len:∀e∈es,e.area.length<=200
 size:X.length*Δ.length<=200000
theorem Tw{X Δ:U Int}(hs:X.length*Δ.length<=200000):∀cs,(∀ c∈cs,cT c=true/\c.x0∈X/\c.x1∈X/\c.y1∈Δ)->∀l,Br l->ES X Δ l->Br (cs.foldl Ig l)/\ES X Δ (cs.foldl Ig l)/\∀x y,aZ (cs.foldl Ig l) x y=(aZ l x y&&!aZ cs x y)
 |[],_,l,hd,hx=>⟨hd,hx,λx y=>by simp[aZ]⟩
 |c::cs,h,l,hd,hx=>by
  obtain⟨o,a,b,d⟩:=h c mem_cons_self;obtain⟨g1,g2,g3⟩:=Tw hs cs (λ q hq=>h q (bq _ hq)) (Ig l c) (adp hd o) (adq hd.2 o hx a b d);refine⟨g1,g2,λx y=>?_⟩;rw[foldl_cons,g3,aml];have e:aZ (c::cs) x y=(fI c x y || aZ cs x y):=by simp[aZ,fI]
  rw[e];cases aZ l x y<;>cases fI c x y<;>cases aZ cs x y<;>rfl
theorem Ku{X Δ:U Int}{h:Int}:∀es,PP X Δ es->∀l,Br l->ES X Δ l->Br (wV h l es)/\ES X Δ (wV h l es)/\∀x y,aZ (wV h l es) x y=(aZ l x y&&es.all λe=>decide (h<=e.top) || !aZ e.area x y)
 |[],_,l,hd,hx=>⟨hd,hx,λx y=>by simp[wV]⟩
 |e::es,hc,l,hd,hx=>by
  have hc':PP X Δ es:=⟨λ a ha=>hc.ok a (bq _ ha),λa ha=>hc.x0 a (bq _ ha),λa ha=>hc.x1 a (bq _ ha),λa ha=>hc.y1 a (bq _ ha),λa ha=>hc.len a (bq _ ha),hc.size⟩;have em:e∈e::es:=mem_cons_self;have dd:decide (e.top>=h)=decide (h<=e.top):=rfl;by_cases ht:h<=e.top;have d:decide (h<=e.top)=true:=by simpa using ht
  have e0:wV h l (e::es)=wV h l es:=by unfold wV;rw[foldl_cons,dd,d];rfl
  rw[e0];have⟨g1,g2,g3⟩:=Ku (h:=h) es hc' l hd hx;refine⟨g1,g2,λx y=>?_⟩;rw[g3,all_cons,d];simp;have d:decide (h<=e.top)=false:=by simpa using ht
  have e0:wV h l (e::es)=wV h (e.area.foldl Ig l) es:=by unfold wV;rw[foldl_cons,dd,d];rfl
  rw[e0];obtain⟨k1,k2,k3⟩:=Tw hc.size e.area (λ c hcm=>⟨(dS (hc.ok e em)).1 c hcm,hc.x0 e em c hcm,hc.x1 e em c hcm,hc.y1 e em c hcm⟩) l hd hx;obtain⟨g1,g2,g3⟩:=Ku (h:=h) es hc' _ k1 k2;refine⟨g1,g2,λx y=>?_⟩;rw[g3,k3,all_cons,d,Bool.false_or,Bool.and_assoc]
theorem Kv(e:dI){X Δ:U Int}(hs:X.length*Δ.length<=200000)(he:∀c∈e.area,cT c=true/\c.x0∈X/\c.x1∈X/\c.y1∈Δ)(hl:e.area.length<=1000) l (hd:Br l) (hx:ES X Δ l) (hn:1000000<=n):
 iter (oM n e) n (0,l)=some (e.area.foldl Ig l):=by
 have:=dG (l:=e.area) (step:=oM n e) (λ i s=>(i,s)) (λ c s=>Ig s c) (λ s=>s) (λ i s=>Br s/\ES X Δ s)
  (λ i hi s hs'=>?_) (λ s hs=>by simp[oM]) n (by omega) l ⟨hd,hx⟩
 rw[io]at this;exact this;obtain⟨o,a,b,c⟩:=he _ (getElem_mem hi);have hlen:=aha hs'.1 hs'.2;simp only[oM,bV hi,ak,bB hi,ai,fG,aO,VQ (n:=n) (l:=s) (e.area[i]) (by omega) (by omega) (by omega),aW i];exact⟨trivial,adp hs'.1 o,adq hs'.1.2 o hs'.2 a b c⟩
theorem Kw{X Δ:U Int}{h:Int} es (hc:PP X Δ es) (hl:es.length<=1000) l (hd:Br l) (hx:ES X Δ l) (hn:1000000<=n):
 iter (oN n es h) n (0,l)=some (wV h l es):=by
 have:=dG (l:=es) (step:=oN n es h) (λ i s=>(i,s)) (λ e s=>bif decide (e.top>=h)then s else e.area.foldl Ig s) (λ s=>s) (λ i s=>Br s/\ES X Δ s)
  (λ i hi s hs'=>?_) (λ s hs=>by simp[oN]) n (by omega) l ⟨hd,hx⟩
 rw[io]at this;exact this;have em:=getElem_mem hi;have al:=hc.len _ em;have hcs:∀c∈(es[i]).area,cT c=true/\c.x0∈X/\c.x1∈X/\c.y1∈Δ:=λc hcm=>⟨(dS (hc.ok _ em)).1 c hcm,hc.x0 _ em c hcm,hc.x1 _ em c hcm,hc.y1 _ em c hcm⟩;have r4:=Kv (n:=n) es[i] hc.size hcs (by omega) s hs'.1 hs'.2 hn;have⟨k1,k2,_⟩:=Tw hc.size (es[i]).area hcs s hs'.1 hs'.2;simp only[oN,bV hi,ak,bB hi,ai,aO,r4,uN,aW i];cases decide ((es[i]).top>=h)with
 |true=>exact⟨trivial,hs'⟩
 |false=>exact⟨trivial,k1,k2⟩
def Nm(base:U aj)(b:aj)(ps:U bU)(es:U dI)(h x y:Int):Bool:=
 aZ base x y&&(decide (qJ b ps=true/\∀p∈ps,h<=Tq b p x y)&&es.all λe=>decide (h<=e.top) || !aZ e.area x y)
def Mn(l:U aj):U aj×Int:=if l.length>200 then([],6)else(l,0)
theorem N8 base (b:aj) ps es {h:Int} (hb:br base=true) (hp:ps.length<=1000) (hes:∀e∈es,br e.area=true) (hel:es.length<=5) (hal:∀e∈es,e.area.length<=10) (hh:1<=h/\h<=4096) (hn:1000000<=n):
 ∃L,Br L/\(∀ x y,aZ L x y=Nm base b ps es h x y)/\ql n base b ps es h=some (Mn (bJ (aL L))):=by
 unfold ql;cases hbase:base with
 |nil=>exact⟨[],⟨List.Pairwise.nil,by simp⟩,λx y=>by simp[aZ,Nm],rfl⟩
 |cons r0 l0=>
  rw[<- hbase];have e0:((base.length:Int)==0)=false:=by rw[hbase];simp;omega
  have⟨bv,bl,_⟩:=dS hb;obtain⟨r,g1,g2,g3,g4⟩:=VO (n:=n) b ps hh hp (by omega);obtain⟨may,z⟩:=r;simp only at g2 g3 g4;have hd:=ZK hb;have dC:=ahf hd g2 g3
  let cs:=es.flatMap λe=>e.area
  have hcsl:cs.length<=50:=by show(es.flatMap λe=>e.area).length<=50;rw[List.flatMap_def];have:=AL 10 (es.map λe=>e.area) λx hx=>(by obtain⟨e,he,rfl⟩:=mem_map.1 hx;exact hal e he);rw[length_map]at this;omega
  let X:=(base.map (·.x0))++(may.map (·.x0))++(cs.map (·.x0))++(cs.map (·.x1))
  let Δ:=(base.map (·.y0))++(may.map (·.y0))++(cs.map (·.y1))
  have hX:X.length<=301:=by show((base.map (·.x0))++(may.map (·.x0))++(cs.map (·.x0))++(cs.map (·.x1))).length<=301;simp;omega
  have hY:Δ.length<=251:=by show((base.map (·.y0))++(may.map (·.y0))++(cs.map (·.y1))).length<=251;simp;omega
  have hXY:X.length*Δ.length<=200000:=Nat.le_trans (Nat.mul_le_mul hX hY) (by omega);have mc:∀e∈es,∀c∈e.area,c∈cs:=λe he c hc=>mem_flatMap.2 ⟨e,he,hc⟩;have hC:PP X Δ es:=⟨hes,λe he c hc=>by simp only[X,bD,mem_map];exact .inl (.inr ⟨c,mc e he c hc,rfl⟩),λe he c hc=>by simp only[X,bD,mem_map];exact .inr ⟨c,mc e he c hc,rfl⟩,λe he c hc=>by simp only[Δ,bD,mem_map];exact .inr ⟨c,mc e he c hc,rfl⟩,λe he=>by have:=hal e he;omega,hXY⟩;have cC:ES X Δ (wU base may):=ahg (λ r hr=>⟨by simp only[X,bD,mem_map];exact .inl (.inl (.inl ⟨r,hr,rfl⟩)),by simp only[Δ,bD,mem_map];exact .inl (.inl ⟨r,hr,rfl⟩)⟩) (λ r hr=>⟨by simp only[X,bD,mem_map];exact .inl (.inl (.inr ⟨r,hr,rfl⟩)),by simp only[Δ,bD,mem_map];exact .inl (.inr ⟨r,hr,rfl⟩)⟩);have⟨k1,k2,k3⟩:=Ku (h:=h) es hC (wU base may) dC cC;refine⟨wV h (wU base may) es,k1,λx y=>?_,?_⟩;rw[k3,ahe];unfold Nm;rw[Bool.and_assoc];cases hcb:aZ base x y with
  |false=>rfl
  |true=>
   have ig:yl x y:=kV bv hcb;congr 2;rw[dH,g4,bF];exact⟨λ ⟨a,_,c⟩=>⟨a,c⟩,λ⟨a,c⟩=>⟨a,ig,c⟩⟩
  have kl:=aha k1 k2;rw[e0];simp[g1,Kt base may z (by omega) g2 (show 2000<=n by omega),Kw es hC (by omega) _ dC cC hn,Tv k1 (by omega) hn];unfold Mn;generalize bJ (aL (wV h (wU base may) es))=W;by_cases h2:W.length>200;have:decide ((W.length:Int)>200)=true:=by simp;omega
  rw[this,aM h2];rfl;have:decide ((W.length:Int)>200)=false:=by simp;omega
  rw[this,aC h2];rfl
theorem ajB{L:U aj}(h:Br L)(hl:(bJ (aL L)).length<=200):br (bJ (aL L))=true/\∀x y,aZ (bJ (aL L)) x y=aZ L x y:=by
 have hc:∀x,gP (aL L) x=bA L x:=qo L;have hin:∀x y,ea (gP (aL L) x) y=aZ L x y:=λx y=>by rw[hc,(gL h.2 x).2]
 refine⟨Gv (lQ L) (λ x=>by rw[hc];exact(gL h.2 x).1) (λ x y hxy=>kV h.2 (by rw[<- hin];exact hxy)) hl,λx y=>?_⟩;rw[Gu (lQ L),hin]
def Nd(t:dK)(lot:Int):U dI:=t.bz.filter λe=>e.lot==lot&&br e.area
def fC(t:dK)(lot:Int):U aj:=(dU t.land lot).1.area
def lU(t:dK)(lot day:Int):U aj×Int:=if vP t lot day<=1048576 then qI (fC t lot) (vP t lot day)else([],0)
theorem ahj a d:(qI a d).2=0\/((qI a d).1=[]/\((qI a d).2=1\/(qI a d).2=6)):=by unfold qI;split;split;exact .inr ⟨rfl,.inr rfl⟩;exact .inl rfl;exact .inr ⟨rfl,.inl rfl⟩
theorem amn(t:dK)(lot day:Int):(lU t lot day).2=0\/(lU t lot day).2=1\/(lU t lot day).2=6:=by unfold lU;split;rcases ahj (fC t lot) (vP t lot day)with h|⟨_,h⟩;exact .inl h;exact .inr h;exact .inl rfl
theorem Vo{t:dK}{lot day:Int}(h:(lU t lot day).2=0):br (lU t lot day).1=true:=by unfold lU at*;split;rename_i hd;rw[aM hd]at h;exact(Ka (r:=(qI (fC t lot) (vP t lot day)).1) (by rw[<- h])).2.2.1;rfl
theorem amo{t:dK}(h:ZL t) lot (hn:2000<=n):iter (jS n t lot) n (0,[])=some (Nd t lot):=by
 have hl:=h.bz
 have:=dG (l:=t.bz) (step:=jS n t lot) (λ i s=>(i,s)) (λ e s=>bif e.lot==lot&&br e.area then s++[e]else s) (λ s=>s) (λ i s=>s.length<=i)
  (λ i hi s hs=>?_) (λ s hs=>by simp[jS]) n (by omega) [] (aB _)
 rw[io]at this;rw[this];congr 1;have gen:∀(ys:U dI) s,ys.foldl (λ s e=>bif e.lot==lot&&br e.area then s++[e]else s) s=s++ys.filter λe=>e.lot==lot&&br e.area:=by
  intro ys
  induction ys with
  |nil=>intro s;simp
  |cons y ys ih=>
   intro s;rw[foldl_cons,ih,List.filter_cons];cases y.lot==lot&&br y.area<;>simp
 exact gen t.bz [];have al:=h.xj _ (getElem_mem hi);have ap:bP s.length s.length (sub ([t.bz[i]]:U dI) 0 1).length 1 40=true:=cK (n:=1) (by omega) (by simp[maxLen];omega);simp only[jS,bV hi,ak,bB hi,ai,iJ (n:=n) (l:=(t.bz[i]).area) (by omega) (by omega) (by omega),uN,ap,eH,aO,aW i];cases (t.bz[i]).lot==lot<;>cases br (t.bz[i]).area<;>refine⟨rfl,?_⟩<;>simp<;>omega
def ZO(t:dK)(lot day h x y:Int):Bool:=Nm (lU t lot day).1 (nH (fC t lot)).1 (vQ t lot day) (Nd t lot) h x y
def ak8(t:dK)(lot day:Int)(W:Nat->U aj):Prop:=∀j:Nat,j<12->∃L,Br L/\(∀ x y,aZ L x y=ZO t lot day (3*(j+1)) x y)/\W j=bJ (aL L)
theorem Ih(F:Nat)(hF:F<=12) base es (b:aj×Bool) ps (W:Nat->U aj) (hW:∀j:Nat,j<12->ql n base b.1 ps es (3*(j+1))=some (Mn (W j))) (hn:2000<=n):
 iter (gW n F base es b ps) n (0,[])=some (if ∃j:Nat,j<F/\(W j).length>200 then .inr ([],6)else .inl ((List.range F).map W)):=by
 have st:∀j,j<F->gW n F base es b ps ((j:Nat),(List.range j).map W)=some (if (W j).length>200 then .inr (.inr ([],6))else .inl ((j+1:Nat),(List.range (j+1)).map W)):=by intro j hj;have w:i64.wrap (j+1)=(j+1):=bT (by omega) (by omega);have w3:i64.wrap (3*(j+1))=3*(j+1):=bT (by omega) (by omega);have ap:bP ((List.range j).map W).length ((List.range j).map W).length (sub ([W j]:U (List aj)) 0 1).length 1 24=true:=cK (n:=1) (by simp;omega) (by simp[maxLen];omega);simp only[gW,bV hj,ak,fG,aO,w,w3,hW j (by omega),ai];unfold Mn;by_cases h2:(W j).length>200;rw[aM h2,aM h2];rfl;rw[aC h2,aC h2];simp only[ak,ap,eH,List.range_succ,map_append,bK,map_nil];rfl
 rcases CV (λ j=>decide ((W j).length>200)) 0 F with ⟨i,h1,h2,h3,h4⟩|h;have hi:(W i).length>200:=by simpa using h3
 rw[aM ⟨i,h2,hi⟩];have:=jg (step:=gW n F base es b ps) (λ j=>((j:Nat),(List.range j).map W)) i (.inr ([],6)) (λ j hj=>?_) ?_ n (by omega);exact this;have:=h4 j (by omega) hj;rw[st j (by omega),aC (by simpa using this)];rw[st i h2,aM hi];rw[aC (by rintro⟨j,hj,hl⟩;have:=h j (by omega) hj;simp at this;omega)];have:=jg (step:=gW n F base es b ps) (λ j=>((j:Nat),(List.range j).map W)) F (.inl ((List.range F).map W)) (λ j hj=>?_) ?_ n (by omega);exact this;have:=h j (by omega) hj;rw[st j hj,aC (by simpa using this)];simp[gW]
theorem LY{t:dK}(h:ZL t)(lot day floors:Int)(hn:1000000<=n):
 ((dU t.land lot).2=false/\gX n t lot day floors=some ([],4))\/
 ((dU t.land lot).2=true/\¬((0<=floors/\floors<=12)/\br (fC t lot)=true)/\gX n t lot day floors=some ([],1))\/
 ((dU t.land lot).2=true/\((0<=floors/\floors<=12)/\br (fC t lot)=true)/\(lU t lot day).2≠0/\gX n t lot day floors=some ([],(lU t lot day).2))\/
 ((dU t.land lot).2=true/\((0<=floors/\floors<=12)/\br (fC t lot)=true)/\(lU t lot day).2=0/\∃W,ak8 t lot day W/\gX n t lot day floors=some (if ∃j:Nat,j<floors.toNat/\(W j).length>200 then([],6)else((List.range floors.toNat).map W,0))):=by
 have lw:=wS h.lots lot;have Jn:=h.land;have hfind:za n t.land lot=some (dU t.land lot):=EU h.lots (by omega) (by omega);unfold gX;rw[hfind];simp only[ai];cases hf:(dU t.land lot).2 with
 |false=>exact .inl ⟨rfl,rfl⟩
 |true=>
  refine .inr ?_;rw[show (dU t.land lot).1.area=fC t lot from rfl]at*;rw[iJ (by have:=lw.1;unfold fC;omega) (by have:=lw.1;unfold fC;omega) (by omega)];simp only[Bool.not_true,ay,ai,uN];by_cases hok:(0<=floors/\floors<=12)/\br (fC t lot)=true;obtain⟨⟨f0,f12⟩,hr⟩:=hok;have d0:decide (floors<0)=false:=by simp;omega
  have d12:decide (floors>12)=false:=by simp;omega
  refine .inr ?_;rw[d0,d12,hr,qX h lot day (by omega)];simp only[ay,ai,Bool.not_true];obtain⟨F,rfl⟩:∃F:Nat,floors=F:=⟨floors.toNat,by omega⟩;have hF:(F:Int).toNat=F:=by omega
  have hwl:=ahc t lot day;have hrl:=h.rules;have fin:∀base:U aj,br base=true->(lU t lot day).1=base->∃W,ak8 t lot day W/\(ck (bk 0 ([]:U dI).length) ((iter (jS n t lot) n (0,[])).bind λw1=>(zR n (fC t lot)).bind λr7=>(l9 n t lot day).bind λr8=>ck (bk 0 ([]:U (List aj)).length) (fe (iter (gW n F base w1 r7 r8) n (0,[])) λw2=>ck (bk (sub w2 0 w2.length).length w2.length) (some (sub w2 0 w2.length,0)))):J (List (List aj)×Int))=some (if ∃j:Nat,j<F/\(W j).length>200 then([],6)else((List.range F).map W,0)):=by intro base hb hbe;have hex:∀j:Nat,∃Θ:U aj,j<12->(∃ L,Br L/\(∀ x y,aZ L x y=ZO t lot day (3*(j+1)) x y)/\Θ=bJ (aL L))/\ql n base (nH (fC t lot)).1 (vQ t lot day) (Nd t lot) (3*(j+1))=some (Mn Θ):=(by intro j;by_cases hj:j<12;obtain⟨L,l1,l2,l3⟩:=N8 (n:=n) base (nH (fC t lot)).1 (vQ t lot day) (Nd t lot) (h:=3*(j+1)) hb (by omega) (λ e he=>by have:=(mem_filter.1 he).2;rw[aY]at this;exact this.2) (Nat.le_trans (length_filter_le _ _) h.bz) (λ e he=>h.xj e (mem_filter.1 he).1) (by omega) hn;exact⟨_,λ_=>⟨⟨L,l1,λx y=>by rw[l2];unfold ZO;rw[hbe],rfl⟩,l3⟩⟩;exact⟨[],λh=>absurd h hj⟩);have⟨W,hW⟩:=Classical.axiomOfChoice hex;refine⟨W,λj hj=>(hW j hj).1,?_⟩;rw[amo h lot (by omega),QI (fC t lot) lw.1 (by omega),um h lot day (by omega)];simp;rw[Ih F (by omega) base (Nd t lot) (nH (fC t lot)) (vQ t lot day) W (λ j hj=>(hW j hj).2) (by omega)];split;rfl;simp
  by_cases hd:vP t lot day<=1048576;have dd:decide (vP t lot day<=1048576)=true:=by simpa using hd
  have be:lU t lot day=qI (fC t lot) (vP t lot day):=by unfold lU;rw[aM hd]
  rw[dd];simp only[ak,aeI (n:=n) (a:=fC t lot) (d:=vP t lot day) lw.1 (by omega),ai,<- be];by_cases he:(lU t lot day).2=0;have e1:((lU t lot day).2 !=0)=false:=by simp[he]
  rw[e1];simp only[ay,aO,ak,jO];have⟨W,w1,w2⟩:=fin (lU t lot day).1 (Vo he) rfl;exact .inr ⟨trivial,⟨⟨f0,f12⟩,trivial⟩,he,W,w1,by rw[hF];exact w2⟩;have e1:((lU t lot day).2 !=0)=true:=by simp[he]
  rw[e1];exact .inl ⟨trivial,⟨⟨f0,f12⟩,trivial⟩,he,rfl⟩;have dd:decide (vP t lot day<=1048576)=false:=by simpa using hd
  have be:lU t lot day=([],0):=by unfold lU;rw[aC hd]
  rw[dd];simp only[ay,length_nil,aO,ak,jO];obtain⟨W,w1,w2⟩:=fin [] rfl (by rw[be]);exact .inr ⟨trivial,⟨⟨f0,f12⟩,trivial⟩,by rw[be],W,w1,by rw[hF];exact w2⟩;refine .inl ⟨trivial,hok,?_⟩;have e:(bif decide (floors<0)then true else bif decide (floors>12)then true else !br (fC t lot))=true:=by
   by_cases h0:floors<0;have:decide (floors<0)=true:=(by simpa using h0);rw[this];rfl;by_cases h12:floors>12;have a:decide (floors<0)=false:=(by simpa using h0);have b:decide (floors>12)=true:=(by simpa using h12);rw[a,b];rfl;have a:decide (floors<0)=false:=(by simpa using h0);have b:decide (floors>12)=false:=(by simpa using h12);rw[a,b];cases hr:br (fC t lot)with
   |false=>rfl
   |true=>exact absurd ⟨⟨by omega,by omega⟩,hr⟩ hok
  rw[e];rfl
end Go.Proofs
