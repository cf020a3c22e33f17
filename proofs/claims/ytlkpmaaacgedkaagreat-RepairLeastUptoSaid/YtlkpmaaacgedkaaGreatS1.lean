import Derived.Test.YtlkpmaaacgedkaaGreatTD1
open Go.IntKind (i64)
open List (length_take mem_map all_eq_true getElem_mem length_map mem_iff_getElem length_drop length_nil foldl_cons take_of_length_le mem_filter any_eq_true pairwise_cons length_filter_le map_append pairwise_append getElem_drop)
namespace Go.Proofs
open Go.Gb Go.RowKit
variable {n:Nat}
theorem jb(a b:Int):cmp_Compare_int a b=some (if a<b then -1 else if b<a then 1 else 0):=by by_cases h1:a<b;simp[cmp_Compare_int,cmp_isNaN_int,h1];by_cases h2:b<a;simp[cmp_Compare_int,cmp_isNaN_int,h1,h2];simp[cmp_Compare_int,cmp_isNaN_int,h1,h2]
theorem pQ{l:List Int}(hl:l.length<1099511627776)(_:l.length<n):pF n l=some (kL ot l):=by show NB l=_;unfold NB;rw[Nat.ble_eq_true_of_le (show l.length<=1099511627775 by omega),aj]
theorem tT{l:List Int}(hl:l.length<1099511627776)(hn:l.length<n):pG n l=some ((),iT l):=by rw[<- ade];exact X6 (eq:=λx y=>x==y) (ne:=λx y=>x !=y) (λ x y=>by simp[bne]) hl hn
theorem RI{l:List Int}{a:Int}(hl:l.length<1099511627776)(hn:l.length<n):Er n l a=some (AQ (λ x=>a==x) l):=Q8 hl hn
theorem KP{l:List Int}{a:Int}(hl:l.length<1099511627776)(hn:l.length<n):q8 n l a=some (l.any λx=>a==x):=by unfold q8;rw[RI hl hn,ai,wY]
theorem Fy{l:List cB}{φ:(cB×Unit)->Option Bool}(p:cB->Bool)(h:∀x∈l,φ (x,())=some (p x))(hl:l.length<1099511627776)(hn:l.length<n):rF n l φ=some (AQ p l):=iM p h hl hn
theorem Fz{l:List bD}{φ:(bD×Unit)->Option Bool}(p:bD->Bool)(h:∀x∈l,φ (x,())=some (p x))(hl:l.length<1099511627776)(hn:l.length<n):kN n l φ=some (AQ p l):=iM p h hl hn
theorem Pp{l:List au}(h:l.length<1099511627776):AR l=some l:=zW (b:=32) (by omega) (by simp[maxLen];omega)
theorem RJ{l:List Int}(h:l.length<1099511627776):sV l=some l:=zW (b:=8) (by omega) (by simp[maxLen];omega)
theorem M6{l:List (List au)}(hf:l.flatten.length<1099511627776)(hl:l.length<1099511627776)(hn:l.length<n):yG n l=some l.flatten:=Mq (au.mk 0 0 0 0) (b:=32) hf (by omega) hl hn
theorem Cx{a b:List au}(hl:a.length<1099511627776)(hn:a.length<n):oC n a b=some (decide (a=b)):=by
 have e:oC n a b=Tv n (λ x1 x2:au=>!((x1.x0==x2.x0)&&((x1.y0==x2.y0)&&((x1.x1==x2.x1)&&((x1.y1==x2.y1)&&true))))) a b:=by kernel_rfl
 rw[e];refine Q9 (λ x y=>?_) hl hn;obtain⟨a,b,c,d⟩:=x;obtain⟨e,f,g,h⟩:=y;simp;rw[jg];simp
theorem Cy{a b:List aK}(hl:a.length<1099511627776)(hn:a.length<n):vC n a b=some (decide (a=b)):=by
 have e:vC n a b=Tv n (λ x1 x2:aK=>!((x1.from_==x2.from_)&&((x1.to==x2.to)&&true))) a b:=by kernel_rfl
 rw[e];refine Q9 (λ x y=>?_) hl hn;obtain⟨a,b⟩:=x;obtain⟨c,d⟩:=y;simp;rw[jg];simp
abbrev tA(a b:aK):Bool:=decide (a.from_<b.from_)
theorem M7:Go.Sort.SWO tA where
 irrefl x:=by simp[tA]
 trans x y z h1 h2:=by simp only[tA,bF]at *;omega
 ntrans x y z h1 h2:=by simp only[tA,dM]at *;omega
theorem JD{l:List aK}{φ:(aK×aK×Unit)->Option Int}(f:aK->aK->Int)(hφ:∀x y,φ (x,y,())=some (f x y))(hf:∀x y,decide (f x y<0)=tA x y)(hl:l.length<1099511627776)(_:l.length<n):uS n l φ=some (rR tA l):=
 adn f hφ hf M7 hl
theorem ahF{V O:Type}{step:V->Option (V⊕O)}(Inv:V->Prop)(Post:O->Prop)(μ:V->Nat)
 (h:∀v,Inv v->(∃ v',step v=some (.inl v')/\Inv v'/\μ v'< μ v)\/∃o,step v=some (.inr o)/\Post o):∀(n:Nat)(v:V),Inv v->μ v<n->∃o,iter step n v=some o/\Post o
 | 0,_,_,hn=>absurd hn (Nat.not_lt_zero _)
 |n+1,v,hi,hn=>by rcases h v hi with ⟨v',h1,h2,h3⟩|⟨o,h1,h2⟩;rw[dI h1];exact ahF Inv Post μ h n v' h2 (by omega);exact⟨o,bW h1,h2⟩
theorem H8:∀(N:Nat)(l:List Nat),l.Nodup->(∀ y∈l,y<N)->l.length<=N
 | 0,[],_,_=>ax _
 | 0,x::l,_,h=>absurd (h x (by simp)) (by omega)
 |N+1,l,hn,h=>by
  have h1:=H8 N (l.filter λy=>decide (y≠N)) (hn.filter _) (λ y hy=>by rw[mem_filter]at hy;have:=h y hy.1;have:=hy.2;simp at this;omega);have h2:=List.length_eq_countP_add_countP (λ y=>decide (y≠N)) (l:=l);rw[List.countP_eq_length_filter]at h2;have h3:List.countP (λ a=>decide ¬(decide (a≠N)=true)) l=l.count N:=by rw[List.count];refine List.countP_congr λy _=>?_;simp
  have h4:=List.nodup_iff_count.1 hn N;omega
def Yc(us:List (List Int))(N:Nat):Prop:=us.length=N/\N<=4000000/\∀l∈us,l.length<=4000000/\∀k∈l,0<=k/\k<N
structure BI(us:List (List Int))(N to h:Nat)(d:List Int)(F:List Nat):Prop where
 dl:d.length=N
 nd:F.Nodup
 rg:∀x∈F,x<N
 mem:∀i:Nat,i<N->(0<=d.getD i 0↔i∈F)
 ub:∀j x:Nat,F[j]? =some x->d.getD x 0<=(j:Int)
 pre:∀j x:Nat,F[j]? =some x->0<j->∃p y:Nat,p<j/\F[p]? =some y/\(y:Int)∈us.getD x []/\d.getD y 0=d.getD x 0-1
 hd:F[0]? =some to/\d.getD to 0=0
 hh:h<=F.length
 cl:∀p y:Nat,p<h->F[p]? =some y->∀i:Nat,i<N->(y:Int)∈us.getD i []->0<=d.getD i 0
theorem BI.len{us:List (List Int)}{N to h:Nat}{d:List Int}{F:List Nat}(b:BI us N to h d F):F.length<=N:=by exact H8 N F b.nd b.rg
theorem BI.push{us:List (List Int)}{N to h:Nat}{d:List Int}{F:List Nat}(b:BI us N to h d F){i x p:Nat}(hi:i<N)(hd:d.getD i 0<0)(hp:F[p]? =some x)(hx:(x:Int)∈us.getD i []):
 BI us N to h (d.set i (d.getD x 0+1)) (F++[i]):=by
 have hiF:i∉F:=λhm=>by have:=(b.mem i hi).2 hm;omega
 have Wf:x∈F:=bX hp;have hne:∀y,y∈F->i≠y:=λy hy e=>hiF (e ▸ hy);have hset:∀y,y∈F->(d.set i (d.getD x 0+1)).getD y 0=d.getD y 0:=λy hy=>by simp[List.getElem?_set_ne (hne y hy)]
 have vu:(d.set i (d.getD x 0+1)).getD i 0=d.getD x 0+1:=by
  have:i<d.length:=by rw[b.dl];exact hi
  simp[this]
 have hx0:0<=d.getD x 0:=(b.mem x (b.rg x Wf)).2 Wf;have hlt:p<F.length:=(cZ.1 hp).1;refine⟨by simpa using b.dl,?_,?_,?_,?_,?_,?_,?_,?_⟩;rw[List.nodup_append];exact⟨b.nd,by simp,λa ha c hc=>by simp at hc;subst hc;exact λe=>hiF (e ▸ ha)⟩;intro y hy;rw[bK]at hy;rcases hy with hy|hy;exact b.rg y hy;simp at hy;omega;intro j hj;by_cases e:i=j;subst e;rw[vu];exact⟨λ _=>by simp,λ_=>by omega⟩;simp only[List.getD,List.getElem?_set_ne e];rw[bK];have:=b.mem j hj;simp at this;rw[this];simp[Ne.symm e];intro j y hy;rw[List.getElem?_append]at hy;split at hy;rw[hset y (bX hy)];exact b.ub j y hy;rename_i hj;have:y=i/\j=F.length:=by
  cases h:j-F.length with
  |zero=>rw[h]at hy;simp at hy;exact⟨hy.symm,by omega⟩
  |succ z=>rw[h]at hy;simp at hy
 obtain⟨rfl,rfl⟩:=this;rw[vu];have:=b.ub p x hp;omega;intro j y hy hj;rw[List.getElem?_append]at hy;split at hy;have⟨p',y',h1,h2,h3,h4⟩:=b.pre j y hy hj;exact⟨p',y',h1,by rw[List.getElem?_append_left (by have:=(cZ.1 h2).1;exact this)];exact h2,h3,by rw[hset y' (bX h2),hset y (bX hy)];exact h4⟩;rename_i hj';have:y=i/\j=F.length:=by
  cases h:j-F.length with
  |zero=>rw[h]at hy;simp at hy;exact⟨hy.symm,by omega⟩
  |succ z=>rw[h]at hy;simp at hy
 obtain⟨rfl,rfl⟩:=this;exact⟨p,x,hlt,by rw[List.getElem?_append_left hlt];exact hp,hx,by rw[vu,hset x Wf];omega⟩;have h0:=(cZ.1 b.hd.1).1;exact⟨by rw[List.getElem?_append_left h0];exact b.hd.1,by rw[hset _ (bX b.hd.1)];exact b.hd.2⟩;have:=b.hh;simp;omega;intro p' y hp' hy j hj hm;rw[List.getElem?_append_left (by have:=b.hh;omega)]at hy;have:=b.cl p' y hp' hy j hj hm;rw[hset j ((b.mem j hj).1 this)];exact this
theorem pm{α:Type}(o:Nat)(l:List α):UN o l=l.drop o:=by cases o<;>simp[UN]
def BS(us:List (List Int))(N to h x:Nat):(Int×Int×List Int×List Int)->Prop
 |(v4,v5,d,v7)=>∃(o i:Nat)(F:List Nat),v4=o/\v5=i/\o<=v7.length/\v7.drop o=(F.drop (h+1)).map (λ k:Nat=>(k:Int))/\i<=N/\BI us N to h d F/\F[h]? =some x/\∀i',i'<i->(x:Int)∈us.getD i' []->0<=d.getD i' 0
theorem al6{n N to h x:Nat}{a0:pE}{r1:List Int}(hg:Yc a0.uses N)(hr:r1.length=N)(hn:4000001<=n)(v:Int×Int×List Int×List Int)(hv:BS a0.uses N to h x v):
 (∃ v',fZ n a0 r1 x v=some (.inl v')/\BS a0.uses N to h x v'/\N-v'.2.1.toNat<N-v.2.1.toNat)\/
 ∃q,fZ n a0 r1 x v=some (.inr q)/\∃(o:Nat)(F:List Nat),q.1=(o:Int)/\o<=q.2.2.length/\q.2.2.drop o=(F.drop (h+1)).map (λ k:Nat=>(k:Int))/\BI a0.uses N to (h+1) q.2.1 F:=by
 obtain⟨v4,v5,d,v7⟩:=v;obtain⟨o,i,F,rfl,rfl,ho,hq,hi,hb,hx,hc⟩:=hv;have hx':x<N:=hb.rg x (bX hx);have GM:=hg.1;have hdl:=hb.dl;by_cases hlt:i<N;left;have wx:i<a0.uses.length:=by omega
 have hl:=hg.2.2 a0.uses[i] (getElem_mem wx);have hcon:=KP (n:=n) (l:=a0.uses[i]) (a:=(x:Int)) (by omega) (by omega);have hud:a0.uses.getD i []=a0.uses[i]:=by simp[wx]
 have hdi:d[i]'(by omega)=d.getD i 0:=by simp[show i<d.length by omega]
 have GO:d[x]'(by omega)=d.getD x 0:=by simp[show x<d.length by omega]
 simp only[fZ,show decide ((i:Int)<((a0.uses.length:Int)))=true from by simp;omega,aj,bE wx,ai,aW (show i<r1.length by omega),aW (show x<r1.length by omega),
  bJ (show i<d.length by omega),bJ (show x<d.length by omega),hcon,hdi,GO]
 have hFl:=hb.len;have hN:=hg.2.1;have hlen:v7.length-o=F.length-(h+1):=by have:=congrArg List.length hq;simpa using this
 have hmx:maxLen=9223372036854775807:=rfl;by_cases hA:d.getD i 0<0/\(x:Int)∈a0.uses[i];have h1:(a0.uses[i].any λy=>(x:Int)==y)=true:=any_eq_true.2 ⟨_,hA.2,by simp⟩;have hx0:0<=d.getD x 0:=(hb.mem x hx').2 (bX hx);have hxu:=hb.ub h x hx;have hFh:h<F.length:=(cZ.1 hx).1;have hap:bL (v7.drop o).length (v7.length-o) (sub [(i:Int)] 0 1).length 1 8=true:=by simp[bL,sub];omega
 have hw:i64.wrap (d.getD x 0+1)=d.getD x 0+1:=aO (by omega) (by omega);refine⟨(((0:Nat):Int),((i+1:Nat):Int),d.set i (d.getD x 0+1),v7.drop o++[(i:Int)]),?_,?_,by show N-((i+1:Nat):Int).toNat<N-(i:Int).toNat;omega⟩;simp only[hA.1,decide_true,aj,ai,h1,Int.toNat_natCast,pm,hap,gD,hw,aY i];simp[sub];refine⟨0,i+1,F++[i],rfl,rfl,Nat.zero_le _,?_,by omega,hb.push hlt hA.1 hx (by rw[hud];exact hA.2),by rw[List.getElem?_append_left hFh];exact hx,?_⟩;rw[List.drop_zero,hq,List.drop_append_of_le_length (by omega)];simp;intro i' hi' hm;have hpush:=hb.push hlt hA.1 hx (by rw[hud];exact hA.2);by_cases e:i'=i;subst e;exact(hpush.mem i' hlt).2 (by simp);have:=hc i' (by omega) hm;exact(hpush.mem i' (by omega)).2 (List.mem_append_left _ ((hb.mem i' (by omega)).1 this));have hB:(bif decide (d.getD i 0<0)then some (a0.uses[i].any λy=>(x:Int)==y)else some false)=some false:=by
  by_cases h2:d.getD i 0<0;simp only[h2,decide_true,aj,bM];cases hc:(a0.uses[i].any λy=>x==y)with
  |false=>rfl
  |true=>
   obtain⟨y,hy,e⟩:=any_eq_true.1 hc;obtain rfl:x=y:=(by simpa using e);exact absurd ⟨h2,hy⟩ hA
  simp only[h2,decide_false,ay]
 refine⟨(o,(i+1:Nat),d,v7),?_,?_,by show N-((i+1:Nat):Int).toNat<N-(i:Int).toNat;omega⟩;rw[hB];simp[qw (show o+(v7.length-o)=v7.length by omega),aY i];refine⟨o,i+1,F,rfl,rfl,ho,hq,by omega,hb,hx,λi' hi' hm=>?_⟩;by_cases e:i'=i;subst e;rw[hud]at hm;exact Int.not_lt.1 λh2=>hA ⟨h2,hm⟩;exact hc i' (by omega) hm;right;have hiN:i=N:=by omega
 have hFh:h<F.length:=(cZ.1 hx).1;refine⟨(o,d,v7),?_,o,F,rfl,ho,hq,?_⟩;simp only[fZ,show decide ((i:Int)<(a0.uses.length))=false from by simp;omega,ay,Int.toNat_natCast,qw (show o+(v7.length-o)=v7.length by omega),aj];refine⟨hb.dl,hb.nd,hb.rg,hb.mem,hb.ub,hb.pre,hb.hd,hFh,λp y hp hy j hj hm=>?_⟩;by_cases e:p=h;subst e;rw[hx]at hy;cases hy;exact hc j (by omega) hm;exact hb.cl p y (by omega) hy j hj hm
def BO(us:List (List Int))(N to h:Nat):(Int×List Int×List Int)->Prop
 |(v1,d,v3)=>∃(o:Nat)(F:List Nat),v1=o/\o<=v3.length/\v3.drop o=(F.drop h).map (λ k:Nat=>(k:Int))/\BI us N to h d F
theorem al7{n N to h:Nat}{a0:pE}{r1:List Int}(hg:Yc a0.uses N)(hr:r1.length=N)(hn:4000001<=n)(v:Int×List Int×List Int)(hv:BO a0.uses N to h v):
 (∃ v',dU n a0 r1 v=some (.inl v')/\BO a0.uses N to (h+1) v')\/∃d,dU n a0 r1 v=some (.inr d)/\∃F,BI a0.uses N to F.length d F:=by
 obtain⟨v1,d,v3⟩:=v;obtain⟨o,F,rfl,ho,hq,hb⟩:=hv;have hlen:v3.length-o=F.length-h:=by have:=congrArg List.length hq;simpa using this
 by_cases hlt:h<F.length;left;obtain⟨x,hx⟩:∃x,F[h]? =some x:=⟨_,dD hlt⟩;have hox:v3[o]? =some x:=by have:=congrArg (λ l=>l[0]?) hq;simpa[hx]using this
 have hdr:v3.drop (o+1)=(F.drop (h+1)).map (λ k:Nat=>(k:Int)):=by have:=congrArg (λ l=>l.drop 1) hq;simpa using this
 obtain⟨q,hq1,o2,F2,hq2,hq3,hq4,hq5⟩:=ahF (BS a0.uses N to h x) (λ q:Int×List Int×List Int=>∃(o:Nat)(F:List Nat),q.1=o/\o<=q.2.2.length/\q.2.2.drop o=(F.drop (h+1)).map (λ k:Nat=>(k:Int))/\BI a0.uses N to (h+1) q.2.1 F)
  (λ v=>N-v.2.1.toNat) (al6 (r1:=r1) hg hr hn) n ((o+1:Nat),0,d,v3) ⟨o+1,0,F,rfl,rfl,by omega,hdr,Nat.zero_le _,hb,hx,λi' hi'=>absurd hi' (Nat.not_lt_zero _)⟩ (by have:=hg.2.1;simp;omega)
 obtain⟨w1,w2,w3⟩:=q;simp only at hq2 hq3 hq4 hq5;subst hq2;refine⟨(o2,w2,w3),?_,o2,F2,rfl,hq3,hq4,hq5⟩;have hat:bu v3 (o+0)=some (x:Int):=by rw[Int.add_zero,AO];exact hox
 simp only[dU,Int.toNat_natCast,show decide (((v3.length-o:Nat):Int)>0)=true from by simp;omega,aj,show co 0 (v3.length-o)=true from by simp[co];omega,hat,ai,
  xV (show 0<=1 by omega) (show (1:Int)<=(v3.length-o:Nat)by omega) (Int.le_refl _),qw (show o+1+(v3.length-o-1)=v3.length by omega),hq1,qw (show o2+(w3.length-o2)=w3.length by omega)]
 right;have hhF:h=F.length:=by have:=hb.hh;omega
 refine⟨d,?_,F,hhF ▸ hb⟩;simp only[dU,Int.toNat_natCast,show decide (((v3.length-o:Nat):Int)>0)=false from by simp;omega,ay]
theorem eO{V O:Type}{step:V->Option (V⊕O)}(Inv:Nat->V->Prop)(Post:O->Prop)(K:Nat)(hK:∀k v,Inv k v->k<=K)
 (h:∀k v,Inv k v->(∃ v',step v=some (.inl v')/\Inv (k+1) v')\/∃o,step v=some (.inr o)/\Post o):∀(n k:Nat)(v:V),Inv k v->K<n+k->∃o,iter step n v=some o/\Post o
 | 0,k,v,hi,hn=>absurd (hK k v hi) (by omega)
 |n+1,k,v,hi,hn=>by rcases h k v hi with ⟨v',h1,h2⟩|⟨o,h1,h2⟩;rw[dI h1];exact eO Inv Post K hK h n (k+1) v' h2 (by omega);exact⟨o,bW h1,h2⟩
theorem aa7{n N to:Nat}{a0:pE}(hg:Yc a0.uses N)(hd:a0.defs.length=N)(hn:4000002<=n)(ht:to<N):∃d F,jW n a0 to=some d/\BI a0.uses N to F.length d F:=by
 have hN:=hg.2.1;have hr:qL (sub ([(-1)]:List Int) 0 1) N=some (List.replicate N (-1)):=by show(ck (decide (0<=(N:Int))&&decide ((N:Int)<=1000000000000)) (some (List.replicate (N:Int).toNat (-1))))=_;rw[show decide (0<=(N:Int))=true by simp,show decide ((N:Int)<=1000000000000)=true by simp;omega];rfl
 have hlr:(List.replicate N (-1:Int)).length=N:=List.length_replicate;have hb0:BI a0.uses N to 0 ((List.replicate N (-1:Int)).set to 0) [to]:=by
  have hto:((List.replicate N (-1:Int)).set to 0).getD to 0=0:=by simp[ht]
  refine⟨by simp,by simp,λx hx=>by simp at hx;omega,λi hi=>?_,λj x hx=>?_,λj x hx hj=>?_,⟨rfl,hto⟩,by simp,λp y hp=>absurd hp (Nat.not_lt_zero _)⟩;by_cases e:to=i;subst e;rw[hto];simp;simp[List.getElem?_set_ne e];simp[hi,Ne.symm e];cases j with
  |zero=>simp at hx;subst hx;rw[hto];simp
  |succ j=>simp at hx
  cases j with
  |zero=>omega
  |succ j=>simp at hx
 obtain⟨d,h1,F,h2⟩:=eO (step:=dU n a0 (List.replicate N (-1))) (λ h v=>BO a0.uses N to h v) (λ d=>∃F,BI a0.uses N to F.length d F) N (λ h v ⟨_,_,_,_,_,hb⟩=>Nat.le_trans hb.hh hb.len) (λ h v hv=>al7 (n:=n) (r1:=List.replicate N (-1)) hg hlr (by omega) v hv) n 0
  ((0:Nat),(List.replicate N (-1:Int)).set to 0,[to]) ⟨0,[to],rfl,Nat.zero_le _,rfl,hb0⟩ (by omega)
 refine⟨d,F,?_,h2⟩;have hdl:d.length=N:=h2.dl;have h1':iter (dU n a0 (List.replicate N (-1))) n (0,(List.replicate N (-1:Int)).set to 0,[to])=some d:=h1;simp only[jW,hd,hr,ai,hlr,aW ht,bJ (show to<(List.replicate N (-1:Int)).length by omega),aj,show(((0:Nat):Int)+to).toNat=to by omega,h1];simp[sub,hdl];exact take_of_length_le (Nat.le_of_eq hdl)
def Nr(d:List Int)(l:List Int)(w:Int):Prop:=
 (w=-1/\∀k∈l,d.getD k.toNat 0<0)\/(w∈l/\0<=d.getD w.toNat 0/\∀k∈l,0<=d.getD k.toNat 0->d.getD w.toNat 0<=d.getD k.toNat 0)
theorem Nr.snoc{d l:List Int}{w k:Int}(h:Nr d l w)(hk:0<=k)(hl:∀x∈l,0<=x):Nr d (l++[k]) (if 0<=d.getD k.toNat 0/\(w<0\/d.getD k.toNat 0<d.getD w.toNat 0)then k else w):=by split;rename_i h1;refine .inr ⟨by simp,h1.1,λz hz h0=>?_⟩;rw[bK]at hz;rcases hz with hz|hz;rcases h with ⟨rfl,h⟩|⟨hw,hw0,h⟩;have:=h z hz;omega;have h2:=h z hz h0;have:=hl w hw;rcases h1.2 with h3|h3<;>omega;simp at hz;subst hz;exact Int.le_refl _;rename_i h1;rcases h with ⟨rfl,h⟩|⟨hw,hw0,h⟩;refine .inl ⟨rfl,λz hz=>?_⟩;rw[bK]at hz;rcases hz with hz|hz;exact h z hz;simp at hz;subst hz;exact Int.not_le.1 λh2=>h1 ⟨h2,.inl (by omega)⟩;refine .inr ⟨List.mem_append_left _ hw,hw0,λz hz h0=>?_⟩;rw[bK]at hz;rcases hz with hz|hz;exact h z hz h0;simp at hz;subst hz;exact Int.not_lt.1 λh2=>h1 ⟨h0,.inr h2⟩
theorem al8{n N:Nat}{d l:List Int}(hd:d.length=N)(hl:l.length<=4000000)(hr:∀k∈l,0<=k/\k<N)(hn:4000001<=n):∃w,iter (iR d l) n (-1,0)=some w/\Nr d l w:=by
 refine eO (λ i (v:Int×Int)=>i<=l.length/\v.2=i/\Nr d (l.take i) v.1) (λ w=>Nr d l w) l.length (λ k v h=>h.1) ?_ n 0 _ ⟨Nat.zero_le _,rfl,.inl ⟨rfl,by simp⟩⟩ (by omega);rintro i ⟨v3,v4⟩ ⟨hi,rfl,hN⟩;by_cases hlt:i<l.length;left;have hk:=hr l[i] (getElem_mem hlt);obtain⟨k,hk2⟩:=Int.eq_ofNat_of_zero_le hk.1;have hkN:k<d.length:=by omega
 have Jn:d[k]=d.getD k 0:=by simp[hkN]
 have htk:l.take (i+1)=l.take i++[l[i]]:=by rw[List.take_add_one,dD hlt];rfl
 have hlk:∀x∈l.take i,0<=x:=λx hx=>(hr x (List.mem_of_mem_take hx)).1;have hsn:=hN.snoc hk.1 hlk;refine⟨(if 0<=d.getD (l[i]).toNat 0/\(v3<0\/d.getD (l[i]).toNat 0<d.getD v3.toNat 0)then l[i]else v3,(i+1:Nat)),?_,hlt,rfl,by rw[htk];exact hsn⟩;simp only[iR,show decide ((i:Int)<l.length)=true from by simp;omega,aj,bE hlt,ai,hk2,aW hkN,bJ hkN,Jn,Int.toNat_natCast,aY i];by_cases h0:0<=d.getD k 0;by_cases h1:v3<0;simp only[h0,h1,decide_true,aj,ai,true_and,true_or,if_true];have hv:v3∈l.take i:=by rcases hN with ⟨rfl,_⟩|⟨h,_⟩;omega;exact h
 have B6:=hr v3 (List.mem_of_mem_take hv);obtain⟨z,hz⟩:=Int.eq_ofNat_of_zero_le B6.1;subst hz;have GE:z<d.length:=by omega
 have hgz:d[z]=d.getD z 0:=by simp[GE]
 simp only[h0,decide_true,aj,h1,decide_false,ay,aW GE,bJ GE,ai,hgz,Int.toNat_natCast,true_and,false_or];by_cases h2:d.getD k 0<d.getD z 0;simp only[h2,decide_true,aj,if_true,ai];simp only[h2,decide_false,ay,if_false,ai];simp only[h0,decide_false,ay,ai,false_and,if_false];right;refine⟨v3,?_,?_⟩;simp only[iR,show decide ((i:Int)<l.length)=false from by simp;omega,ay];rw[take_of_length_le (by omega)]at hN;exact hN
theorem BI.step{us:List (List Int)}{N to h:Nat}{d:List Int}{F:List Nat}(b:BI us N to h d F){x:Nat}(hx:x<N)(hne:x≠to)(h0:0<=d.getD x 0):∃y:Nat,(y:Int)∈us.getD x []/\d.getD y 0=d.getD x 0-1/\0<=d.getD y 0:=by
 obtain⟨j,hj,hjx⟩:=mem_iff_getElem.1 ((b.mem x hx).1 h0);have hj':F[j]? =some x:=by rw[dD hj,hjx]
 have hj0:0<j:=by
  cases j with
  |zero=>rw[b.hd.1]at hj';cases hj';exact absurd rfl hne
  |succ j=>exact Nat.succ_pos _
 have⟨p,y,_,h2,h3,h4⟩:=b.pre j x hj' hj0;have hyF:=bX h2;exact⟨y,h3,h4,(b.mem y (b.rg y hyF)).2 hyF⟩
theorem aiV{n N fr:Nat}{a1:List gI}{us:List (List Int)}(hg:Yc us N)(hd:a1.length=N)(hn:4000003<=n)(hf:fr<N):∃d F c,BI us N fr F.length d F/\jY n fr a1 us=some (a1,us,c)/\c.length<=N+1/\(c=[]->∀k∈us.getD fr [],d.getD k.toNat 0<0):=by
 obtain⟨d,F,hdi,hb⟩:=aa7 (n:=n) (a0:=pE.mk a1 us) hg hd (by omega) hf;have hN:=hg.2.1;have GM:=hg.1;have hmx:maxLen=9223372036854775807:=rfl;have hloop:∃o,iter (lq n fr a1 us d) n (fr,[])=some o/\∃c,o=.inr (a1,us,c)/\c.length<=N+1/\(c=[]->∀k∈us.getD fr [],d.getD k.toNat 0<0):=by
  refine eO (λ k (v:Int×List ByteArray)=>∃at_:Nat,v.1=at_/\at_<N/\v.2.length=k/\k<=N/\((k=0/\at_=fr)\/(0<k/\at_≠fr/\0<=d.getD at_ 0/\d.getD at_ 0+k<=N))) _ N (λ k v ⟨_,_,_,_,h,_⟩=>h) ?_ n 0 _ ⟨fr,rfl,hf,rfl,Nat.zero_le _,.inl ⟨rfl,rfl⟩⟩ (by omega);rintro k ⟨v1,v2⟩ ⟨x,rfl,hx,hv2,hkN,hst⟩;simp at hv2;have hxa:x<a1.length:=by omega
  have hxu:x<us.length:=by omega
  have hl:=hg.2.2 us[x] (getElem_mem hxu);obtain⟨w,hw,hnr⟩:=al8 (n:=n) (d:=d) (l:=us[x]) hb.dl hl.1 hl.2 (by omega);have hgu:us.getD x []=us[x]:=by simp[hxu]
  have hap:bL v2.length v2.length (sub [a1[x].name] 0 1).length 1 16=true:=by simp[bL,sub];omega
  simp only[lq,bE hxa,bE hxu,ai,hap,aj,gD,hw];have hsl:(v2++sub [a1[x].name] 0 1).length=k+1:=by simp[sub,hv2]
  have hne:((v2++sub [a1[x].name] 0 1).length==0)=false:=by rw[hsl];simp
  rcases hnr with ⟨rfl,hno⟩|⟨Wk,hw0,hmin⟩;right;refine⟨.inr (a1,us,[]),by simp,[],rfl,by simp,λ_=>?_⟩;rcases hst with ⟨_,rfl⟩|⟨_,We,hx0,_⟩;rw[hgu];exact hno;have⟨y,hy,_,hy0⟩:=hb.step hx We hx0;have hy':(y:Int)∈us[x]:=by rw[<- hgu];exact hy
  have:=hno _ hy';simp only[Int.toNat_natCast]at this;omega;have hwr:=hl.2 w Wk;obtain⟨z,rfl⟩:=Int.eq_ofNat_of_zero_le hwr.1;simp only[Int.toNat_natCast]at hw0 hmin;by_cases hzf:z=fr;right;subst hzf;refine⟨.inr (a1,us,v2++sub [a1[x].name] 0 1),?_,_,rfl,by omega,λh=>by rw[h]at hsl;simp at hsl⟩;simp only[show decide ((z:Int)<0)=false from by simp,ay,beq_self_eq_true,aj,hne,Bool.not_false,Bool.true_and,aN,Option.map_some];left;have GE:z<N:=by omega
  have hb1:d.getD z 0+(k+1:Nat)<=N:=by rcases hst with ⟨hk0,rfl⟩|⟨_,We,hx0,hle⟩;have hzF:=(hb.mem z GE).1 hw0;obtain⟨j,hj,hjz⟩:=mem_iff_getElem.1 hzF;have h3:=hb.ub j z (by rw[dD hj,hjz]);have:=hb.len;omega;have⟨y,hy,hyd,hy0⟩:=hb.step hx We hx0;have:=hmin y (by rw[<- hgu];exact hy) (by simpa using hy0);simp only[Int.toNat_natCast]at this;omega
  refine⟨(z,v2++sub [a1[x].name] 0 1),?_,z,rfl,GE,hsl,by omega,.inr ⟨Nat.succ_pos _,hzf,hw0,hb1⟩⟩;simp[show decide ((z:Int)<0)=false from by simp,show((z:Int)==fr)=false from by simp;omega]
 obtain⟨o,h1,c,rfl,h2⟩:=hloop;refine⟨d,F,c,hb,?_,h2⟩;simp only[jY,hdi,ai,h1];simp
theorem aa8(a b:ByteArray):∃r,nL a b=some r:=by simp[nL,cmp_isNaN_string];cases (!a.toList==a.toList)<;>cases (!b.toList==b.toList)<;>cases UJ a b<;>cases (a.toList==b.toList)<;>exact⟨_,rfl⟩
theorem aa9{a b:List ByteArray}(ha:a.length<=5000000)(hn:5000001<=n):∃r,lZ n a b=some r:=by
 obtain⟨o,h,_⟩:=eO (step:=lY a b) (λ i v=>v=i/\i<=a.length) (λ _=>True) a.length (λ k v h=>h.2) (by
  rintro i v ⟨rfl,hi⟩;by_cases hlt:i<a.length;simp only[lY,show decide ((i:Int)<a.length)=true from by simp;omega,aj,bE hlt,ai];by_cases hb:i<b.length;have⟨r,hr⟩:=aa8 a[i] b[i];simp only[show decide ((i:Int)>=b.length)=false from by simp;omega,ay,bE hb,ai,hr];cases hr0:(r !=0)with
  |true=>exact .inr ⟨_,rfl,trivial⟩
  |false=>exact .inl ⟨_,rfl,by rw[aQ (by omega)],by omega⟩
  simp only[show decide ((i:Int)>=b.length)=true from by simp;omega,aj];exact .inr ⟨_,rfl,trivial⟩;simp only[lY,show decide ((i:Int)<a.length)=false from by simp;omega,ay];exact .inr ⟨_,rfl,trivial⟩) n 0 0 ⟨rfl,Nat.zero_le _⟩ (by omega)
 simp only[lZ,h];cases o with
 |inl u=>cases u;simp only[iJ];cases decide ((a.length:Int)<b.length)<;>exact⟨_,rfl⟩
 |inr r=>exact⟨r,by simp⟩
def kq(us:List (List Int))(N j:Nat):Prop:=∃d F,BI us N j F.length d F/\∀k∈us.getD j [],d.getD k.toNat 0<0
theorem adr{n N:Nat}{a0:List gI}{us:List (List Int)}(hg:Yc us N)(hd:a0.length=N)(hn:5000003<=n):∃c,je n a0 us=some (a0,us,c)/\(c=[]->∀j,j<N->kq us N j)/\c.length<=N+1:=by
 have hN:=hg.2.1
 obtain⟨o,h1,c,rfl,h2⟩:=eO (step:=iy n a0) (λ i (v:Int×List gI×List (List Int)×List ByteArray)=>∃c,v=((i:Int),a0,us,c)/\i<=N/\c.length<=N+1/\(c=[]->∀j,j<i->kq us N j))
  (λ o=>∃c,o=(a0,us,c)/\(c=[]->∀j,j<N->kq us N j)/\c.length<=N+1) N (λ k v ⟨_,_,h,_⟩=>h) (by
  rintro i v ⟨c,rfl,hi,hcl,hc⟩;by_cases hlt:i<N;left;obtain⟨d,F,c2,hb,hci,aov,hc2⟩:=aiV (n:=n) (a1:=a0) hg hd (by omega) hlt;simp only[iy,show decide ((i:Int)<a0.length)=true from by simp;omega,aj,hci,ai,aY i,iP,aN];have hfin:∀c':List ByteArray,c'.length<=N+1->(c'=[]->c=[]/\c2=[])->∃c'',(((i+1:Nat):Int),a0,us,c')=(((i+1:Nat):Int),a0,us,c'')/\i+1<=N/\c''.length<=N+1/\(c''=[]->∀j,j<i+1->kq us N j):=λc' hl' he=>
   ⟨c',rfl,hlt,hl',λe j hj=>by have⟨e1,e2⟩:=he e;by_cases h:j=i;subst h;exact⟨d,F,hb,hc2 e2⟩;exact hc e1 j (by omega)⟩
  obtain⟨r,hr⟩:=aa9 (n:=n) (a:=c2) (b:=c) (by omega) (by omega);cases h0:(c2.length==0)with
  |true=>
   have e2:c2=[]:=List.eq_nil_of_length_eq_zero (by simpa using h0);exact⟨_,by simp,hfin c hcl λe=>⟨e,e2⟩⟩
  |false=>
   have hne:c2≠[]:=λe=>(by rw[e]at h0;simp at h0);simp only[ay,ai];have key:∃b,(bif c.length==0 then some true else bif decide ((c2.length:Int)<c.length)then some true else bif(c2.length:Int)==c.length then(lZ n c2 c).bind λr2=>some (decide (r2<0))else some false)=some b/\(c.length=0->b=true):=by
    cases h3:(c.length==0)with
    |true=>exact⟨true,rfl,λ_=>rfl⟩
    |false=>
     have hcn:c.length≠0:=(by simpa using h3);simp only[ay,hr,ai];cases decide ((c2.length:Int)<c.length)<;>cases ((c2.length:Int)==c.length)<;>exact⟨_,rfl,λe=>absurd e hcn⟩
   obtain⟨b,hb1,hb2⟩:=key;rw[hb1];cases b with
   |true=>exact⟨_,by simp,hfin c2 aov λe=>absurd e hne⟩
   |false=>exact⟨_,by simp,hfin c hcl λe=>by rw[e]at hb2;exact absurd (hb2 rfl) (by simp)⟩
  right;refine⟨(a0,us,c),?_,c,rfl,λe j hj=>hc e j (by omega),hcl⟩;simp only[iy,show decide ((i:Int)<a0.length)=false from by simp;omega,ay,aN,aj]) n 0 (0,a0,us,[]) ⟨[],rfl,Nat.zero_le _,by simp,λ_ j hj=>absurd hj (Nat.not_lt_zero _)⟩ (by omega)
 exact⟨c,by simp[je,h1],h2⟩
theorem BI.back{us:List (List Int)}{N to:Nat}{d:List Int}{F:List Nat}(b:BI us N to F.length d F){i y:Nat}(hi:i<N)(hy:y<N)(h:(y:Int)∈us.getD i [])(h0:0<=d.getD y 0):0<=d.getD i 0:=by obtain⟨j,hj,hjy⟩:=mem_iff_getElem.1 ((b.mem y hy).1 h0);exact b.cl j y hj (by rw[dD hj,hjy]) i hi h
theorem al9{us:List (List Int)}{N:Nat}(hg:Yc us N)(hf:∀j,j<N->kq us N j)(done:Nat->Prop){i0:Nat}(h0:i0<N)(hd0:¬done i0):∃i,i<N/\¬done i/\∀k∈us.getD i [],done k.toNat:=by
 refine uK λhno=>?_;have hstep:∀i:{i:Nat // i<N/\¬done i},∃k:{k:Nat // k<N/\¬done k},(k.1:Int)∈us.getD i.1 []:=by
  rintro⟨i,hi,hnd⟩;refine uK λh=>hno ⟨i,hi,hnd,λk hk=>uK λhkd=>h ?_⟩;have hl:us.getD i []∈us:=by have:i<us.length:=(by rw[hg.1];exact hi);simp[this]
  have hr:=(hg.2.2 _ hl).2 k hk;exact⟨⟨k.toNat,by omega,hkd⟩,by show(k.toNat:Int)∈_;rw[Int.toNat_of_nonneg hr.1];exact hk⟩
 obtain⟨f,hfs⟩:=Classical.axiomOfChoice hstep
 let g:Nat->{i:Nat // i<N/\¬done i}:=λj=>Nat.rec ⟨i0,h0,hd0⟩ (λ _ x=>f x) j
 have hgs:∀j,((g (j+1)).1:Int)∈us.getD (g j).1 []:=λj=>hfs (g j);have hnd:¬((List.range (N+1)).map λj=>(g j).1).Nodup:=λh=>by
  have:=H8 N _ h λy hy=>by obtain⟨j,_,rfl⟩:=mem_map.1 hy;exact(g j).2.1
  rw[length_map,List.length_range]at this;omega
 obtain⟨a,b,hab,he⟩:∃a b,a<b/\(g a).1=(g b).1:=by refine uK λh=>hnd ?_;rw[List.nodup_iff_pairwise_ne,List.pairwise_map];exact List.pairwise_lt_range.imp λ{x y} hxy e=>h ⟨x,y,hxy,e⟩
 obtain⟨d,F,hb,hneg⟩:=hf _ (g a).2.1;have hall:∀c,a<b-c->c<b-a->0<=d.getD (g (b-c)).1 0:=by
  intro c
  induction c with
  |zero=>intro _ _;rw[Nat.sub_zero,<- he,hb.hd.2];exact Int.le_refl _
  |succ c ih=>
   intro h1 h2;have:=ih (by omega) (by omega);have e:b-c=b-(c+1)+1:=(by omega);rw[e]at this;exact hb.back (g (b-(c+1))).2.1 (g (b-(c+1)+1)).2.1 (hgs (b-(c+1))) this
 have h1:=hall (b-a-1) (by omega) (by omega);have e:b-(b-a-1)=a+1:=by omega
 rw[e]at h1;have h2:=hneg _ (hgs a);simp only[Int.toNat_natCast]at h2;omega
theorem ads{n N:Nat}{l:List Int}{done:List Bool}(hd:done.length=N)(hl:l.length<=4000000)(hr:∀k∈l,0<=k/\k<N)(hn:4000001<=n):
 ∃r,iG n l done=some (r,done)/\(r=false↔∀k∈l,done.getD k.toNat false=true):=by
 obtain⟨o,h1,h2⟩:=eO (step:=jX l) (λ i (v:Int×List Bool)=>v=((i:Int),done)/\i<=l.length/\∀k∈l.take i,done.getD k.toNat false=true)
  (λ o=>(o=.inl done/\∀k∈l,done.getD k.toNat false=true)\/∃i:Nat,o=.inr (i,done)/\∃k∈l,done.getD k.toNat false=false) l.length (λ k v h=>h.2.1) (by
  rintro i v ⟨rfl,hi,hall⟩;by_cases hlt:i<l.length;have hk:=hr l[i] (getElem_mem hlt);obtain⟨k,hk2⟩:=Int.eq_ofNat_of_zero_le hk.1;have hkN:k<done.length:=by omega
  have Jn:done[k]=done.getD k false:=by simp[hkN]
  have htk:l.take (i+1)=l.take i++[l[i]]:=by rw[List.take_add_one,dD hlt];rfl
  simp only[jX,show decide ((i:Int)<l.length)=true from by simp;omega,aj,bE hlt,ai,aN,hk2,mH,aW hkN,bJ hkN,Jn];cases hdk:done.getD k false with
  |true=>
   refine .inl ⟨_,by simp;rfl,by rw[aQ (by omega)],hlt,λz hz=>?_⟩;rw[htk,bK]at hz;rcases hz with hz|hz;exact hall z hz;simp at hz;rw[hz,hk2];simpa using hdk
  |false=>exact .inr ⟨_,by simp,.inr ⟨i,rfl,l[i],getElem_mem hlt,by rw[hk2];simpa using hdk⟩⟩
  refine .inr ⟨.inl done,?_,.inl ⟨rfl,by rw[take_of_length_le (by omega)]at hall;exact hall⟩⟩;simp only[jX,show decide ((i:Int)<l.length)=false from by simp;omega,ay,aN,aj]) n 0 (0,done) ⟨rfl,Nat.zero_le _,by simp⟩ (by omega)
 rcases h2 with ⟨rfl,h2⟩|⟨i,rfl,k,hk,hkd⟩;exact⟨false,by simp[iG,mW,h1],λ_=>h2,λ_=>rfl⟩;refine⟨true,by simp[iG,mW,h1],λh=>(by cases h),λh=>?_⟩;rw[h k hk]at hkd;cases hkd
def Ok(us:List (List Int))(N:Nat)(done:List Bool)(i:Nat)(w:Int):Prop:=
 (w=-1/\∀j,j<i->¬(done.getD j false=false/\∀k∈us.getD j [],done.getD k.toNat false=true))\/∃j:Nat,w=j/\j<i/\done.getD j false=false
theorem akM{n N:Nat}{a0:pE}{done:List Bool}(hg:Yc a0.uses N)(hd:a0.defs.length=N)(hl:done.length=N)(hn:4000002<=n):∃w,iter (iW n a0) n (-1,0,done)=some (w,done)/\Ok a0.uses N done N w:=by
 have hN:=hg.2.1;have GM:=hg.1;obtain⟨o,h1,w,rfl,h2⟩:=eO (step:=iW n a0) (λ i (v:Int×Int×List Bool)=>∃w,v=(w,(i:Int),done)/\i<=N/\Ok a0.uses N done i w) (λ o=>∃w,o=(w,done)/\Ok a0.uses N done N w) N (λ k v ⟨_,_,h,_⟩=>h) (by
  rintro i v ⟨w,rfl,hi,hw⟩;by_cases hlt:i<N;left;have hiu:i<a0.uses.length:=by omega
  have hid:i<a0.defs.length:=by omega
  have hib:i<done.length:=by omega
  have hl2:=hg.2.2 a0.uses[i] (getElem_mem hiu);obtain⟨r,hr1,hr2⟩:=ads (n:=n) hl hl2.1 hl2.2 (by omega);have hgi:a0.uses.getD i []=a0.uses[i]:=by simp[hiu]
  have hdi:done[i]=done.getD i false:=by simp[hib]
  simp only[iW,show decide ((i:Int)<a0.uses.length)=true from by simp;omega,aj,bE hiu,ai,aN,hr1,aW hib,bJ hib,hdi,aY i];have keep:(done.getD i false=true\/r=true)->Ok a0.uses N done (i+1) w:=by intro hno;rcases hw with ⟨rfl,hw⟩|⟨j,rfl,hj,hw⟩;refine .inl ⟨rfl,λj hj h=>?_⟩;by_cases e:j=i;subst e;rw[hgi]at h;rcases hno with h3|h3;rw[h3]at h;exact absurd h.1 (by simp);have:=hr2.2 h.2;rw[h3]at this;cases this;exact hw j (by omega) h;exact .inr ⟨j,rfl,by omega,hw⟩
  cases hdn:done.getD i false with
  |true=>exact⟨_,by simp,w,rfl,hlt,keep (.inl hdn)⟩
  |false=>
   cases r with
   |true=>exact⟨_,by simp,w,rfl,hlt,keep (.inr rfl)⟩
   |false=>
    have al:Ok a0.uses N done (i+1) i:=.inr ⟨i,rfl,by omega,hdn⟩;rcases hw with ⟨rfl,hw⟩|⟨j,rfl,hj,hw⟩;exact⟨_,by simp,_,rfl,hlt,al⟩;have hjd:j<a0.defs.length:=(by omega);simp only[Bool.not_false,aj,show decide (j<0)=false from by simp,ay,bE hid,bE hjd,ai];cases UJ a0.defs[i].name a0.defs[j].name with
    |true=>exact⟨_,rfl,_,rfl,hlt,al⟩
    |false=>exact⟨_,rfl,_,rfl,hlt,.inr ⟨j,rfl,by omega,hw⟩⟩
  right;have hiN:i=N:=by omega
  refine⟨(w,done),?_,w,rfl,hiN ▸ hw⟩;simp only[iW,show decide ((i:Int)<a0.uses.length)=false from by simp;omega,ay,aN,aj]) n 0 (-1,0,done) ⟨_,rfl,Nat.zero_le _,.inl ⟨rfl,λj hj=>absurd hj (Nat.not_lt_zero _)⟩⟩ (by omega)
 exact⟨w,h1,h2⟩
theorem akN{n N:Nat}{a0:pE}(hg:Yc a0.uses N)(hd:a0.defs.length=N)(hf:∀j,j<N->kq a0.uses N j)(hn:4000002<=n):∃l,nM n a0=some l/\l.length=N/\∀k∈l,0<=k/\k<N:=by
 have hN:=hg.2.1;have hmx:maxLen=9223372036854775807:=rfl
 obtain⟨o,h1,h2⟩:=eO (step:=kV n a0) (λ c (v:Int×List Int×List Bool)=>∃out done,v=((c:Int),out,done)/\c<=N/\out.length=c/\(∀ k∈out,0<=k/\k<N)/\done.length=N/\done.count false=N-c)
  (λ o=>o.length=N/\∀k∈o,0<=k/\k<N) N (λ k v ⟨_,_,_,h,_⟩=>h) (by
  rintro c v ⟨out,done,rfl,hc,hol,hor,hdl,hcf⟩;by_cases hlt:c<N;left;have⟨w,hw1,hw2⟩:=akM (n:=n) hg hd hdl hn;have hopen:∃i0,i0<N/\done.getD i0 false=false:=by have hm:false∈done:=List.count_pos_iff.1 (by omega);obtain⟨i0,h0,e⟩:=mem_iff_getElem.1 hm;exact⟨i0,by omega,by simp[h0,e]⟩
  obtain⟨i0,h0,h0d⟩:=hopen;obtain⟨i,hi,hid,hia⟩:=al9 hg hf (λ j=>done.getD j false=true) h0 (by rw[h0d];simp);rcases hw2 with ⟨rfl,hw2⟩|⟨j,rfl,hj,hjd⟩;exact absurd ⟨Bool.eq_false_iff.2 hid,hia⟩ (hw2 i hi);have hjl:j<done.length:=by omega
  have hap:bL out.length out.length (sub [(j:Int)] 0 1).length 1 8=true:=by simp[bL,sub];omega
  have hset:(done.set j true).length=done.length:=by simp
  refine⟨((c+1:Nat),out++[(j:Int)],done.set j true),?_,_,_,rfl,hlt,by simp[hol],?_,by simp[hdl],?_⟩;simp only[kV,show decide ((c:Int)<a0.defs.length)=true from by simp;omega,aj,aN,hw1,ai,aW hjl,bJ hjl,hap,gD,aY c,show(((0:Nat):Int)+j).toNat=j by omega,qw hset.symm];simp[sub];intro k hk;rw[bK]at hk;rcases hk with hk|hk;exact hor k hk;simp at hk;subst hk;omega;have hjf:done[j]=false:=by simpa[List.getD,hjl]using hjd
  rw[List.count_set hjl,hcf,hjf];simp;omega;right;have:c=N:=by omega
  refine⟨out,?_,by omega,hor⟩;simp only[kV,show decide ((c:Int)<a0.defs.length)=false from by simp;omega,ay,aN,aj]) n 0 (0,[],List.replicate N false) ⟨[],_,rfl,Nat.zero_le _,rfl,by simp,by simp,by simp⟩ (by omega)
 refine⟨o,?_,h2⟩;have hmk:uy N 1=true:=by simp[uy];omega
 simp only[nM,hd,Int.le_refl,decide_true,Bool.true_and,show decide (0<=N)=true from by simp,hmk,aj,Int.toNat_natCast,h1,ai,iP,aN];simp
def pb(out:List aK)(s:aK):List aK:=
 match out.getLast? with
 |some q=>bif decide (s.from_<=q.to)then out.dropLast++[⟨q.from_,max q.to s.to⟩]else out++[s]
 |none=>[s]
theorem VZ out (s:aK):(pb out s).length<=out.length+1:=by
 unfold pb;cases out.getLast? with
 |none=>simp
 |some q=>simp;cases decide (s.from_<=q.to)<;>simp<;>omega
theorem afN o (q s:aK):pb (o++[q]) s=bif decide (s.from_<=q.to)then o++[⟨q.from_,max q.to s.to⟩]else o++[q]++[s]:=by simp[pb]
abbrev FF(s:aK):Prop:=s.from_<s.to
def hZ(l:List aK)(y:Int):Bool:=l.any λs=>decide (s.from_<=y)&&decide (y<s.to)
def Can(l:List aK):Prop:=l.Pairwise (λ a b=>a.to<b.from_)/\∀s∈l,FF s
theorem M8 l y:hZ l y=true↔∃s∈l,s.from_<=y/\y<s.to:=by simp[hZ]
theorem EC(l m:List aK) y:hZ (l++m) y=(hZ l y || hZ m y):=by simp[hZ]
theorem Jv y:hZ [] y=false:=rfl
theorem og(s:aK) l y:hZ (s::l) y=((decide (s.from_<=y)&&decide (y<s.to)) || hZ l y):=by simp[hZ]
theorem adt{l m:List aK}(h:l.Perm m) y:hZ l y=hZ m y:=by rw[jg,M8,M8];exact⟨λ ⟨s,hs,h1⟩=>⟨s,h.mem_iff.1 hs,h1⟩,λ⟨s,hs,h1⟩=>⟨s,h.mem_iff.2 hs,h1⟩⟩
theorem ahG:Can []:=⟨List.Pairwise.nil,by simp⟩
theorem akO{out:List aK}{s:aK}(hc:Can out)(hs:FF s)(hb:∀o∈out,o.from_<=s.from_):
 Can (pb out s)/\(∀ o∈pb out s,o.from_<=s.from_)/\∀y,hZ (pb out s) y=(hZ out y || hZ [s] y):=by rcases List.eq_nil_or_concat out with rfl|⟨o,q,rfl⟩;refine⟨⟨by simp[pb],by simp[pb];exact hs⟩,by simp[pb],λy=>by simp[pb,hZ]⟩;rw[List.concat_eq_append]at*;obtain⟨h1,h2⟩:=hc;rw[pairwise_append]at h1;obtain⟨p1,_,p3⟩:=h1;have hq:FF q:=h2 q (by simp);have hqs:q.from_<=s.from_:=hb q (by simp);rw[afN];by_cases hj:s.from_<=q.to;simp only[hj,decide_true,aj];refine⟨⟨?_,?_⟩,?_,?_⟩;rw[pairwise_append];refine⟨p1,by simp,λa ha b hb'=>?_⟩;rw[bn]at hb';subst hb';exact p3 a ha q (by simp);intro a ha;rcases bK.1 ha with ha|ha;exact h2 a (by simp[ha]);rw[bn]at ha;subst ha;show q.from_<max q.to s.to;have:q.from_<q.to:=hq;omega;intro a ha;rcases bK.1 ha with ha|ha;exact hb a (by simp[ha]);rw[bn]at ha;subst ha;exact hqs;intro y;rw[EC,EC,Bool.or_assoc];congr 1;simp[og,Jv];rw[jg];simp;have:q.from_<q.to:=hq;have:s.from_<s.to:=hs;omega;simp only[hj,decide_false,ay];refine⟨⟨?_,?_⟩,?_,?_⟩;rw[pairwise_append];refine⟨?_,by simp,λa ha b hb'=>?_⟩;rw[pairwise_append];exact⟨p1,by simp,p3⟩;rw[bn]at hb';subst hb';rcases bK.1 ha with ha|ha;have:=p3 a ha q (by simp);have:q.from_<q.to:=hq;omega;rw[bn]at ha;subst ha;omega;intro a ha;rcases bK.1 ha with ha|ha;exact h2 a ha;rw[bn]at ha;subst ha;exact hs;intro a ha;rcases bK.1 ha with ha|ha;exact hb a ha;rw[bn]at ha;subst ha;exact Int.le_refl _;intro y;rw[EC]
theorem Pq:∀(l out:List aK),Can out->(∀ s∈l,FF s)->l.Pairwise (λ x y=>x.from_<=y.from_)->(∀ o∈out,∀s∈l,o.from_<=s.from_)->Can (l.foldl pb out)/\∀y,hZ (l.foldl pb out) y=(hZ out y || hZ l y)
 |[],out,hc,_,_,_=>⟨hc,λy=>by simp[Jv]⟩
 |s::l,out,hc,hv,hp,hb=>by rw[pairwise_cons]at hp;obtain⟨m1,m2,m3⟩:=akO hc (hv s (by simp)) (λ o ho=>hb o ho s (by simp));obtain⟨f1,f2⟩:=Pq l (pb out s) m1 (λ t ht=>hv t (by simp[ht])) hp.2 (λ o ho t ht=>Int.le_trans (m2 o ho) (hp.1 t ht));refine⟨f1,λy=>?_⟩;rw[foldl_cons,f2,m3,Bool.or_assoc,<- EC];rfl
theorem adu{a:aK}{l:List aK}(h:Can (a::l)):Can l:=⟨(pairwise_cons.1 h.1).2,λs hs=>h.2 s (by simp[hs])⟩
theorem Jw{a:aK}{l:List aK}(h:Can (a::l)){y:Int}(hy:hZ l y=true):a.to<y:=by obtain⟨s,hs,h1,_⟩:=(M8 _ _).1 hy;have:=(pairwise_cons.1 h.1).1 s hs;omega
theorem ZI{a:aK}{l:List aK}(h:Can (a::l)){y:Int}(hy:hZ (a::l) y=true):a.from_<=y:=by rw[og,Bool.or_eq_true]at hy;rcases hy with hy|hy;simp at hy;exact hy.1;have:=Jw h hy;have:a.from_<a.to:=h.2 a (by simp);omega
theorem V3:∀{l m:List aK},Can l->Can m->(∀ y,hZ l y=hZ m y)->l=m
 |[],[],_,_,_=>rfl
 |[],b::m,_,hm,h=>by have:=h b.from_;have hb:b.from_<b.to:=hm.2 b (by simp);rw[Jv,og]at this;simp[hb]at this
 |a::l,[],hl,_,h=>by have:=h a.from_;have ha:a.from_<a.to:=hl.2 a (by simp);rw[Jv,og]at this;simp[ha]at this
 |a::l,b::m,hl,hm,h=>by
  have ha:a.from_<a.to:=hl.2 a (by simp);have hb:b.from_<b.to:=hm.2 b (by simp);have ina:hZ (a::l) a.from_=true:=by rw[og];simp[ha]
  have VC:hZ (b::m) b.from_=true:=by rw[og];simp[hb]
  have e1:a.from_=b.from_:=by have h1:=ZI hm (by rw[<- h];exact ina);have h2:=ZI hl (by rw[h];exact VC);omega
  have nl:∀(c:aK) k,Can (c::k)->hZ (c::k) c.to=false:=by
   intro c k hk;cases hc:hZ (c::k) c.to with
   |false=>rfl
   |true=>
    rw[og,Bool.or_eq_true]at hc;rcases hc with hc|hc;simp at hc;have:=Jw hk hc;omega
  have e2:a.to=b.to:=by rcases Int.lt_trichotomy a.to b.to with hlt|he|hlt;have h1:=nl a l hl;rw[h,og]at h1;simp at h1;omega;exact he;have h1:=nl b m hm;rw[<- h,og]at h1;simp at h1;omega
  have e:a=b:=by cases a;cases b;simp at e1 e2;rw[e1,e2]
  subst e;rw[V3 (adu hl) (adu hm) λy=>?_];have hy:=h y;rw[og,og]at hy;cases h1:hZ l y with
  |true=>
   have:=Jw hl h1;have z:(decide (a.from_<=y)&&decide (y<a.to))=false:=(by rw[Bool.and_eq_false_iff,dM,dM];omega);rw[z,h1,Bool.false_or,Bool.false_or]at hy;rw[<- hy]
  |false=>
   cases h2:hZ m y with
   |false=>rfl
   |true=>
    have:=Jw hm h2;have z:(decide (a.from_<=y)&&decide (y<a.to))=false:=(by rw[Bool.and_eq_false_iff,dM,dM];omega);rw[z,h1,h2]at hy;simp at hy
def Fi(l:List aK):List aK:=(kL tA l).foldl pb []
theorem akP{l:List aK}(h:l.Pairwise λx y=>tA y x=false):l.Pairwise λx y=>x.from_<=y.from_:=
 h.imp λ{x y} hxy=>by simp at hxy;omega
theorem ZJ{l:List aK}(h:∀s∈l,FF s):Can (Fi l)/\∀y,hZ (Fi l) y=hZ l y:=by have hp:=Eg tA l;obtain⟨h1,h2⟩:=Pq (kL tA l) [] ahG (λ s hs=>h s (hp.mem_iff.1 hs)) (akP (akl M7 l)) (by simp);exact⟨h1,λy=>by rw[Fi,h2,Jv,Bool.false_or,adt hp]⟩
theorem aiW{l:List aK}(h:∀s∈l,FF s):(rR tA l).foldl pb []=Fi l:=by have hp:=VD M7 l;obtain⟨h1,h2⟩:=Pq (rR tA l) [] ahG (λ s hs=>h s (hp.mem_iff.1 hs)) (akP (aaX M7 l)) (by simp);have⟨h3,h4⟩:=ZJ h;exact V3 h1 h3 λy=>by rw[h2,Jv,Bool.false_or,adt hp,h4]
theorem adv l:(Fi l).length<=l.length:=by
 have:∀(ys out:List aK),(ys.foldl pb out).length<=out.length+ys.length:=by
  intro ys
  induction ys with
  |nil=>intro out;simp
  |cons y ys ih=>
   intro out;simp;have:=ih (pb out y);have:=VZ out y;omega
 have h:=this (kL tA l) [];rw[eu]at h;simpa[Fi]using h
abbrev en(r:au):Bool:=decide (0<=r.x0)&&(decide (r.x0<r.x1)&&(decide (r.x1<=1048576)&&(decide (0<=r.y0)&&(decide (r.y0<r.y1)&&decide (r.y1<=1048576)))))
theorem S4(a b:Bool):(bif a then some b else some false)=some (a&&b):=by cases a<;>rfl
theorem jG(r:au):oO r=some (en r):=by simp[oO,S4]
def kY(l:List au)(x:Int):List aK:=(l.filter λr=>decide (r.x0<=x)&&decide (x<r.x1)).map λr=>⟨r.y0,r.y1⟩
def cO(l:List au)(x:Int):List aK:=Fi (kY l x)
theorem H9 l x:(kY l x).length<=l.length:=by simp[kY];exact length_filter_le _ _
theorem yN l x:(cO l x).length<=l.length:=
 Nat.le_trans (adv _) (H9 l x)
theorem an4{r:au}(h:en r=true):r.y0<r.y1:=by simp at h;omega
theorem V4{l:List au}(h:∀r∈l,en r=true) x:∀s∈kY l x,FF s:=by intro s hs;simp[kY]at hs;obtain⟨r,⟨hr,_⟩,rfl⟩:=hs;exact an4 (h r hr)
theorem Ps{l:List au}{x:Int}(hl:l.length<1099511627776){n:Nat}(hn:l.length<n):iter (sW l x) n (0,[])=some (kY l x):=by
 have:=gq (l:=l) (step:=sW l x) (λ i s=>(i,s)) (λ r s=>bif decide (r.x0<=x)&&decide (x<r.x1)then s++[⟨r.y0,r.y1⟩]else s) (λ s=>s) (λ i s=>s.length<=i)
  (λ i hi s hs=>?_) (λ s hs=>by simp[sW]) n hn [] (ax _)
 rw[ll]at this;rw[this];congr 1;have gen:∀ys s,ys.foldl (λ s r=>bif decide (r.x0<=x)&&decide (x<r.x1)then s++[⟨r.y0,r.y1⟩]else s) s=s++kY ys x:=by
  intro ys
  induction ys with
  |nil=>intro s;simp[kY]
  |cons y ys ih=>
   intro s;simp[ih];cases h:(decide (y.x0<=x)&&decide (x<y.x1))with
   |true|false=>simp[kY,h]
 simpa using gen l [];have hi':decide ((i:Int)<l.length)=true:=by simpa using hi
 have ap:bL s.length s.length (sub ([(aK.mk l[i].y0 l[i].y1)]:List aK) 0 1).length 1 16=true:=eG (n:=1) (by omega) (by simp[maxLen];omega);simp only[sW,hi',aj,bE hi,ai,S4];cases h:(decide (l[i].x0<=x)&&decide (x<l[i].x1))with
 |true=>
  simp only[aj,ap,gD,aN,ai];refine⟨?_,by simp;omega⟩;rw[aQ (by omega)];rfl
 |false=>
  simp only[ay,aN,aj,ai];exact⟨by rw[aQ (by omega)],by omega⟩
theorem Pv(w1 r2:List aK)(hw:w1.length=r2.length)(hl:r2.length<1099511627776)(hn:r2.length<n):iter (sZ w1 r2) n (0,[])=some (r2.foldl pb []):=by
 have:=gq (l:=r2) (step:=sZ w1 r2) (λ i s=>(i,s)) (λ r s=>pb s r) (λ s=>s) (λ i s=>s.length<=i)
  (λ i hi s hs=>?_) (λ s hs=>by simp[sZ,hw]) n hn [] (ax _)
 rw[ll]at this;exact this;refine⟨?_,by have:=VZ s r2[i];omega⟩;have hi':decide ((i:Int)<(w1.length:Nat))=true:=by simp;omega
 have ib:co i w1.length=true:=aW (by omega);have ap:bL s.length s.length (sub ([r2[i]]:List aK) 0 1).length 1 16=true:=eG (n:=1) (by omega) (by simp[maxLen];omega);simp only[sZ,hi',aj,ib,bJ hi,ai];rcases List.eq_nil_or_concat s with rfl|⟨s0,q,Is⟩;have d0:decide ((([]:List aK).length:Nat)>0)=false:=by simp
 simp;rw[aQ (by omega)];rfl;rw[List.concat_eq_append]at Is;subst Is;have d0:decide (((((s0++[q]).length:Nat):Int))>0)=true:=by simp<;>omega
 have BT:(s0++[q]).length=s0.length+1:=by simp
 have wp:i64.wrap (((s0++[q]).length:Nat)-1)=(s0.length:Nat):=by rw[mY (by simp) (by omega),BT];rfl
 have VM:co (s0.length:Nat) (s0++[q]).length=true:=aW (by omega);have g:bu (s0++[q]) ((0:Nat)+(s0.length:Nat))=some q:=by rw[oM];simp
 have z:(((0:Nat):Int)+(s0.length:Nat)).toNat=s0.length:=by simp
 have st:(s0++[q]).set s0.length (aK.mk q.from_ (max q.to r2[i].to))=s0++[⟨q.from_,max q.to r2[i].to⟩]:=by simp
 have m:pb (s0++[q]) r2[i]=bif decide (r2[i].from_<=q.to)then s0++[⟨q.from_,max q.to r2[i].to⟩]else s0++[q]++[r2[i]]:=by simp[pb]
 simp only[d0,aj,wp,VM,g,ai,m,z,st];cases decide (r2[i].from_<=q.to)with
 |true=>
  have e:aE (s0++[q]).length (s0++[(⟨q.from_,max q.to r2[i].to⟩:aK)]).length=true:=by simp
  simp only[aj,e,ai,aN];rw[aQ (by omega)]
 |false=>
  simp only[ay,ap,aj,gD,aN,ai];rw[aQ (by omega)];rfl
theorem abd{l:List au}{x:Int}(hv:∀r∈l,en r=true)(hl:l.length<1099511627776)(hn:l.length<n):Jp n l x=some (cO l x):=by have h1:=H9 l x;have h2:(rR tA (kY l x)).length=(kY l x).length:=Ee M7 _;unfold Jp;simp[Ps (x:=x) (l:=l) (by omega) (n:=n) (by omega)];rw[JD (λ a b=>if a.from_<b.from_ then -1 else if b.from_<a.from_ then 1 else 0) (λ a b=>by show xq a b=_;unfold xq;rw[jb];rfl) (λ a b=>by by_cases h1:a.from_<b.from_;simp[h1];by_cases h2:b.from_<a.from_<;>simp[h1,h2]) (by omega) (by omega)];simp;rw[Pv _ _ h2.symm (by omega) (by omega)];simp;rw[aiW (V4 hv x)];rfl
def iA(l:List au):List Int:=Hc (l.flatMap λr=>[r.x0,r.x1])
def jH{α:Type}(f:Int->Int->α):List Int->List α
 |a::b::l=>f a b::jH f (b::l)
 |_=>[]
def bf(l:List au):List bP:=jH (λ a b=>⟨a,b,cO l a⟩) (iA l)
theorem rJ{α:Type}(f:Int->Int->α):∀l,(jH f l).length=l.length-1/\∀i (h:i+1<l.length) (h':i<(jH f l).length),(jH f l)[i]=f l[i] l[i+1]
 |[]|[a]=>⟨rfl,λi h=>by simp at h⟩
 |a::b::l=>by
  have⟨h1,h2⟩:=rJ f (b::l);refine⟨by simp only[jH,gH,h1];simp,λi h h'=>?_⟩;cases i with
  |zero=>rfl
  |succ i=>
   simp;exact h2 i (by simpa using h) _
theorem wC(l:List au):(l.flatMap λr=>[r.x0,r.x1]).length=2*l.length:=by
 induction l with
 |nil=>rfl
 |cons x l ih=>simp[ih];omega
theorem rz l:(iT l).length<=l.length:=by
 match l with
 |[]|[x]=>simp[iT]
 |x::y::l=>
  have:=rz (y::l);simp[iT];cases x==y<;>simp at* <;>omega
theorem Ko l:(iA l).length<=2*l.length:=by have h:=rz (kL (λ a b=>decide (a<b)) (l.flatMap λr=>[r.x0,r.x1]));rw[eu,wC]at h;exact h
theorem Pw{l:List au}(hl:l.length<10995116277)(hn:l.length<n):iter (tq l) n (0,[])=some (l.flatMap λr=>[r.x0,r.x1]):=by
 have:=gq (l:=l) (step:=tq l) (λ i s=>(i,s)) (λ r s=>s++[r.x0,r.x1]) (λ s=>s) (λ i s=>s.length<=2*i)
  (λ i hi s hs=>?_) (λ s hs=>by simp[tq]) n hn [] (ax _)
 rw[ll]at this;rw[this];have gen:∀(ys:List au) s,ys.foldl (λ s r=>s++[r.x0,r.x1]) s=s++ys.flatMap λr=>[r.x0,r.x1]:=by
  intro ys
  induction ys with
  |nil=>intro s;simp
  |cons y ys ih=>intro s;simp[ih]
 congr 1;simpa using gen l [];have hi':decide ((i:Int)<(l.length:Nat))=true:=by simpa using hi
 have ap:bL s.length s.length (sub ([l[i].x0,l[i].x1]:List Int) 0 2).length 2 8=true:=eG (n:=2) (by omega) (by simp[maxLen];omega);simp only[tq,hi',aj,aW hi,bJ hi,ai,ap,gD,aN];refine⟨?_,by simp;omega⟩;rw[aQ (by omega)];rfl
theorem xH{ls:List (List au)}(hv:∀r∈ls.flatten,en r=true)(hl:ls.flatten.length<10995116277)(hls:ls.length<1099511627776)(hn:2*ls.flatten.length<n)(hn2:ls.length<n):ow n ls=some (bf ls.flatten):=by
 unfold ow;rw[M6 (by omega) hls hn2];generalize ls.flatten=l at*;have he:=Ko l;simp[Pw (l:=l) (n:=n) (by omega) (by omega)];rw[pQ (by rw[wC];omega) (by rw[wC];omega)];simp only[ai,eu,aN,aj];rw[tT (by rw[eu,wC];omega) (by rw[eu,wC];omega)];simp only[ai];have hE:iT (kL ot (l.flatMap λr=>[r.x0,r.x1]))=iA l:=rfl;rw[hE];obtain⟨p1,p2⟩:=rJ (λ a b=>(⟨a,b,cO l a⟩:bP)) (iA l);have key:iter (tu n l ((),iA l)) n (1,[])=some (bf l):=by
  have:=mR (step:=tu n l ((),iA l)) (λ i=>((i+1:Nat),(bf l).take i)) (bf l).length (bf l) (λ i hi=>?_) ?_ n (by unfold bf;omega);simpa using this;have hi2:i+1<(iA l).length:=by unfold bf at hi;omega
  have d:decide (((i+1:Nat):Int)<((iA l).length:Nat))=true:=by simp;omega
  have wp:i64.wrap ((i+1:Nat)-1)=(i:Nat):=by rw[mY (by omega) (by omega)];rfl
  have ap:bL ((bf l).take i).length ((bf l).take i).length (sub ([(bP.mk ((iA l)[i]'(by omega)) (iA l)[i+1] (cO l ((iA l)[i]'(by omega))))]:List bP) 0 1).length 1 40=true:=by refine eG (n:=1) ?_ ?_;rw[length_take];unfold bf;omega;rw[length_take];unfold bf;simp[maxLen];omega
  have tk:(bf l).take (i+1)=(bf l).take i++[⟨(iA l)[i]'(by omega),(iA l)[i+1],cO l ((iA l)[i]'(by omega))⟩]:=by rw[kC hi];congr 2;exact p2 i hi2 hi
  simp only[tu,d,aj,wp,aW (show i<(iA l).length by omega),bJ (show i<(iA l).length by omega),ai,aW hi2,bJ hi2,iP,aN,abd (l:=l) (n:=n) hv (by omega) (by omega),ap,gD];rw[aQ (by omega),tk];rfl;have d:decide ((((bf l).length+1:Nat):Int)<((iA l).length:Nat))=false:=by unfold bf;simp;omega
  simp only[tu,d,ay,List.take_length,aN,aj]
 rw[key];simp
def ED(x0 x1:Int)(c:List aK):List au:=c.map λq=>⟨x0,q.from_,x1,q.to⟩
def Fc(x0 x1:Int)(c:List aK):List bP->List au
 |[]=>ED x0 x1 c
 |s::l=>if s.column=c then Fc x0 s.x1 c l else ED x0 x1 c++Fc s.x0 s.x1 s.column l
def nR:List bP->List au
 |[]=>[]
 |s::l=>Fc s.x0 s.x1 s.column l
theorem ZK x0 c:∀(l:List bP) x1 (k:Nat) (hk:k<=l.length),(∀ j (hj:j<k),(l[j]'(by omega)).column=c)->(∀ h:k<l.length,l[k].column≠c)->
 Fc x0 x1 c l=ED x0 (if h:0<k then(l[k-1]'(by omega)).x1 else x1) c++nR (l.drop k)
 |l,x1,0,_,_,h2=>by
  cases l with
  |nil=>simp[Fc,nR]
  |cons s l=>
   have:=h2 (by simp);simp at this;simp[Fc,nR,this]
 |[],x1,k+1,hk,_,_=>by simp at hk
 |s::l,x1,k+1,hk,h1,h2=>by
  have e0:=h1 0 (by omega);simp at e0;simp[Fc,e0];rw[ZK x0 c l s.x1 k (by simpa using hk) (λ j hj=>by have:=h1 (j+1) (by omega);simpa using this) (λ h=>by have:=h2 (by simpa using h);simpa using this)];simp;congr 2;by_cases hk0:0<k;simp[hk0];obtain⟨m,rfl⟩:∃m,k=m+1:=⟨k-1,by omega⟩;simp;have:k=0:=by omega
  subst this;simp
theorem RL{l:List bP}{i k:Nat}(hi:i<l.length)(hk1:0<k)(hk:k<=l.length)(hl:l.length<10995116277)(x3:bP) out (ho:out.length<1099511627776) (hc:x3.column.length<1099511627776) (hn:x3.column.length<n):
 iter (vZ l i k x3) n (0,out)=some (out++ED l[i].x0 (l[k-1]'(by omega)).x1 x3.column):=by
 have:=gq (l:=x3.column) (step:=vZ l i k x3) (λ j s=>(j,s)) (λ q s=>s++[⟨l[i].x0,q.from_,(l[k-1]'(by omega)).x1,q.to⟩]) (λ s=>s) (λ j s=>s.length<=out.length+j)
  (λ j hj s hs=>?_) (λ s hs=>by simp[vZ]) n hn out (ax _)
 rw[ll]at this;rw[this];have gen:∀ys s,ys.foldl (λ s q=>s++[⟨l[i].x0,q.from_,(l[k-1]'(by omega)).x1,q.to⟩]) s=s++ED l[i].x0 (l[k-1]'(by omega)).x1 ys:=by
  intro ys
  induction ys with
  |nil=>intro s;simp[ED]
  |cons y ys ih=>intro s;simp[ih];simp[ED]
 rw[gen];have hj':decide ((j:Int)<x3.column.length)=true:=by simpa using hj
 have wp:i64.wrap (k-1)=(k-1:Nat):=mY hk1 (by omega);have ap:bL s.length s.length (sub ([(au.mk l[i].x0 (x3.column[j]).from_ (l[k-1]'(by omega)).x1 (x3.column[j]).to)]:List au) 0 1).length 1 32=true:=eG (n:=1) (by omega) (by simp[maxLen];omega);simp only[vZ,hj',aj,bE hj,bE hi,wp,bE (show k-1<l.length by omega),ai,ap,gD,aN];refine⟨?_,by simp;omega⟩;rw[aQ (by omega)];rfl
theorem Rk{l:List bP}{b:Nat}(hb:b<=100000)(hl:l.length<=100000)(hc:∀s∈l,s.column.length<=b)(hn:b<n)(hn2:l.length<n):Hy n l=some (nR l):=by
 unfold Hy;simp only[length_nil,aN,aj];have main:∀(m i:Nat)(out:List au)(k:Nat),i+m=l.length->m<k->out.length<=i*b->iter (wh n l) k ((i:Int),out)=some (out++nR (l.drop i)):=by
  intro m
  induction m using Nat.strongRecOn with
  |ind m ih=>
   intro i out k him hk ho;obtain⟨k,rfl⟩:∃j,k=j+1:=⟨k-1,by omega⟩;by_cases hm:m=0;subst hm;have:i=l.length:=(by omega);subst this;refine bW ?_;simp[wh,nR];have hi:i<l.length:=(by omega);have di:decide ((i:Int)<(l.length:Int))=true:=(by simpa using hi);obtain⟨q,hq1,hq2,hq3,hq4⟩:∃q,i<q/\q<=l.length/\(∀ j,i<j->j<q->∀h:j<l.length,l[j].column=l[i].column)/\(∀ h:q<l.length,l[q].column≠l[i].column):=(by rcases Kl (λ j=>if h:j<l.length then decide (l[j].column≠l[i].column)else false) (i+1) l.length with ⟨q,h1,h2,h3,h4⟩|h;simp[h2]at h3;refine⟨q,by omega,by omega,λj hj1 hj2 hj=>?_,λ_=>h3⟩;have:=h4 j (by omega) hj2;simp[hj,Decidable.not_not]at this;exact this;refine⟨l.length,hi,ax _,λj hj1 hj2 hj=>?_,λh=>by omega⟩;have:=h j (by omega) hj;simp[hj,dite_true,dM,ne_eq,Decidable.not_not]at this;exact this);have cl:∀j (hj:j<l.length),l[j].column.length<=b:=λj hj=>hc _ (getElem_mem hj);have r2:iter (rV n l (i:Int)) n (i64.wrap ((i:Int)+1))=some (q:Int):=(by rw[aQ (by omega)];have:=mR (step:=rV n l (i:Int)) (λ j=>((i+1+j:Nat):Int)) (q-(i+1)) q (λ j hj=>?_) ?_ n (by omega);simpa using this;have hjl:i+1+j<l.length:=(by omega);have dj:decide (((i+1+j:Nat):Int)<l.length)=true:=(by simp;omega);have hcc:=cl (i+1+j) hjl;simp only[rV,dj,aj,bE hjl,bE hi,ai];rw[Cy (by omega) (by omega),hq3 (i+1+j) (by omega) (by omega) hjl];simp only[decide_true,ai,aj];rw[aQ (by omega)];rfl;rw[show i+1+(q-(i+1))=q by omega];by_cases zj:q<l.length;have dj:decide ((q:Nat)<l.length)=true:=(by simpa using zj);have hcc:=cl q zj;simp[rV,dj,aj,bE zj,bE hi,ai];rw[Cy (by omega) (by omega)];simp[hq4 zj];have dj:decide ((q:Int)<l.length)=false:=(by simp;omega);simp only[rV,dj,ay,ai]);have ob:i*b<=100000*100000:=Nat.mul_le_mul (by omega) hb;have hci:=cl i hi;have r3:=RL (n:=n) hi (show 0<q by omega) hq2 (by omega) l[i] out (by omega) (by omega) (by omega);have step:wh n l (i,out)=some (.inl (q,out++ED l[i].x0 (l[q-1]'(by omega)).x1 l[i].column)):=(by simp only[wh,di,aj,r2,bE hi,ai,aN,r3]);rw[dI step,ih (l.length-q) (by omega) q _ k (by omega) (by omega) (by rw[fO,ED,length_map];have:(i+1)*b<=q*b:=Nat.mul_le_mul_right _ (by omega);rw[Nat.add_mul]at this;omega)];rw[aT];congr 2
   conv=>rhs;rw[List.drop_eq_getElem_cons hi]
   simp[nR];rw[ZK l[i].x0 l[i].column (l.drop (i+1)) l[i].x1 (q-(i+1)) (by rw[length_drop];omega) (λ j hj=>by rw[getElem_drop];exact hq3 _ (by omega) (by omega) (by omega)) (λ h=>by rw[length_drop]at h;rw[getElem_drop];have:=hq4 (by omega);have hqq:i+1+(q-(i+1))=q:=(by omega);simp[hqq];exact this)];rw[List.drop_drop,show i+1+(q-(i+1))=q by omega];congr 2;by_cases h0:0<q-(i+1);simp[h0,dite_true,getElem_drop];congr 2;omega;simp[h0,dite_false];have:q-1=i:=(by omega);congr 2
 have:=main l.length 0 [] n (by omega) (by omega) (by simp);simp[Int.natCast_zero,fJ,List.drop_zero]at this;rw[this];simp
def rK(l:List au):List au×Int:=
 if l.all en then(if l.length>400 then([],6)else if (nR (bf l)).length>200 then([],6)else(nR (bf l),0))else([],1)
def cJ(l:List au):Bool:=decide ((rK l).2=0)&&decide ((rK l).1=l)
theorem adw{l:List au}{s:bP}(h:s∈bf l):s.column.length<=l.length:=by obtain⟨i,hi,rfl⟩:=List.getElem_of_mem h;obtain⟨p1,p2⟩:=rJ (λ a b=>(⟨a,b,cO l a⟩:bP)) (iA l);have:(bf l)[i]=⟨(iA l)[i]'(by unfold bf at hi;omega),(iA l)[i+1]'(by unfold bf at hi;omega),cO l ((iA l)[i]'(by unfold bf at hi;omega))⟩:=p2 i (by unfold bf at hi;omega) hi;rw[this];exact yN l _
theorem tV l:(bf l).length<=2*l.length:=by obtain⟨p1,_⟩:=rJ (λ a b=>(⟨a,b,cO l a⟩:bP)) (iA l);have:=Ko l;unfold bf;omega
theorem akQ{l:List au}(hl:l.length<1099511627776)(hl2:l.length<n)(hn:1000<=n):Ss n l=some (rK l):=by
 unfold Ss;have h1:=rQ (l:=l) (step:=MR l) (λ i=>i) (λ r=>!en r) () (λ _=>([],1)) (λ i hi=>?_) ?_ n (by omega);rw[ll]at h1;rw[h1];have h2:=sP (λ r=>!en r) l;cases hf:oN (λ r=>!en r) l with
 |some i=>
  rw[hf]at h2;have:l.all en=false:=by rw[<- Bool.not_eq_true,all_eq_true];intro hall;have h3:=h2.symm;simp only[Option.isSome_some,any_eq_true]at h3;obtain⟨x,hx,hx2⟩:=h3;rw[hall x hx]at hx2;cases hx2
  simp[rK,this]
 |none=>
  rw[hf]at h2;have:l.all en=true:=by
   rw[all_eq_true];intro x hx;cases h:en x with
   |true=>rfl
   |false=>
    have:l.any (λ r=>!en r)=true:=any_eq_true.2 ⟨x,hx,by rw[h];rfl⟩;rw[this]at h2;cases h2
  have hv:∀r∈l,en r=true:=all_eq_true.1 this;by_cases Lo:l.length>400;have d4:decide ((l.length:Int)>400)=true:=by simp;omega
  simp[d4,rK,this,aX Lo];have d4:decide ((l.length:Int)>400)=false:=by simp;omega
  have ls:=tV l;simp[d4];have fl:[l].flatten=l:=by simp
  rw[show (sub ([l]:List (List au)) 0 1)=[l]from rfl,xH (ls:=[l]) (by rw[fl];exact hv) (by rw[fl];omega) (by simp) (by rw[fl];omega) (by simp;omega),fl];simp;rw[Rk (b:=400) (by omega) (by omega) (λ s hs=>Nat.le_trans (adw hs) (by omega)) (by omega) (by omega)];simp[yH,rK,this,aU Lo];by_cases q7:(nR (bf l)).length>200;have:decide (((nR (bf l)).length:Int)>200)=true:=by simp;omega
  simp[this,q7];have:decide (((nR (bf l)).length:Int)>200)=false:=by simp;omega
  simp[this,q7]
 have hi':decide ((i:Int)<l.length)=true:=by simpa using hi
 simp only[MR,hi',aj,bE hi,ai,jG];cases en l[i]with
 |false=>rfl
 |true=>simp only[Bool.not_true,ay];rw[aQ (by omega)]
 simp[MR]
theorem l6{l:List au}(hl:l.length<1099511627776)(hl2:l.length<n)(hn:1000<=n):nV n l=some (cJ l):=by
 unfold nV cJ;rw[akQ hl hl2 hn];simp;by_cases h:(rK l).2=0;have e:((rK l).2==0)=true:=by simp[h]
 have lo:(rK l).1.length<=200:=by unfold rK;split;split;simp;split;simp;simp;omega;simp
 by_cases hlen:(rK l).1.length<n;simp only[h,decide_true,Bool.true_and];rw[Cx (by omega) hlen];rfl;have:(rK l).1.length≠l.length:=by omega
 have hne:(rK l).1≠l:=λe=>this (by rw[e]);simp[h];unfold oC;have hb:(((rK l).1.length:Int) !=l.length)=true:=by simp;omega
 rw[hb];simp[hne];have e:((rK l).2==0)=false:=by simp[h]
 simp[e,h]
theorem Px{α:Type} c (a b:α):(bif c then some a else some b)=some (bif c then a else b):=by cases c<;>rfl
theorem ZL(i n:Nat):Int.tmod (i:Int) (n:Int)=(i%n:Nat):=by rw[Int.tmod_eq_emod_of_nonneg (by omega)];omega
theorem dR{i n:Nat}(h:i<n):decide ((i:Int)<(n:Nat))=true:=by simpa using h
theorem V5(n:Nat):decide ((n:Int)<(n:Nat))=false:=by simp
theorem ahH{k b:Nat}(h:k*b<=140737488355328)(h2:k<=maxLen):uy k b=true:=by
 have e:((k:Int)).toNat=k:=by omega
 simp only[uy,bC,bF,e];exact⟨⟨by omega,h⟩,h2⟩
def pP(p:List dZ)(i:Nat):dZ:=p.getD i ⟨0,0⟩
def jo(p:List dZ)(i:Nat):jL:=⟨(pP p i).x,(pP p i).y,(pP p ((i+1)%p.length)).x,(pP p ((i+1)%p.length)).y⟩
def gB(p:List dZ):List jL:=(List.range p.length).map (jo p)
theorem TD{p:List dZ}{i:Nat}(h:i<p.length):pP p i=p[i]:=by simp[pP,h]
theorem dV p:(gB p).length=p.length:=by simp[gB]
theorem yO{p:List dZ}{i:Nat}(h:i<(gB p).length):(gB p)[i]=jo p i:=by simp[gB]
theorem akR{α:Type}(A B:List α)(z x:α):(A++z::B).set A.length x=A++x::B:=by rw[List.set_append_right _ _ (ax _),Nat.sub_self];rfl
theorem Aq{p:List dZ}(hl:p.length<=100000)(hn:p.length<n):pI n p=some (gB p):=by
 unfold pI;have mk:uy (p.length:Nat) 32=true:=ahH (by omega) (by show p.length<=2 ^ 63-1;omega);have main:=mR (step:=oQ p) (λ i=>((i:Nat),(List.range i).map (jo p)++List.replicate (p.length-i) (jL.mk 0 0 0 0))) p.length (gB p) (λ i hi=>?_) ?_ n hn;have z:((p.length:Int)).toNat=p.length:=by omega
 simp only[List.range_zero,List.map_nil,fJ,Nat.sub_zero]at main;have d1:decide ((p.length:Int)<=(p.length:Nat))=true:=by simp
 have d2:decide ((0:Int)<=(p.length:Nat))=true:=by simp
 rw[mk,d1,d2,z];simp;rw[ll]at main;rw[main];simp;have e:sub (gB p) 0 p.length=gB p:=by rw[<- dV p];exact iP _
 rw[e,dV];simp;have nz:((p.length:Int) !=0)=true:=by simp;intro h;rw[h]at hi;simp at hi
 have md:(i+1)%p.length<p.length:=Nat.mod_lt _ (by omega);have w:i64.wrap (i+1)=(i+1:Nat):=aQ (by omega);have z:((p.length:Int)).toNat=p.length:=by omega
 have rp:List.replicate (p.length-i) (jL.mk 0 0 0 0)=jL.mk 0 0 0 0::List.replicate (p.length-(i+1)) (jL.mk 0 0 0 0):=by rw[show p.length-i=(p.length-(i+1))+1 by omega,List.replicate_succ]
 have la:((List.range i).map (jo p)).length=i:=by simp
 have g:bu ((List.range i).map (jo p)++List.replicate (p.length-i) (jL.mk 0 0 0 0)) ((0:Nat)+(i:Nat))=some (jL.mk 0 0 0 0):=by rw[oM,oK (by omega),la,rp,Nat.sub_self];rfl
 have z2:(((0:Nat):Int)+(i:Nat)).toNat=i:=by omega
 have st:((List.range i).map (jo p)++List.replicate (p.length-i) (jL.mk 0 0 0 0)).set i (jo p i)=(List.range (i+1)).map (jo p)++List.replicate (p.length-(i+1)) (jL.mk 0 0 0 0):=by rw[rp];have:=akR ((List.range i).map (jo p)) (List.replicate (p.length-(i+1)) (jL.mk 0 0 0 0)) (jL.mk 0 0 0 0) (jo p i);rw[la]at this;rw[this,List.range_succ,map_append,aT];rfl
 simp only[oQ,dR hi,aj,bE hi,ai,nz,w,ZL,bE md,z,aW hi,g,z2];rw[<- TD hi,<- TD md];rw[show jL.mk (pP p i).x (pP p i).y (pP p ((i+1)%p.length)).x (pP p ((i+1)%p.length)).y=jo p i from rfl,st];simp[oQ];rfl
def TF(a:dZ):Bool:=decide (0<=a.x)&&(decide (a.x<=1048576)&&(decide (0<=a.y)&&decide (a.y<=1048576)))
def uA(s:jL):Bool:=s.ly==s.mC
def S3(s t:jL):Bool:=decide (max (min s.ly s.mC) (min t.ly t.mC)<=min (max s.ly s.mC) (max t.ly t.mC))&&decide (max (min s.pD s.uu) (min t.pD t.uu)<=min (max s.pD s.uu) (max t.pD t.uu))
def TH(a b:dZ):Bool:=decide (a.x<b.x) || (a.x==b.x&&decide (a.y<b.y))
theorem M9(a:dZ):tF a=some (TF a):=by simp[tF,S4,TF]
theorem Cz(s t:jL):lU s t=some (S3 s t):=by simp[lU,S4,S3]
theorem nu(s:jL):gV s=some (uA s):=rfl
theorem V6(a b:Int)(hn:3<=n):uW n [a,b]=some (if a=0 then b else a):=by
 obtain⟨m,rfl⟩:∃m,n=m+3:=⟨n-3,by omega⟩;have w1:i64.wrap (0+1)=1:=by decide
 have w2:i64.wrap (1+1)=2:=by decide
 by_cases ha:a=0;by_cases hb:b=0;subst ha;subst hb;simp;rfl;have hb':(b !=0)=true:=by simpa using hb
 subst ha;simp only[uW,Ji,AU,w1];simp[bu,hb'];have ha':(a !=0)=true:=by simpa using ha
 simp[uW,Ji,AU];simp[bu,ha',ha]
theorem KQ(a b:dZ)(hn:3<=n):∃r,qX n a b=some r/\decide (r>=0)=!TH a b:=by
 unfold qX;rw[jb,jb];simp;rw[show ∀u v:Int,sub [u,v] 0 2=[u,v]from λ_ _=>rfl,V6 _ _ hn];refine⟨_,rfl,?_⟩;unfold TH;by_cases h1:a.x<b.x;simp[h1];by_cases h2:b.x<a.x;have h3:¬a.x=b.x:=by omega
 simp[h1,h2,h3];have h3:a.x=b.x:=by omega
 by_cases h4:a.y<b.y;simp[h3,h4];by_cases h5:b.y<a.y<;>simp[h3,h4,h5]
def MM(p:List dZ)(i:Nat):Bool:=
 (!TF (pP p i) || ((((jo p i).ly==(jo p i).mC)==((jo p i).pD==(jo p i).uu)) || (uA (jo p i)==uA (jo p ((i+1)%p.length))))) || (decide (0<i)&&!TH (pP p 0) (pP p i))
def RN(p:List dZ)(i k:Nat):Bool:=decide (i+p.length-k>1)&&S3 (jo p i) (jo p k)
def Py(p:List dZ):Bool:=
 decide (4<=p.length)&&(decide (p.length<=60)&&(!((List.range p.length).any (MM p))&&(!((List.range p.length).any λi=>(List.range p.length).any λk=>decide (i+2<=k)&&RN p i k)&&!uA (jo p 0))))
def afQ(l:List au)(x y:Int):Bool:=l.any λr=>(decide (r.x0<=x)&&decide (x<r.x1))&&(decide (r.y0<=y)&&decide (y<r.y1))
theorem adx l (x y:Int):hZ (kY l x) y=afQ l x y:=by
 induction l with
 |nil=>rfl
 |cons r l ih=>
  unfold kY afQ at*;rw[List.filter_cons,List.any_cons,<- ih];cases h:(decide (r.x0<=x)&&decide (x<r.x1))with
  |true=>simp;rw[og]
  |false=>simp
theorem Na{l:List au}(h:∀r∈l,en r=true) x:Can (cO l x)/\∀y,hZ (cO l x) y=afQ l x y:=by have⟨h1,h2⟩:=ZJ (V4 h x);exact⟨h1,λy=>by rw[cO,h2,adx]⟩
def V7:List bP->Prop
 |[]=>True
 |[s]=>s.x0<s.x1
 |s::t::l=>s.x0<s.x1/\s.x1=t.x0/\V7 (t::l)
def Ia:List bP->Int->List aK
 |[],_=>[]
 |s::l,x=>bif decide (s.x0<=x)&&decide (x<s.x1)then s.column else Ia l x
theorem yP(s:bP) l x:Ia (s::l) x=bif decide (s.x0<=x)&&decide (x<s.x1)then s.column else Ia l x:=rfl
def Runs:List bP->Prop
 |[]=>True
 |[s]=>s.x0<s.x1/\s.column≠[]
 |s::t::l=>(s.x0<s.x1/\s.column≠[])/\s.x1<=t.x0/\(s.x1=t.x0->s.column≠t.column)/\Runs (t::l)
theorem ama{s:bP}{l:List bP}{x:Int}(h1:s.x0<=x)(h2:x<s.x1):Ia (s::l) x=s.column:=by rw[yP,show(decide (s.x0<=x)&&decide (x<s.x1))=true by simp[h1,h2]];rfl
theorem qi{α:Type}(f:Int->Int->α)(a b:Int) l:jH f (a::b::l)=f a b::jH f (b::l):=rfl
theorem Nb(g:Int->List aK):∀es,es.Pairwise (· < ·)->V7 (jH (λ a b=>(⟨a,b,g a⟩:bP)) es)
 |[],_|[_],_=>trivial
 |[a,b],h=>by have h1:=(pairwise_cons.1 h).1 b (by simp);exact h1
 |a::b::c::l,h=>by have h1:=(pairwise_cons.1 h).1 b (by simp);exact⟨h1,rfl,Nb g (b::c::l) (pairwise_cons.1 h).2⟩
theorem Ib(g:Int->List aK) x:∀es,(∀ e∈es,x<e)->Ia (jH (λ a b=>(⟨a,b,g a⟩:bP)) es) x=[]
 |[],_|[_],_=>rfl
 |a::b::l,h=>by have ha:=h a (by simp);rw[qi,yP,show(decide (a<=x)&&decide (x<b))=false by rw[Bool.and_eq_false_iff,dM];left;omega,ay];exact Ib g x (b::l) λe he=>h e (eX _ he)
theorem Ic(g:Int->List aK) x:∀l a,(a::l).Pairwise (· < ·)->a<=x->
 (∀ e∈a::l,e<=x->(∀ e'∈a::l,e'<=e\/x<e')->g e=g x)->((∀ e∈a::l,e<=x)->g x=[])->Ia (jH (λ a b=>(⟨a,b,g a⟩:bP)) (a::l)) x=g x
 |[],a,_,hx,_,h2=>(h2 (λ e he=>by have:e=a:=by simpa using he
                                  subst this;exact hx)).symm
 |b::l,a,hp,hx,h1,h2=>by have hab:=(pairwise_cons.1 hp).1 b (by simp);rw[qi,yP];by_cases hb:x<b;rw[show (decide (a<=x)&&decide (x<b))=true by simp[hx,hb],aj];refine h1 a (by simp) hx λe he=>?_;rcases aR.1 he with rfl|he;exact .inl (Int.le_refl _);right;rcases aR.1 he with rfl|he;exact hb;have:=(pairwise_cons.1 (pairwise_cons.1 hp).2).1 e he;omega;rw[show (decide (a<=x)&&decide (x<b))=false by simp[hb],ay];refine Ic g x l b (pairwise_cons.1 hp).2 (by omega) (λ e he hex hc=>h1 e (eX _ he) hex λe' he'=>?_) λhall=>h2 λe he=>?_;rcases aR.1 he' with rfl|he';left;have:=(pairwise_cons.1 hp).1 e he;omega;exact hc e' he';rcases aR.1 he with rfl|he;exact hx;exact hall e he
theorem ady(g:Int->List aK) es (hp:es.Pairwise (· < ·)) x
 (h1:∀e∈es,e<=x->(∀ e'∈es,e'<=e\/x<e')->g e=g x) (h2:(∀ e∈es,e<=x)->g x=[]) (h3:(∀ e∈es,x<e)->g x=[]):Ia (jH (λ a b=>(⟨a,b,g a⟩:bP)) es) x=g x:=by
 cases es with
 |nil=>exact(h3 (by simp)).symm
 |cons a l=>
  by_cases hx:a<=x;exact Ic g x l a hp hx h1 h2;have hall:∀e∈a::l,x<e:=by intro e he;rcases aR.1 he with rfl|he;omega;have:=(pairwise_cons.1 hp).1 e he;omega
  rw[Ib g x _ hall,h3 hall]
theorem V8{l:List au}{z:Int}:z∈iA l↔∃r∈l,z=r.x0\/z=r.x1:=by rw[iA,aki,List.mem_flatMap];simp
theorem Kq l:(iA l).Pairwise (· < ·):=ac9 _
theorem Yd{l:List au}{es:List Int}(hes:∀r∈l,r.x0∈es/\r.x1∈es){e x:Int}(hex:e<=x)(hc:∀e'∈es,e'<=e\/x<e'):kY l e=kY l x:=by unfold kY;congr 1;refine List.filter_congr λr hr=>?_;have⟨h0,h1⟩:=hes r hr;have:=hc _ h0;have:=hc _ h1;rw[jg,bC,bC,bF,bF,bF,bF];omega
theorem Nc{l:List au}{x:Int}(h:∀r∈l,x<r.x0\/r.x1<=x):kY l x=[]:=by unfold kY;rw[List.map_eq_nil_iff,List.filter_eq_nil_iff];intro r hr;have:=h r hr;rw[bC,bF,bF];omega
theorem Ie l:V7 (bf l):=Nb _ _ (Kq l)
theorem Kr l x:Ia (bf l) x=cO l x:=by have hes:∀r∈l,r.x0∈iA l/\r.x1∈iA l:=λr hr=>⟨V8.2 ⟨r,hr,.inl rfl⟩,V8.2 ⟨r,hr,.inr rfl⟩⟩;refine ady (cO l) (iA l) (Kq l) x (λ e _ hex hc=>?_) (λ hall=>?_) (λ hall=>?_);unfold cO;rw[Yd hes hex hc];unfold cO;rw[Nc λr hr=>.inr (hall _ (hes r hr).2)];rfl;unfold cO;rw[Nc λr hr=>.inl (hall _ (hes r hr).1)];rfl
theorem aiX{a:List au}(h:cJ a=true):rK a=(a,0):=by unfold cJ at h;rw[bC,bF,bF]at h;obtain⟨h1,h2⟩:=h;exact Prod.ext h2 h1
theorem tX{a:List au}(h:cJ a=true):(∀ r∈a,en r=true)/\a.length<=200/\nR (bf a)=a:=by have h:=aiX h;unfold rK at h;split at h;rename_i hall;split at h;simp at h;split at h;simp at h;rename_i q7;injection h with h _;refine⟨all_eq_true.1 hall,?_,h⟩;rw[<- h];omega;simp at h
def ext(out:List aK)(p:aK):List aK:=
 match out.getLast? with
 |some q=>bif q.to==p.from_ then out.dropLast++[⟨q.from_,p.to⟩]else out++[p]
 |none=>[p]
def kw(a b:List aK):List Int:=Hc ((a++b).flatMap λs=>[s.from_,s.to])
def tY(keep:Bool->Bool->Bool)(a b:List aK):List aK:=
 ((jH aK.mk (kw a b)).filter λp=>keep (hZ a p.from_) (hZ b p.from_)).foldl ext []
theorem afR o (q p:aK):ext (o++[q]) p=bif q.to==p.from_ then o++[⟨q.from_,p.to⟩]else o++[q]++[p]:=by simp[ext]
def qN(keep:Bool->Bool->Bool)(a b:List au):List bP:=
 jH (λ x x'=>(⟨x,x',tY keep (cO a x) (cO b x)⟩:bP)) (iA (a++b))
def tZ(keep:Bool->Bool->Bool)(a b:List au):List au×Int:=
 if cJ a&&cJ b then(if (nR (qN keep a b)).length>200 then([],6)else(nR (qN keep a b),0))else([],1)
def V9{α:Type}(a0:List α)(a1:Int)(a2:(α×Int×Unit)->Option Int):(Int×Int)->Option ((Int×Int)⊕Int)
 |(v1,v2)=>(bif (decide (v1<v2))then(ck (decide (0<=1)&&decide (1<=IntKind.u64.bits)) ((bu a0 (i64.wrap ((IntKind.u64.wrap (i64.wrap (v1+v2)))/2 ^ (1:Int).toNat))).bind λx1=>(a2 (x1,a1,())).bind λr1=>(bif (decide (r1<0))then some (.inl ((i64.wrap ((i64.wrap ((IntKind.u64.wrap (i64.wrap (v1+v2)))/2 ^ (1:Int).toNat))+1)),v2))else some (.inl (v1,(i64.wrap ((IntKind.u64.wrap (i64.wrap (v1+v2)))/2 ^ (1:Int).toNat)))))))else some (.inr v1))
theorem adz{α:Type}{l:List α}{key:Int}{φ:(α×Int×Unit)->Option Int}(p:α->Bool)(f:α->Int)(hφ:∀x,φ (x,key,())=some (f x))(hf:∀x,decide (f x<0)=p x)
 (hm:∀i j (hj:j<l.length) (hij:i<j),p l[j]=true->p (l[i]'(by omega))=true) (hl:l.length<1099511627776):
 ∀(m i j n:Nat),j-i<=m->i<=j->j<=l.length->(∀ k (hk:k<i) (hkl:k<l.length),p l[k]=true)->(∀ k (hk:j<=k) (hkl:k<l.length),p l[k]=false)->m<n->
 ∃w:Nat,w<=l.length/\iter (V9 l key φ) n (i,j)=some (w:Int)/\(∀ k (hk:k<w) (hkl:k<l.length),p l[k]=true)/\∀k (hk:w<=k) (hkl:k<l.length),p l[k]=false:=by
 intro m
 induction m with
 |zero=>
  intro i j n hm0 hij hjl h1 h2 hn;obtain⟨n,rfl⟩:∃q,n=q+1:=⟨n-1,by omega⟩;have:i=j:=by omega
  subst this;exact⟨i,hjl,bW (by simp[V9]),h1,h2⟩
 |succ m ih=>
  intro i j n hm0 hij hjl h1 h2 hn;obtain⟨n,rfl⟩:∃q,n=q+1:=⟨n-1,by omega⟩;by_cases hlt:i<j;have c:decide ((i:Int)<(j:Nat))=true:=by simpa using hlt
  have c1:(decide (0<=1)&&decide (1<=IntKind.u64.bits))=true:=rfl;have e:i64.wrap ((IntKind.u64.wrap (i64.wrap ((i:Nat)+(j:Nat))))/2 ^ (1:Int).toNat)=((i+j)/2:Nat):=by
   rw[aol (by omega),Zy (by omega),show((((i+j:Nat):Int))/2 ^ (1:Int).toNat)=((i+j)/2:Nat)by
    rw[show (1:Int).toNat=1 from rfl,Int.pow_one];omega,Vy (by omega)]
  have hh:(i+j)/2<l.length:=by omega
  cases hp:p l[(i+j)/2]with
  |true=>
   have s:V9 l key φ (i,j)=some (.inl (((i+j)/2+1:Nat),j)):=(by simp only[V9,c,aj,c1,e,bE hh,ai,hφ,hf,hp];rw[aQ (by omega)]);rw[dI s];refine ih _ _ n (by omega) (by omega) hjl (λ k hk hkl=>?_) h2 (by omega);by_cases hk2:k<(i+j)/2;exact hm k _ hh hk2 hp;have:k=(i+j)/2:=(by omega);subst this;exact hp
  |false=>
   have s:V9 l key φ (i,j)=some (.inl (i,((i+j)/2:Nat))):=(by simp only[V9,c,aj,c1,e,bE hh,ai,hφ,hf,hp,ay]);rw[dI s];refine ih _ _ n (by omega) (by omega) (by omega) h1 (λ k hk hkl=>?_) (by omega);by_cases hk2:(i+j)/2<k;cases hpk:p l[k]with
   |false=>rfl
   |true=>have:=hm _ k hkl hk2 hpk;rw[hp]at this;cases this
   have:k=(i+j)/2:=(by omega);subst this;exact hp
  have:i=j:=by omega
  subst this;exact⟨i,hjl,bW (by simp[V9]),h1,h2⟩
theorem akT l key (φ:(bP×Int×Unit)->Option Int):lQ l key φ=V9 l key φ:=by funext ⟨a,b⟩;rfl
theorem amb l key (φ:(aK×Int×Unit)->Option Int):mO l key φ=V9 l key φ:=by funext ⟨a,b⟩;rfl
theorem Wi:∀{l:List bP},V7 l->l.Pairwise (λ s t=>s.x1<=t.x0)/\∀s∈l,s.x0<s.x1
 |[],_=>⟨List.Pairwise.nil,by simp⟩
 |[s],h=>⟨by simp,λt ht=>by have:t=s:=by simpa using ht
                            subst this;exact h⟩
 |s::t::l,h=>by obtain⟨h1,h2,h3⟩:=h;have⟨p1,p2⟩:=Wi h3;refine⟨?_,?_⟩;rw[pairwise_cons];refine⟨λ u hu=>?_,p1⟩;rcases aR.1 hu with rfl|hu;omega;have:=(pairwise_cons.1 p1).1 u hu;have:=p2 t (by simp);omega;intro u hu;rcases aR.1 hu with rfl|hu;exact h1;exact p2 u hu
theorem KR{x:Int}:∀{l:List bP},(∀ s∈l,¬(s.x0<=x/\x<s.x1))->Ia l x=[]
 |[],_=>rfl
 |s::l,h=>by have:=h s (by simp);rw[yP,show(decide (s.x0<=x)&&decide (x<s.x1))=false by rw[Bool.and_eq_false_iff,dM,dM];omega,ay];exact KR λt ht=>h t (by simp[ht])
theorem ZM{x:Int}:∀{l:List bP}{w:Nat}(hw:w<l.length),(∀ k (hk:k<w),¬((l[k]'(by omega)).x0<=x/\x<(l[k]'(by omega)).x1))->l[w].x0<=x->x<l[w].x1->Ia l x=l[w].column
 |[],w,hw,_,_,_=>by simp at hw
 |s::l,0,hw,_,h0,h1=>ama h0 h1
 |s::l,w+1,hw,hk,h0,h1=>by have hs:=hk 0 (by omega);simp at hs;rw[yP,show(decide (s.x0<=x)&&decide (x<s.x1))=false by rw[Bool.and_eq_false_iff,dM,dM];omega,ay];exact ZM (by simpa using hw) (λ k hk'=>by have:=hk (k+1) (by omega);simpa using this) h0 h1
theorem adA{l:List bP}{x:Int}(h:V7 l)(hl:l.length<1099511627776)(hn:l.length<n):VU n l x=some (Ia l x):=by
 have⟨a1,a2⟩:=Wi h;rw[List.pairwise_iff_getElem]at a1
 have run:=adz (l:=l) (key:=x) (φ:=λ(y1:bP×Int×Unit)=>wo y1.1 y1.2.1) (λ s=>decide (s.x1<=x)) (λ s=>if s.x1<=x then -1 else 1)
  (λ s=>by show wo s x=_;unfold wo;by_cases c:s.x1<=x<;>simp[c]) (λ s=>by by_cases c:s.x1<=x<;>simp[c])
  (λ i j hj hij hp=>by rw[bF]at hp ⊢;have:=a1 i j (by omega) hj hij;have:=a2 l[j] (getElem_mem _);omega) hl l.length 0 l.length n (by omega) (by omega) (ax _) (λ k hk=>by omega) (λ k hk hkl=>by omega) hn
 obtain⟨w,hw,e,h1,h2⟩:=run;unfold VU jk;rw[akT];have e':iter (V9 l x λ(y1:bP×Int×Unit)=>wo y1.1 y1.2.1) n (0,(l.length:Nat))=some (w:Int):=e;rw[e'];simp only[ai];have ao:∀b:Int,∃bb,((bif (decide (w<(l.length:Int)))then(bu l w).bind λx2=>(wo x2 x).bind λr2=>some (w,(r2==b))else some (w,false)):Option (Int×Bool))=some ((w:Int),bb):=by
  intro b;by_cases c:w<l.length;have d:decide ((w:Int)<l.length)=true:=by simpa using c
  rw[d];simp only[aj];rw[bE c,ai];unfold wo;cases decide (l[w].x1<=x)<;>exact⟨_,rfl⟩;have d:decide ((w:Int)<l.length)=false:=by simp;omega
  rw[d];exact⟨_,rfl⟩
 have⟨bb,hbb⟩:=ao 0;rw[hbb,ai];simp only[];by_cases c:w<l.length;have d:decide ((w:Int)<l.length)=true:=by simpa using c
 simp only[d,aj,bE c,ai];have hx1:=h2 w (ax _) c;rw[dM]at hx1;by_cases c2:l[w].x0<=x;simp[c2];rw[ZM c (λ k hk hh=>?_) c2 (by omega)];have:=h1 k hk (by omega);rw[bF]at this;omega;simp[c2];rw[KR λs hs hh=>?_];obtain⟨k,hk,rfl⟩:=mem_iff_getElem.1 hs;rcases Nat.lt_trichotomy k w with CC|rfl|CC;have:=h1 k CC hk;rw[bF]at this;omega;omega;have:=a1 w k c hk CC;have:=a2 l[w] (getElem_mem _);omega;have d:decide ((w:Int)<l.length)=false:=by simp;omega
 simp only[d,ay,ai];rw[KR λs hs hh=>?_];obtain⟨k,hk,rfl⟩:=mem_iff_getElem.1 hs;have:=h1 k (by omega) hk;rw[bF]at this;omega
theorem Nf{l:List aK}{y:Int}(h:Can l)(hl:l.length<1099511627776)(hn:l.length<n):Cu n l y=some (hZ l y):=by
 obtain⟨a1,a2⟩:=h;rw[List.pairwise_iff_getElem]at a1
 have run:=adz (l:=l) (key:=y) (φ:=λ(y1:aK×Int×Unit)=>lT y1.1 y1.2.1) (λ s=>decide (s.to<=y)) (λ s=>if s.to<=y then -1 else 1)
  (λ s=>by show lT s y=_;unfold lT;by_cases c:s.to<=y<;>simp[c]) (λ s=>by by_cases c:s.to<=y<;>simp[c])
  (λ i j hj hij hp=>by rw[bF]at hp ⊢;have:=a1 i j (by omega) hj hij;have:l[j].from_<l[j].to:=a2 l[j] (getElem_mem _);omega) hl l.length 0 l.length n (by omega) (by omega) (ax _) (λ k hk=>by omega) (λ k hk hkl=>by omega) hn
 obtain⟨w,hw,e,h1,h2⟩:=run;unfold Cu jD;rw[amb];have e':iter (V9 l y λ(y1:aK×Int×Unit)=>lT y1.1 y1.2.1) n (0,(l.length:Nat))=some (w:Int):=e;rw[e'];simp only[ai];have ao:∀b:Int,∃bb,((bif (decide (w<(l.length:Int)))then(bu l w).bind λx2=>(lT x2 y).bind λr2=>some (w,(r2==b))else some (w,false)):Option (Int×Bool))=some ((w:Int),bb):=by
  intro b;by_cases c:w<l.length;have d:decide ((w:Int)<l.length)=true:=by simpa using c
  rw[d];simp only[aj];rw[bE c,ai];unfold lT;cases decide (l[w].to<=y)<;>exact⟨_,rfl⟩;have d:decide ((w:Int)<l.length)=false:=by simp;omega
  rw[d];exact⟨_,rfl⟩
 have⟨bb,hbb⟩:=ao 0;rw[hbb,ai];simp only[];by_cases c:w<l.length;have d:decide ((w:Int)<l.length)=true:=by simpa using c
 simp only[d,aj,bE c,ai];have hx1:=h2 w (ax _) c;rw[dM]at hx1;congr 1;rw[jg,bF,M8];constructor;exact λhf=>⟨l[w],getElem_mem _,hf,by omega⟩;rintro⟨s,hs,g1,g2⟩;obtain⟨k,hk,rfl⟩:=mem_iff_getElem.1 hs;rcases Nat.lt_trichotomy k w with CC|rfl|CC;have:=h1 k CC hk;rw[bF]at this;omega;exact g1;have:=a1 w k c hk CC;omega;have d:decide ((w:Int)<l.length)=false:=by simp;omega
 simp only[d,ay];congr 1;symm;cases hh:hZ l y with
 |false=>rfl
 |true=>
  obtain⟨s,hs,g1,g2⟩:=(M8 _ _).1 hh;obtain⟨k,hk,rfl⟩:=mem_iff_getElem.1 hs;have:=h1 k (by omega) hk;rw[bF]at this;omega
theorem Ng{l:List (List aK)}(hf:l.flatten.length<1099511627776)(hl:l.length<1099511627776)(hn:l.length<n):yI n l=some l.flatten:=Mq (aK.mk 0 0) (b:=16) hf (by omega) hl hn
theorem Nh(l:List aK):(l.flatMap λr=>[r.from_,r.to]).length=2*l.length:=by
 induction l with
 |nil=>rfl
 |cons x l ih=>simp[ih];omega
theorem RO{l:List aK}(hl:l.length<10995116277)(hn:l.length<n):iter (wu l) n (0,[])=some (l.flatMap λr=>[r.from_,r.to]):=by
 have:=gq (l:=l) (step:=wu l) (λ i s=>(i,s)) (λ r s=>s++[r.from_,r.to]) (λ s=>s) (λ i s=>s.length<=2*i)
  (λ i hi s hs=>?_) (λ s hs=>by simp[wu]) n hn [] (ax _)
 rw[ll]at this;rw[this];have gen:∀(ys:List aK) s,ys.foldl (λ s r=>s++[r.from_,r.to]) s=s++ys.flatMap λr=>[r.from_,r.to]:=by
  intro ys
  induction ys with
  |nil=>intro s;simp
  |cons y ys ih=>intro s;simp[ih]
 congr 1;simpa using gen l [];have hi':decide ((i:Int)<(l.length:Nat))=true:=by simpa using hi
 have ap:bL s.length s.length (sub ([l[i].from_,l[i].to]:List Int) 0 2).length 2 8=true:=eG (n:=2) (by omega) (by simp[maxLen];omega);simp only[wu,hi',aj,aW hi,bJ hi,ai,ap,gD,aN];refine⟨?_,by simp;omega⟩;rw[aQ (by omega)];rfl
theorem Wj{α β:Type}(p:α->Bool)(f:β->α->β):∀(l:List α)(s:β),(l.filter p).foldl f s=l.foldl (λ s x=>bif p x then f s x else s) s
 |[],s=>rfl
 |x::l,s=>by
  rw[List.filter_cons,foldl_cons];cases h:p x with
  |true|false=>simp;exact Wj p f l _
theorem Wl out (p:aK):(ext out p).length<=out.length+1:=by
 unfold ext;cases out.getLast? with
 |none=>simp
 |some q=>simp;cases q.to==p.from_<;>simp<;>omega
theorem Wm(a b:List aK):(kw a b).length<=2*(a.length+b.length):=by have h:=rz (kL (λ a b=>decide (a<b)) ((a++b).flatMap λr=>[r.from_,r.to]));rw[eu,Nh,fO]at h;exact h
theorem Ye(keep:Bool->Bool->Bool)(a b:List aK):(tY keep a b).length<=2*(a.length+b.length):=by
 have gen:∀(ys out:List aK),(ys.foldl ext out).length<=out.length+ys.length:=by
  intro ys
  induction ys with
  |nil=>intro out;simp
  |cons y ys ih=>
   intro out;simp;have:=ih (ext out y);have:=Wl out y;omega
 have h:=gen ((jH aK.mk (kw a b)).filter λp=>keep (hZ a p.from_) (hZ b p.from_)) [];have h2:=length_filter_le (λ p=>keep (hZ a p.from_) (hZ b p.from_)) (jH aK.mk (kw a b));have h3:=(rJ aK.mk (kw a b)).1;have h4:=Wm a b;simp at h;unfold tY;omega
theorem adB{keep:Bool->Bool->Bool}{φ:(Bool×Bool×Unit)->Option Bool}(hφ:∀p q,φ (p,q,())=some (keep p q)){a b:List aK}(ha:Can a)(hb:Can b)(hl:a.length+b.length<1099511627)(hn:2*(a.length+b.length)+2<n):Hz n a b φ=some (tY keep a b):=by
 have fl:[a,b].flatten=a++b:=by simp
 have s2:(sub ([a,b]:List (List aK)) 0 2)=[a,b]:=rfl;have q2:aE ([a,b]:List (List aK)).length 2=true:=rfl;have hys:=Wm a b;have hfl:((a++b).flatMap λr=>[r.from_,r.to]).length=2*(a.length+b.length):=by rw[Nh,fO]
 unfold Hz;rw[s2,q2];simp only[aj];rw[Ng (by rw[fl,fO];omega) (by simp) (by simp;omega),fl];simp only[ai,length_nil,aN,aj,RO (l:=a++b) (n:=n) (by rw[fO];omega) (by rw[fO];omega)];rw[pQ (by rw[hfl];omega) (by rw[hfl];omega)];simp only[ai,eu,aN,aj];rw[tT (by rw[eu,hfl];omega) (by rw[eu,hfl];omega)];simp only[ai];have hE:iT (kL ot ((a++b).flatMap λr=>[r.from_,r.to]))=kw a b:=rfl;rw[hE];have⟨p1,p2⟩:=rJ aK.mk (kw a b);have key:iter (wz n a b φ ((),kw a b)) n ((1:Int),([]:List aK))=some (tY keep a b):=by
  have:=gq (l:=jH aK.mk (kw a b)) (step:=wz n a b φ ((),kw a b)) (λ i (s:List aK)=>(((i+1:Nat):Int),s)) (λ p s=>bif keep (hZ a p.from_) (hZ b p.from_)then ext s p else s) (λ s=>s) (λ i s=>s.length<=i)
   (λ i hi s hs=>?_) (λ s hs=>?_) n (by omega) [] (ax _)
  rw[show ((0+1:Nat):Int)=1 from rfl]at this;rw[this,tY,Wj];have hi2:i+1<(kw a b).length:=by omega
  have hi1:i<(kw a b).length:=by omega
  have d:decide (((i+1:Nat):Int)<(((kw a b).length:Nat):Int))=true:=by simp;omega
  have wp:i64.wrap ((i+1:Nat)-1)=(i:Nat):=by rw[mY (by omega) (by omega)];rfl
  have pe:(jH aK.mk (kw a b))[i]=aK.mk (kw a b)[i] (kw a b)[i+1]:=p2 i hi2 hi;rw[pe];have lx:=Wl s (aK.mk (kw a b)[i] (kw a b)[i+1]);have ap:bL s.length s.length (sub ([(aK.mk (kw a b)[i] (kw a b)[i+1])]:List aK) 0 1).length 1 16=true:=eG (n:=1) (by omega) (by simp[maxLen];omega);have sb:(sub ([(aK.mk (kw a b)[i] (kw a b)[i+1])]:List aK) 0 1)=[aK.mk (kw a b)[i] (kw a b)[i+1]]:=rfl;refine⟨?_,by cases keep (hZ a (kw a b)[i]) (hZ b (kw a b)[i])<;>simp<;>omega⟩;simp only[wz,d,aj,wp,aW hi1,bJ hi1,ai,Nf (n:=n) ha (show a.length<1099511627776 by omega) (show a.length<n by omega),Nf (n:=n) hb (show b.length<1099511627776 by omega) (show b.length<n by omega),hφ];cases hk:keep (hZ a (kw a b)[i]) (hZ b (kw a b)[i])with
  |false=>
   simp only[Bool.not_false,aj,aN,ai,ay];rw[aQ (by omega)]
  |true=>
   simp only[Bool.not_true,ay,aj];rcases List.eq_nil_or_concat s with rfl|⟨s0,q,Is⟩;have d0:decide ((([]:List aK).length:Nat)>0)=false:=(by simp);simp only[d0,ay,ai,aW hi2,bJ hi2,aj,ap,gD,aN];rw[aQ (by omega)];rfl;rw[List.concat_eq_append]at Is;subst Is;have d0:decide (((((s0++[q]).length:Nat):Int))>0)=true:=(by simp<;>omega);have BT:(s0++[q]).length=s0.length+1:=(by simp);have wq:i64.wrap (((s0++[q]).length:Nat)-1)=(s0.length:Nat):=(by rw[mY (by simp) (by omega),BT];rfl);have VM:co (s0.length:Nat) (s0++[q]).length=true:=aW (by omega);have g:bu (s0++[q]) ((0:Nat)+(s0.length:Nat))=some q:=(by rw[oM];simp);have z:(((0:Nat):Int)+(s0.length:Nat)).toNat=s0.length:=(by simp);have st:(s0++[q]).set s0.length (aK.mk q.from_ (kw a b)[i+1])=s0++[⟨q.from_,(kw a b)[i+1]⟩]:=(by simp);simp only[d0,aj,wq,VM,g,ai,afR];cases hj:q.to==(kw a b)[i]with
   |true=>
    simp only[aj,aW hi2,bJ hi2,ai,z,st];have e:aE (s0++[q]).length (s0++[(⟨q.from_,(kw a b)[i+1]⟩:aK)]).length=true:=(by simp);simp only[e,aj,ai,aN];rw[aQ (by omega)]
   |false=>
    rw[sb]at ap;simp only[ay,aW hi2,bJ hi2,ai,aj,sb,ap,gD,aN];rw[aQ (by omega)]
  have d:decide ((((jH aK.mk (kw a b)).length+1:Nat):Int)<((kw a b).length:Nat))=false:=by simp;omega
  simp only[wz,d,ay,aN,aj]
 rw[key];simp
theorem CB(keep:Bool->Bool->Bool)(a b:List au):qN keep a b=(bf (a++b)).map λs=>⟨s.x0,s.x1,tY keep (cO a s.x0) (cO b s.x0)⟩:=by
 have gen:∀es:List Int,jH (λ x x'=>(⟨x,x',tY keep (cO a x) (cO b x)⟩:bP)) es=(jH (λ x x'=>(⟨x,x',cO (a++b) x⟩:bP)) es).map λs=>⟨s.x0,s.x1,tY keep (cO a s.x0) (cO b s.x0)⟩:=by
  intro es
  match es with
  |[]|[_]=>rfl
  |x::y::l=>
   rw[qi,qi,bH];congr 1;have:∀es:List Int,jH (λ x x'=>(⟨x,x',tY keep (cO a x) (cO b x)⟩:bP)) es=(jH (λ x x'=>(⟨x,x',cO (a++b) x⟩:bP)) es).map λs=>⟨s.x0,s.x1,tY keep (cO a s.x0) (cO b s.x0)⟩:=by
    intro es
    induction es with
    |nil=>rfl
    |cons x es ih=>
     cases es with
     |nil=>rfl
     |cons y es=>rw[qi,qi,bH,ih]
   exact this (y::l)
 exact gen (iA (a++b))
theorem Yf{keep:Bool->Bool->Bool}{φ:(Bool×Bool×Unit)->Option Bool}(hφ:∀p q,φ (p,q,())=some (keep p q)){a b:List au}(ha:a.length<1099511627776)(hb:b.length<1099511627776)(hna:a.length<n)(hnb:b.length<n)(hn:1000<=n):Em n a b φ=some (tZ keep a b):=by
 unfold Em tZ;rw[l6 ha hna hn,ai];cases hra:cJ a with
 |false=>rfl
 |true=>
  rw[l6 hb hnb hn];simp;cases hrb:cJ b with
  |false=>rfl
  |true=>
   have⟨a1,a2,_⟩:=tX hra;have⟨b1,b2,_⟩:=tX hrb;have fa:[a].flatten=a:=(by simp);have fb:[b].flatten=b:=(by simp);have fab:[a,b].flatten=a++b:=(by simp);have hab:∀r∈a++b,en r=true:=λr hr=>(by rcases bK.1 hr with hr|hr;exact a1 r hr;exact b1 r hr);have sa:ow n [a]=some (bf a):=by
    have:=xH (n:=n) (ls:=[a]) (by rw[fa];exact a1) (by rw[fa];omega) (by simp) (by rw[fa];omega) (by simp;omega)
    rwa [fa]at this
   have sb:ow n [b]=some (bf b):=by
    have:=xH (n:=n) (ls:=[b]) (by rw[fb];exact b1) (by rw[fb];omega) (by simp) (by rw[fb];omega) (by simp;omega)
    rwa [fb]at this
   have lab:(a++b).length=a.length+b.length:=fO;have sab:ow n [a,b]=some (bf (a++b)):=by
    have:=xH (n:=n) (ls:=[a,b]) (by rw[fab];exact hab) (by rw[fab,lab];omega) (by simp) (by rw[fab,lab];omega) (by simp;omega)
    rwa [fab]at this
   have e1:(sub ([a]:List (List au)) 0 1)=[a]:=rfl;have e2:(sub ([b]:List (List au)) 0 1)=[b]:=rfl;have e3:(sub ([a,b]:List (List au)) 0 2)=[a,b]:=rfl;have q1:aE ([a]:List (List au)).length 1=true:=rfl;have q2:aE ([b]:List (List au)).length 1=true:=rfl;have q3:aE ([a,b]:List (List au)).length 2=true:=rfl;have la:=tV a;have lb:=tV b;have lS:=tV (a++b);rw[lab]at lS;have mc:∀x,(cO a x).length<=200/\(cO b x).length<=200:=λx=>⟨Nat.le_trans (yN a x) a2,Nat.le_trans (yN b x) b2⟩;have lm:∀x,(tY keep (cO a x) (cO b x)).length<=800:=λx=>(by have:=Ye keep (cO a x) (cO b x);have:=mc x;omega);have key:iter (qI n φ (bf a) (bf b) (bf (a++b))) n ((0:Int),bf (a++b))=some (qN keep a b):=by
    have:=mR (step:=qI n φ (bf a) (bf b) (bf (a++b))) (λ i=>((i:Int),(qN keep a b).take i++(bf (a++b)).drop i)) (bf (a++b)).length (qN keep a b) (λ i hi=>?_) ?_ n (by omega);simpa using this;have d:decide ((i:Int)<(((bf (a++b)).length:Nat):Int))=true:=(by simpa using hi);have lc:(qN keep a b).length=(bf (a++b)).length:=(by rw[CB,length_map]);have lt:((qN keep a b).take i).length=i:=(by rw[length_take];omega);have hd:(bf (a++b)).drop i=(bf (a++b))[i]::(bf (a++b)).drop (i+1):=List.drop_eq_getElem_cons hi;have g:bu ((qN keep a b).take i++(bf (a++b)).drop i) (((0:Nat):Int)+(i:Nat))=some (bf (a++b))[i]:=(by rw[oM,oK (by omega),lt,hd];simp);have st:∀s:bP,((qN keep a b).take i++(bf (a++b)).drop i).set i s=(qN keep a b).take i++s::(bf (a++b)).drop (i+1):=(by intro s;rw[List.set_append_right _ _ (by omega),lt,hd,Nat.sub_self];rfl);have z:(((0:Nat):Int)+(i:Nat)).toNat=i:=(by simp);have tk:(qN keep a b).take (i+1)=(qN keep a b).take i++[⟨(bf (a++b))[i].x0,(bf (a++b))[i].x1,tY keep (cO a (bf (a++b))[i].x0) (cO b (bf (a++b))[i].x0)⟩]:=(by rw[kC (by omega)];congr 2;simp[CB]);have hm:=mc (bf (a++b))[i].x0;have mg:Hz n (cO a (bf (a++b))[i].x0) (cO b (bf (a++b))[i].x0) φ=some (tY keep (cO a (bf (a++b))[i].x0) (cO b (bf (a++b))[i].x0)):=
     adB hφ (Na a1 _).1 (Na b1 _).1 (by omega) (by omega)
    have at1:VU n (bf a) (bf (a++b))[i].x0=some (cO a (bf (a++b))[i].x0):=(by rw[adA (Ie a) (by omega) (by omega),Kr]);have at2:VU n (bf b) (bf (a++b))[i].x0=some (cO b (bf (a++b))[i].x0):=(by rw[adA (Ie b) (by omega) (by omega),Kr]);simp only[qI,d,aj,aW hi,g,ai,iP,at1,at2,mg,aN,z,st];rw[aQ (by omega),tk,aT];rfl;have lc:(qN keep a b).length=(bf (a++b)).length:=(by rw[CB,length_map]);have d:decide (((bf (a++b)).length:Nat)<((bf (a++b)).length:Nat))=false:=(by simp);simp[qI,d,ay,List.drop_length,List.append_nil];rw[take_of_length_le (by omega)]
   have lc:(qN keep a b).length=(bf (a++b)).length:=(by rw[CB,length_map]);have cc:∀s∈qN keep a b,s.column.length<=800:=(by intro s hs;rw[CB,mem_map]at hs;obtain⟨t,_,rfl⟩:=hs;exact lm _);have sl:sub (qN keep a b) 0 (bf (a++b)).length=qN keep a b:=(by rw[<- lc,iP]);simp[Bool.not_true,ay,e1,e2,e3,q1,q2,q3,aj,sa,sb,sab,ai,iP,aN,key,sl,lc];rw[Rk (b:=800) (by omega) (by omega) cc (by omega) (by omega)];simp[ai,yH,if_true];by_cases q7:(nR (qN keep a b)).length>200;have:decide (((nR (qN keep a b)).length:Int)>200)=true:=(by simp;omega);simp[this,aj,ai,q7,if_true];have:decide (((nR (qN keep a b)).length:Int)>200)=false:=(by simp;omega);simp[this,ay,ai,q7,if_false]
theorem abf{a b:List au}(ha:a.length<1099511627776)(hb:b.length<1099511627776)(hna:a.length<n)(hnb:b.length<n)(hn:1000<=n):Jq n a b=some (tZ (λ p q=>p&&q) a b):=by unfold Jq;rw[Yf (keep:=λp q=>p&&q) (λ p q=>by show xu p q=_;unfold xu;cases p<;>rfl) ha hb hna hnb hn];rfl
theorem abg{keep:Bool->Bool->Bool}(a b:List au):(tZ keep a b).1.length<=200:=by unfold tZ;split;split;simp;show(nR _).length<=200;omega;simp
def oV(r:au):Int:=(r.x1-r.x0)*(r.y1-r.y0)
def KS(l:List au):Int:=(l.map oV).sum
theorem Ar{r:au}(h:en r=true):0<=oV r/\oV r<=1099511627776:=by simp at h;unfold oV;refine⟨Int.mul_nonneg (by omega) (by omega),?_⟩;have:=Int.mul_le_mul (show r.x1-r.x0<=1048576 by omega) (show r.y1-r.y0<=1048576 by omega) (by omega) (by omega);omega
theorem Wn:∀{l:List au},(∀ r∈l,en r=true)->0<=KS l/\KS l<=1099511627776*l.length
 |[],_=>by simp[KS]
 |r::l,h=>by
  have h1:=Ar (h r List.mem_cons_self);have h2:=Wn (l:=l) λq hq=>h q (eX _ hq);have e:KS (r::l)=oV r+KS l:=rfl;rw[e,gH]
  push_cast
  omega
theorem Ig{l:List au}{φ:(au×Unit)->Option Bool}(p:au->Bool)(h:∀x∈l,φ (x,())=some (p x))(hl:l.length<1099511627776)(hn:l.length<n):tO n l φ=some (AQ p l):=iM p h hl hn
theorem rY{l:List au}{φ:(au×Unit)->Option Bool}(p:au->Bool)(h:∀x∈l,φ (x,())=some (p x))(hl:l.length<1099511627776)(hn:l.length<n):jm n l φ=some (l.any p):=by unfold jm;rw[Ig p h hl hn,ai,wY]
theorem ZN:∀(l:List Int) x,(l++[x]).sum=l.sum+x
 |[],x=>by simp
 |a::l,x=>by rw[List.cons_append,List.sum_cons,List.sum_cons,ZN l x];omega
theorem ZO{r:au}(h:en r=true):uT r=some (oV r):=by have hb:=Ar h;unfold uT xX;rw[jG,h];simp;simp at h;unfold oV at*;rw[aO (x:=r.x1-r.x0),aO (x:=r.y1-r.y0),aO (by omega) (by omega)]
theorem Wo{a:List au}(ha:a.length<=900)(hn:1000<=n):MW n a=some (bif cJ a then KS a else 0):=by
 unfold MW;rw[l6 (by omega) (by omega) hn];simp;cases hr:cJ a with
 |false=>rfl
 |true=>
  have ok:=(tX hr).1;have:=mR (step:=En a) (λ i=>(KS (a.take i),(i:Nat))) a.length (KS a) (λ i hi=>?_) ?_ n (by omega);have e:KS (a.take 0)=0:=rfl;rw[e,ll]at this;simp[this];have c:decide ((i:Int)<a.length)=true:=by simpa using hi
  have h1:=Wn (l:=a.take i) λr hr=>ok r (List.mem_of_mem_take hr);rw[length_take]at h1;have h2:=Ar (ok _ (getElem_mem hi));have e:KS (a.take (i+1))=KS (a.take i)+oV a[i]:=by rw[kC hi];unfold KS;rw[map_append];exact ZN _ _
  simp only[En,c,aj,bE hi,ai,ZO (ok _ (getElem_mem hi))];rw[aQ (by omega),aO (by omega) (by omega),e];simp[En]
theorem Pz{α:Type}(p:α->Bool) l:(match oN p l with|some _=>true|none=>false)=l.any p:=by have:=sP p l;rw[<- this];cases oN p l<;>rfl
def So(p q:au):Bool:=decide (max p.x0 q.x0<min p.x1 q.x1)&&decide (max p.y0 q.y0<min p.y1 q.y1)
def N1(a b:List au):Bool:=a.any λp=>b.any λq=>So p q
theorem afS{a b:List au}(ha:a.length<1099511627776)(hb:b.length<1099511627776)(hna:a.length<n)(hnb:b.length<n):TA n a b=some (N1 a b):=by
 unfold TA N1;rw[rY (λ p=>b.any λq=>So p q) (λ p _=>?_) ha hna];rfl;show Eu n p b=_;unfold Eu;rw[rY (λ q=>So p q) (λ q _=>?_) hb hnb];rfl;show vG q p=_;unfold vG So;have e1:max q.x0 p.x0=max p.x0 q.x0:=by omega
 have e2:min q.x1 p.x1=min p.x1 q.x1:=by omega
 have e3:max q.y0 p.y0=max p.y0 q.y0:=by omega
 have e4:min q.y1 p.y1=min p.y1 q.y1:=by omega
 first
  |(cases decide (max p.x0 q.x0<min p.x1 q.x1)<;>rfl)
  |(rw [e1,e2,e3,e4];cases decide (max p.x0 q.x0<min p.x1 q.x1)<;>rfl)
theorem afT{a b:List au}(hl:a.length<1099511627776)(hn:a.length<n):Tz n a b=some (decide (a=b)):=by unfold Tz;rw[Cx hl hn];rfl
abbrev wv(a b:au):Bool:=decide (a.y0<b.y0)
theorem ahJ:Go.Sort.SWO wv where
 irrefl x:=by simp[wv]
 trans x y z h1 h2:=by simp only[wv,bF]at *;omega
 ntrans x y z h1 h2:=by simp only[wv,dM]at *;omega
instance:Inhabited au:=⟨au.mk 0 0 0 0⟩
theorem JE{l:List au}{φ:(au×au×Unit)->Option Int}(f:au->au->Int)(hφ:∀x y,φ (x,y,())=some (f x y))(hf:∀x y,decide (f x y<0)=wv x y)(hl:l.length<1099511627776)(_:l.length<n):uX n l φ=some (rR wv l):=
 adn f hφ hf ahJ hl
structure aoo(R:List bP):Prop where
 runs:Runs R
 len:R.length<=200
 col:∀s∈R,Can s.column/\∀q∈s.column,0<=q.from_/\q.from_<q.to/\q.to<=1048576
 xs:∀s∈R,0<=s.x0/\s.x0<s.x1/\s.x1<=1048576
 zE:(R.flatMap λs=>s.column.map (·.from_)).length<=200
theorem afU(p:Nat->Bool)(N:Nat):(oN p (List.range N)=none->(List.range N).any p=false)/\(∀ i,oN p (List.range N)=some i->(List.range N).any p=true):=by refine⟨λ h=>?_,λi h=>?_⟩;rw[<- sP,h];rfl;rw[<- sP,h];rfl
theorem Ih{W O:Type}{step:Int->Option (Int⊕(W⊕O))}(N:Nat)(p:Nat->Bool)(w:W)(o:O)
 (h:∀i,i<N->step i=some (bif p i then .inr (.inr o)else .inl (i+1:Nat)))
 (hend:step N=some (.inr (.inl w))) (n:Nat) (hn:N<n):iter step n 0=some (bif (List.range N).any p then .inr o else .inl w):=by
 have:=rQ (l:=List.range N) (step:=step) (λ i=>(i:Nat)) p w (λ _=>o) (λ i hi=>by rw[List.length_range]at hi;rw[List.getElem_range];exact h i hi) (by rw[List.length_range];exact hend) n (by rw[List.length_range];exact hn);rw[ll]at this;rw[this];have⟨r1,r2⟩:=afU p N;cases hf:oN p (List.range N)with
 |none=>rw[r1 hf];rfl
 |some i=>rw[r2 i hf];rfl
theorem Ii{p:List dZ}(hl:p.length<=1000)(hn:2000<=n):iter (qb n p (gB p)) n 0=some (bif (List.range p.length).any (MM p)then .inr false else .inl ()):=by
 refine Ih p.length (MM p) () false (λ i hi=>?_) ?_ n (by omega);have nz:((p.length:Int) !=0)=true:=by simp;intro h;rw[h]at hi;simp at hi
 have md:(i+1)%p.length<p.length:=Nat.mod_lt _ (by omega);have w:i64.wrap (i+1)=(i+1:Nat):=aQ (by omega);have g1:bu (gB p) ((0:Nat)+(i:Nat))=some (jo p i):=by rw[bJ (by rw[dV];exact hi),yO]
 have g2:bu (gB p) ((0:Nat)+((i+1)%p.length:Nat))=some (jo p ((i+1)%p.length)):=by rw[bJ (by rw[dV];exact md),yO]
 obtain⟨r,hr1,hr2⟩:=KQ (n:=n) (pP p 0) (pP p i) (by omega);have g3:bu p 0=some (pP p 0):=by rw[alS (by omega),<- TD]
 have g4:bu p (i:Nat)=some (pP p i):=by rw[bE hi,<- TD]
 have dz:decide ((i:Int)>0)=decide (0<i):=by rw[jg];simp
 have pt:dZ.mk (jo p i).ly (jo p i).pD=pP p i:=rfl;simp only[qb,dV,dR hi,aj,aW hi,g1,g2,ai,nz,w,ZL,aW md,pt,M9,nu,Px,g3,g4,hr1,hr2,dz,Option.map_some];unfold MM;generalize TF (pP p i)=b1;generalize (((jo p i).ly==(jo p i).mC)==((jo p i).pD==(jo p i).uu))=b2;generalize (uA (jo p i)==uA (jo p ((i+1)%p.length)))=b3;generalize decide (0<i)=b4;generalize TH (pP p 0) (pP p i)=b5;cases b1<;>cases b2<;>cases b3<;>cases b4<;>cases b5<;>rfl;simp[qb,dV]
theorem Ij{p:List dZ}(hl:p.length<=1000)(hn:2000<=n){i:Nat}(hi:i<p.length):
 iter (iZ (gB p) (i:Nat)) n ((i+2:Nat))=some (bif (List.range p.length).any λk=>decide (i+2<=k)&&RN p i k then .inr (.inr (.inr false))else .inl ()):=by
 have st:∀k,k<p.length->iZ (gB p) (i:Nat) (k:Nat)=some (bif RN p i k then .inr (.inr (.inr (.inr false)))else .inl (k+1:Nat)):=by
  intro k hk;have g1:bu (gB p) ((0:Nat)+(i:Nat))=some (jo p i):=by rw[bJ (by rw[dV];exact hi),yO]
  have g2:bu (gB p) ((0:Nat)+(k:Nat))=some (jo p k):=by rw[bJ (by rw[dV];exact hk),yO]
  have w:i64.wrap (i64.wrap ((i:Nat)+(p.length:Nat))-(k:Nat))=(i+p.length-k:Nat):=by rw[aO (x:=(i:Nat)+(p.length:Nat)),aO (by omega) (by omega)];omega
  have dz:decide (((i+p.length-k:Nat):Int)>1)=decide (i+p.length-k>1):=by rw[jg,bF,bF];omega
  simp only[iZ,dV,dR hk,aj,aW hi,aW hk,g1,g2,ai,w,dz,Cz,Px,Option.map_some,aY k];unfold RN;cases decide (i+p.length-k>1)<;>cases S3 (jo p i) (jo p k)<;>rfl
 have main:∀m k,k+m=p.length->∀f,m<f->iter (iZ (gB p) (i:Nat)) f (k:Nat)=some (bif (List.range p.length).any λj=>decide (k<=j)&&RN p i j then .inr (.inr (.inr false))else .inl ()):=by
  intro m
  induction m with
  |zero=>
   intro k hk f hf;obtain⟨f,rfl⟩:∃g,f=g+1:=⟨f-1,by omega⟩;have:k=p.length:=(by omega);subst this;have e:((List.range p.length).any λj=>decide (p.length<=j)&&RN p i j)=false:=(by rw[Bool.eq_false_iff];intro h;rw[any_eq_true]at h;obtain⟨j,h1,h2⟩:=h;rw[List.mem_range]at h1;simp at h2;omega);rw[e];refine bW ?_;simp[iZ,dV]
  |succ m ih=>
   intro k hk f hf;obtain⟨f,rfl⟩:∃g,f=g+1:=⟨f-1,by omega⟩;have hkl:k<p.length:=(by omega);have h1:=st k hkl;cases hb:RN p i k with
   |true=>
    rw[hb]at h1;have e:((List.range p.length).any λj=>decide (k<=j)&&RN p i j)=true:=(by rw[any_eq_true];exact⟨k,List.mem_range.2 hkl,by simp[hb]⟩);rw[e];exact bW h1
   |false=>
    rw[hb]at h1;rw[dI h1,ih (k+1) (by omega) f (by omega)];congr 2;rw[jg,any_eq_true,any_eq_true];constructor;rintro⟨j,j1,j2⟩;simp at j2;exact⟨j,j1,by simp;exact⟨by omega,j2.2⟩⟩;rintro⟨j,j1,j2⟩;simp at j2;refine⟨j,j1,?_⟩;simp;refine⟨?_,j2.2⟩;rcases Nat.lt_or_ge k j with h|h;omega;have:j=k:=(by omega);subst this;rw[hb]at j2;simp at j2
 by_cases h2:i+2<=p.length;exact main (p.length-(i+2)) (i+2) (by omega) n (by omega);obtain⟨n,rfl⟩:∃g,n=g+1:=⟨n-1,by omega⟩;have e:((List.range p.length).any λj=>decide (i+2<=j)&&RN p i j)=false:=by rw[Bool.eq_false_iff];intro h;rw[any_eq_true]at h;obtain⟨j,h1,h2⟩:=h;rw[List.mem_range]at h1;simp at h2;omega
 rw[e];have d:decide (((i+2:Nat):Int)<(p.length:Nat))=false:=by rw[dM];omega
 refine bW ?_;simp only[iZ,dV,d,ay]
theorem Ik{p:List dZ}(hl:p.length<=1000)(hn:2000<=n):iter (qc n (gB p)) n 0=some (bif (List.range p.length).any λi=>(List.range p.length).any λk=>decide (i+2<=k)&&RN p i k then .inr false else .inl ()):=by
 refine Ih p.length _ () false (λ i hi=>?_) ?_ n (by omega);have w2:i64.wrap (i+2)=(i+2:Nat):=by rw[aO (by omega) (by omega)];omega
 simp only[qc,dV,dR hi,aj,w2,Ij hl hn hi,aY i];cases (List.range p.length).any λk=>decide (i+2<=k)&&RN p i k<;>rfl;simp[qc,dV]
theorem PD p (hn:2000<=n):vD n p=some (Py p):=by
 unfold vD Py;by_cases h4:p.length<4;have d1:decide ((p.length:Int)<4)=true:=by simp;omega
 have d2:decide (4<=p.length)=false:=by simp;omega
 rw[d1,d2];rfl;have d1:decide ((p.length:Int)<4)=false:=by simp;omega
 have d2:decide (4<=p.length)=true:=by simp;omega
 by_cases h60:p.length>60;have d3:decide ((p.length:Int)>60)=true:=by simp;omega
 have d4:decide (p.length<=60)=false:=by simp;omega
 rw[d1,d2,d3,d4];rfl;have d3:decide ((p.length:Int)>60)=false:=by simp;omega
 have d4:decide (p.length<=60)=true:=by simp;omega
 have g:bu (gB p) ((0:Nat)+0)=some (jo p 0):=by have:=bJ (l:=gB p) (i:=0) (by rw[dV];omega);rw[yO]at this;exact this
 have i0:co 0 (gB p).length=true:=by have:=aW (i:=0) (n:=(gB p).length) (by rw[dV];omega);simpa using this
 rw[d1,d2,d3,d4];simp only[ay,ai,Aq (n:=n) (p:=p) (by omega) (by omega),Ii (n:=n) (p:=p) (by omega) hn,Bool.true_and];cases (List.range p.length).any (MM p)with
 |true=>rfl
 |false=>
  simp only[ay,iJ,Ik (n:=n) (p:=p) (by omega) hn];cases (List.range p.length).any λi=>(List.range p.length).any λk=>decide (i+2<=k)&&RN p i k with
  |true=>rfl
  |false=>
   simp only[ay,iJ,i0,aj,g,ai,nu];rfl
def AY(p:List dZ)(x:Int):List Int:=((gB p).filter λs=>!uA s&&(decide (min s.ly s.mC<=x)&&decide (x<max s.ly s.mC))).map (·.pD)
def Fe(x0 x1:Int):List Int->List au
 |a::b::l=>⟨x0,a,x1,b⟩::Fe x0 x1 l
 |_=>[]
def oe(p:List dZ):List Int:=Hc (p.map (·.x))
def Wp(p:List dZ):List au:=(jH (λ a b=>Fe a b (kL ot (AY p a))) (oe p)).flatten
def xI(p:List dZ):List au×Int:=if Py p=true then(if (Wp p).length>200 then([],6)else(Wp p,0))else([],10)
theorem afV{p:List dZ}(h:Py p=true):4<=p.length/\p.length<=60:=by unfold Py at h;simp at h;exact⟨h.1,h.2.1⟩
theorem FB{p:List dZ}(hl:p.length<=1000)(hn:2000<=n):iter (lV p) n (0,[])=some (p.map (·.x)):=by
 have:=gq (l:=p) (step:=lV p) (λ i s=>(i,s)) (λ r s=>s++[r.x]) (λ s=>s) (λ i s=>s.length<=i)
  (λ i hi s hs=>?_) (λ s hs=>by simp[lV]) n (by omega) [] (ax _)
 rw[ll]at this;rw[this];have gen:∀(ys:List dZ) s,ys.foldl (λ s r=>s++[r.x]) s=s++ys.map (·.x):=by
  intro ys
  induction ys with
  |nil=>intro s;simp
  |cons y ys ih=>intro s;rw[foldl_cons,ih];simp
 congr 1;simpa using gen p [];have ap:bL s.length s.length (sub ([(p[i]).x]:List Int) 0 1).length 1 8=true:=eG (n:=1) (by omega) (by simp[maxLen];omega);simp only[lV,dR hi,aj,bE hi,ai,ap,gD,aN];refine⟨?_,by simp;omega⟩;rw[aQ (by omega)];rfl
theorem FC{p:List dZ}(hl:p.length<=1000)(hn:2000<=n) es (i:Nat) (hi:i<es.length):iter (lW ((),es) (gB p) (i:Nat)) n (0,[])=some (AY p es[i]):=by
 have:=gq (l:=gB p) (step:=lW ((),es) (gB p) (i:Nat)) (λ i s=>(i,s)) (λ r s=>bif !uA r&&(decide (min r.ly r.mC<=es[i])&&decide (es[i] <max r.ly r.mC))then s++[r.pD]else s) (λ s=>s) (λ i s=>s.length<=i)
  (λ j hj s hs=>?_) (λ s hs=>by simp[lW]) n (by rw[dV];omega) [] (ax _)
 rw[ll]at this;rw[this];have gen:∀(ys:List jL) s,ys.foldl (λ s r=>bif !uA r&&(decide (min r.ly r.mC<=es[i])&&decide (es[i] <max r.ly r.mC))then s++[r.pD]else s) s=s++(ys.filter λs=>!uA s&&(decide (min s.ly s.mC<=es[i])&&decide (es[i] <max s.ly s.mC))).map (·.pD):=by
  intro ys
  induction ys with
  |nil=>intro s;simp
  |cons y ys ih=>
   intro s;rw[foldl_cons,ih,List.filter_cons];cases !uA y&&(decide (min y.ly y.mC<=es[i])&&decide (es[i] <max y.ly y.mC))<;>simp
 congr 1;exact gen (gB p) [];rw[dV]at hj;have g:bu (gB p) ((0:Nat)+(j:Nat))=some (gB p)[j]:=bJ (by rw[dV];exact hj);have ap:bL s.length s.length (sub ([((gB p)[j]'(by rw[dV];exact hj)).pD]:List Int) 0 1).length 1 8=true:=eG (n:=1) (by omega) (by simp[maxLen];omega);generalize hr:(gB p)[j]'(by rw[dV];exact hj)=r at*;simp only[lW,dV,dR hj,aj,aW hj,g,ai,nu,aW hi,bJ hi,Px,ap,gD,aN,aY j];cases uA r<;>cases decide (min r.ly r.mC<=es[i])<;>cases decide (es[i] <max r.ly r.mC)<;>refine⟨rfl,?_⟩<;>simp<;>omega
theorem ZP(x0 x1:Int):∀l:List Int,(Fe x0 x1 l).length<=l.length
 |[]|[_]=>by simp[Fe]
 |a::b::l=>by have:=ZP x0 x1 l;simp[Fe];omega
theorem FD es (i:Nat) (hi:i+1<es.length) (he:es.length<=10000) (w2 r8:List Int) (hw:w2.length=r8.length) (hr:r8.length<=1000) out (ho:out.length<=10000000) (hn:2000<=n):
 iter (jy ((),es) (i:Nat) w2 r8) n (0,out)=some (out++Fe (es[i]'(by omega)) es[i+1] r8):=by
 have main:∀(m k:Nat) out,k+m=r8.length->out.length<=10000000+k->∀f,m<f->iter (jy ((),es) (i:Nat) w2 r8) f ((k:Nat),out)=some (out++Fe (es[i]'(by omega)) es[i+1] (r8.drop k)):=by
  intro m
  induction m using Nat.strongRecOn with
  |ind m ih=>
   intro k out hk hko f hf;obtain⟨f,rfl⟩:∃g,f=g+1:=⟨f-1,by omega⟩;have w1:i64.wrap (k+1)=(k+1:Nat):=aQ (by omega);have w3:i64.wrap (k+2)=(k+2:Nat):=(by rw[aO (by omega) (by omega)];omega);have w4:i64.wrap (i+1)=(i+1:Nat):=aQ (by omega);by_cases h2:k+1<r8.length;have d:decide (((k+1:Nat):Int)<(w2.length:Nat))=true:=(by rw[hw];exact dR h2);have ap:bL out.length out.length (sub ([(au.mk (es[i]'(by omega)) (r8[k]'(by omega)) es[i+1] r8[k+1])]:List au) 0 1).length 1 32=true:=eG (n:=1) (by omega) (by simp[maxLen];omega);have st:jy ((),es) (i:Nat) w2 r8 ((k:Nat),out)=some (.inl ((k+2:Nat),out++[au.mk (es[i]'(by omega)) (r8[k]'(by omega)) es[i+1] r8[k+1]])):=(by simp only[jy,w1,w3,w4,d,aj,aW (show i<es.length by omega),bJ (show i<es.length by omega),ai,aW (show k<w2.length by omega),bJ (show k<r8.length by omega),aW hi,bJ hi,aW (show k+1<w2.length by omega),bJ h2,ap,gD,aN];rfl);have dr:r8.drop k=r8[k]::r8[k+1]::r8.drop (k+2):=(by rw[List.drop_eq_getElem_cons (by omega),List.drop_eq_getElem_cons h2]);rw[dI st,ih (m-2) (by omega) (k+2) _ (by omega) (by rw[fO,List.length_singleton];omega) f (by omega),dr];simp[Fe];have d:decide (((k+1:Nat):Int)<(w2.length:Nat))=false:=(by rw[hw,dM];omega);have e:Fe (es[i]'(by omega)) es[i+1] (r8.drop k)=[]:=by
    have hl:(r8.drop k).length<=1:=by rw[length_drop];omega
    match r8.drop k,hl with
    |[],_|[_],_=>rfl
    |_::_::_,h=>simp at h
   rw[e,List.append_nil];refine bW ?_;simp only[jy,w1,d,ay,aN,aj]
 have:=main r8.length 0 out (by omega) (by omega) n (by omega);rw[ll,List.drop_zero]at this;exact this
theorem amc p:(oe p).length<=p.length:=by have h:=rz (kL ot (p.map (·.x)));rw[eu,length_map]at h;exact h
theorem Wq p x:(AY p x).length<=p.length:=by unfold AY;rw[length_map,<- dV p];exact length_filter_le _ _
theorem Il{α:Type}(b:Nat):∀l:List (List α),(∀ x∈l,x.length<=b)->l.flatten.length<=l.length*b
 |[],_=>by simp
 |x::l,h=>by have h1:=Il b l λy hy=>h y (eX _ hy);have h2:=h x List.mem_cons_self;rw[List.flatten_cons,fO,gH,Nat.add_mul];omega
theorem FE{p:List dZ}(hl:p.length<=1000)(hn:2000<=n):
 iter (lX n ((),oe p) (gB p)) n (0,[])=some (Wp p):=by
 have hx:=amc p;obtain⟨p1,p2⟩:=rJ (λ a b=>Fe a b (kL ot (AY p a))) (oe p)
 let C:=jH (λ a b=>Fe a b (kL ot (AY p a))) (oe p)
 have hC:C.length=(oe p).length-1:=p1;have cl:∀c∈C,c.length<=1000:=by intro c hc;obtain⟨i,hi,rfl⟩:=mem_iff_getElem.1 hc;have:=p2 i (by omega) hi;show(C[i]).length<=1000;rw[show C[i]=_ from this];have h1:=ZP (oe p)[i] (oe p)[i+1] (kL ot (AY p (oe p)[i]));rw[eu]at h1;have h2:=Wq p (oe p)[i];omega
 have bl:∀i,((C.take i).flatten).length<=1000*1000:=by
  intro i;have h1:=Il 1000 (C.take i) λx hx=>cl x (List.mem_of_mem_take hx);have h2:(C.take i).length<=1000:=by rw[length_take];omega
  exact Nat.le_trans h1 (Nat.mul_le_mul_right _ h2)
 have main:=mR (step:=lX n ((),oe p) (gB p)) (λ i=>((i:Nat),(C.take i).flatten)) C.length (Wp p) (λ i hi=>?_) ?_ n (by omega);simpa using main;have hi2:i+1<(oe p).length:=by omega
 have hw:i64.wrap (((oe p).length:Nat)-1)=(C.length:Nat):=by rw[aO (by omega) (by omega)];omega
 have bi:=bl i;have cr:=Wq p (oe p)[i];have e:C.take (i+1)=C.take i++[Fe (oe p)[i] (oe p)[i+1] (kL ot (AY p (oe p)[i]))]:=by rw[kC hi];congr 2;exact p2 i hi2 hi
 simp only[lX,hw,dR hi,aj,length_nil,aN,FC hl hn (oe p) i (by omega),ai];rw[pQ (by omega) (by omega)];simp;rw[FD (oe p) i hi2 (by omega) (AY p (oe p)[i]) (kL ot (AY p (oe p)[i])) (by rw[eu]) (by rw[eu];omega) _ (by omega) hn];simp[e,aY i];have hw:i64.wrap (((oe p).length:Nat)-1)=((oe p).length:Nat)-1:=aO (by omega) (by omega);have d:decide ((C.length:Int)<((oe p).length:Nat)-1)=false:=by rw[dM];omega
 simp[lX,hw,d];rfl
theorem Ni p (hn:2000<=n):tH n p=some (xI p):=by
 unfold tH xI;rw[PD p hn];simp;cases hr:Py p with
 |false=>rfl
 |true=>
  have⟨_,hl⟩:=afV hr;simp[FB (n:=n) (p:=p) (by omega) hn];rw[pQ (by rw[length_map];omega) (by rw[length_map];omega)];simp[eu];rw[tT (by rw[eu,length_map];omega) (by rw[eu,length_map];omega)];simp[Aq (n:=n) (p:=p) (by omega) (by omega)];have hE:iT (kL ot (p.map (·.x)))=oe p:=rfl;rw[hE,FE (by omega) hn];simp;by_cases q7:(Wp p).length>200;have:decide ((((Wp p).length:Nat):Int)>200)=true:=by simp;omega
  rw[this,aX q7];rfl;have:decide ((((Wp p).length:Nat):Int)>200)=false:=by simp;omega
  rw[this,aU q7];rfl
theorem adD p:(xI p).1.length<=200:=by unfold xI;split;split;simp;simp;omega;simp
def an5(a b:au):Int:=bif(!en a || !en b)then -1 else max (max 0 (i64.wrap ((max a.x0 b.x0)-(min a.x1 b.x1)))) (i64.wrap ((max a.y0 b.y0)-(min a.y1 b.y1)))
theorem akU(a b:au):Sp a b=some (an5 a b):=by unfold Sp an5;rw[jG,jG];simp only[ai];cases en a<;>cases en b<;>rfl
def akV:jK:=jK.mk 0 0 [] []
def l7(land:List jK)(id:Int):jK×Bool:=match land.find? λt=>t.id==id with
 |some t=>(t,true)
 |none=>(akV,false)
theorem Ws{α:Type}(p:α->Bool) l:(∃ (i:Nat) (h:i<l.length),oN p l=some i/\l.find? p=some l[i])\/(oN p l=none/\l.find? p=none):=by rcases Ec p l with ⟨i,hi,h1,h2,h3⟩|⟨h1,h2⟩;refine .inl ⟨i,hi,h1,?_⟩;rw[List.find?_eq_some_iff_getElem];exact⟨h2,i,hi,rfl,λj hj=>by simpa using h3 j hj⟩;refine .inr ⟨h1,?_⟩;rw[List.find?_eq_none];intro x hx;rw[h2 x hx];simp
def an6(t:cB)(name:ByteArray):Int:=match t.rows.find? λe=>ByteArray.toList e.name==ByteArray.toList name with
 |some e=>e.n
 |none=>t.sg
theorem Wt{α:Type}(p:α->Bool) l:(∃ (i:Nat) (h:i<l.length),AQ p l=i/\l.find? p=some l[i])\/(AQ p l=-1/\l.find? p=none):=by rcases Ws p l with ⟨i,hi,h1,h2⟩|⟨h1,h2⟩;exact .inl ⟨i,hi,by simp[AQ,h1],h2⟩;exact .inr ⟨by simp[AQ,h1],h2⟩
def akW:List ByteArray:=[⟨#[104,111,109,101]⟩,⟨#[115,104,111,112]⟩,⟨#[119,111,114,107]⟩,⟨#[112,97,114,107]⟩,⟨#[112,108,97,110,116]⟩,⟨#[104,97,108,108]⟩]
def nameOf(use:Int):Option ByteArray:=bu akW use
theorem adE{V O:Type}{step:V->Option (V⊕O)}(R:Nat->V->Prop)(N:Nat)(Q:O->Prop)(h:∀i v,i<N->R i v->∃v',step v=some (.inl v')/\R (i+1) v')(hN:∀v,R N v->∃o,step v=some (.inr o)/\Q o):
 ∀n,N<n->∀v,R 0 v->∃o,iter step n v=some o/\Q o:=by
 have main:∀k i n v,i+k=N->k<n->R i v->∃o,iter step n v=some o/\Q o:=by
  intro k
  induction k with
  |zero=>
   intro i n v hi hn hR;obtain⟨m,rfl⟩:∃m,n=m+1:=⟨n-1,by omega⟩;have:i=N:=(by omega);subst this;have⟨o,h1,h2⟩:=hN v hR;exact⟨o,bW h1,h2⟩
  |succ k ih=>
   intro i n v hi hn hR;obtain⟨m,rfl⟩:∃m,n=m+1:=⟨n-1,by omega⟩;obtain⟨v',h1,h2⟩:=h i v (by omega) hR;obtain⟨o,h3,h4⟩:=ih (i+1) m v' (by omega) (by omega) h2;exact⟨o,by rw[dI h1,h3],h4⟩
 intro n hn v hR;exact main N 0 n v (by omega) hn hR
def AZ(z:fD):List au:=if (xI z.corners).2=0 then(xI z.corners).1 else []
theorem afW(z:fD):(AZ z).length<=200:=by unfold AZ;split;exact adD _;simp
theorem RP(z:fD)(hn:2000<=n):xw n z=some (AZ z):=by
 unfold xw AZ;rw[Ni _ hn];simp;by_cases h:(xI z.corners).2=0;have:((xI z.corners).2 !=0)=false:=by simp[h]
 rw[this,aX h];rfl;have:((xI z.corners).2 !=0)=true:=by simp[h]
 rw[this,aU h];rfl
def Ff(a b:au):au:=⟨max a.x0 b.x0,max a.y0 b.y0,min a.x1 b.x1,min a.y1 b.y1⟩
theorem Nj(a:au):xX a=some (bif en a then(a,true)else(⟨0,0,0,0⟩,false)):=by unfold xX;rw[jG];simp[Px]
theorem yQ(a b:au):rU a b=some (bif en a&&(en b&&en (Ff a b))then(Ff a b,true)else(⟨0,0,0,0⟩,false)):=by unfold rU;rw[jG,jG];simp only[ai,Px];rw[show au.mk (max a.x0 b.x0) (max a.y0 b.y0) (min a.x1 b.x1) (min a.y1 b.y1)=Ff a b from rfl,Nj];simp only[ai];generalize en (Ff a b)=c;cases en a<;>cases en b<;>cases c<;>rfl
def N0(r:au):Int:=i64.wrap (i64.wrap (r.x1-r.x0)*i64.wrap (r.y1-r.y0))
theorem CF{r:au}(h:en r=true):uT r=some (N0 r):=by unfold uT;rw[Nj,h];rfl
def Wu(x:au)(n:Int)(y:au):Int:=bif en x&&(en y&&en (Ff x y))then i64.wrap (n+N0 (Ff x y))else n
def EF(a b:List au):Int:=a.foldl (λ n x=>b.foldl (Wu x) n) 0
theorem amd{α β:Type} c (a:α) (u v:β):(bif c then(a,u)else(a,v)).1=a:=by cases c<;>rfl
theorem Im b (x:au) (hb:b.length<=1000) (hn:2000<=n) (m u v:Int):∃o,iter (qd n b x) n (m,0,u,v)=some o/\o.1=b.foldl (Wu x) m:=by
 refine adE (λ i (w:Int×Int×Int×Int)=>w.2.1=i/\w.1=(b.take i).foldl (Wu x) m) b.length (λ (o:Int×Int×Int)=>o.1=b.foldl (Wu x) m) (λ i w hi hR=>?_) (λ w hR=>?_) n (by omega) _ ⟨rfl,rfl⟩;obtain⟨w1,w2,w3,w4⟩:=w;obtain⟨h1,h2⟩:=hR;simp at h1 h2;subst h1;have e:(b.take (i+1)).foldl (Wu x) m=Wu x w1 b[i]:=by rw[kC hi,List.foldl_append,<- h2];rfl
 simp only[qd,dR hi,aj,bE hi,ai,yQ];have e0:Wu x w1 b[i]=bif en x&&(en b[i]&&en (Ff x b[i]))then i64.wrap (w1+N0 (Ff x b[i]))else w1:=rfl;rw[e0]at e;cases hc:en x&&(en b[i]&&en (Ff x b[i]))with
 |false=>
  rw[hc]at e;simp only[ay,Bool.not_false,aj,ai];exact⟨_,rfl,aQ (by omega),e.symm⟩
 |true=>
  rw[hc]at e;have hcc:en (Ff x b[i])=true:=by revert hc;generalize en (Ff x b[i])=c;cases c;cases en x<;>cases en b[i]<;>simp;simp
  simp only[aj,Bool.not_true,ay,CF hcc,ai,jb];rw[show ∀u v:Int,sub [u,v] 0 2=[u,v]from λ_ _=>rfl,V6 _ _ (by omega)];simp only[ai,Px];simp only[show ∀u v:Int,aE [u,v].length 2=true from λ_ _=>rfl,aj,ai];refine⟨_,rfl,aY i,?_⟩;rw[e];exact amd _ _ _ _
 obtain⟨w1,w2,w3,w4⟩:=w;obtain⟨h1,h2⟩:=hR;simp only at h1 h2;subst h1;simp only[qd,V5,ay];exact⟨_,rfl,by rw[h2,List.take_length]⟩
theorem PE(a b:List au)(ha:a.length<=1000)(hb:b.length<=1000)(hn:2000<=n):∃q,vE n a b=some (EF a b,q):=by
 unfold vE;obtain⟨o,h1,h2⟩:=adE (step:=qf n a b) (λ i (w:Int×Int×Int×Int)=>w.2.1=i/\w.1=(a.take i).foldl (λ n x=>b.foldl (Wu x) n) 0) a.length (λ (o:Int×Int×Int)=>o.1=EF a b) (λ i w hi hR=>by obtain⟨w1,w2,w3,w4⟩:=w;obtain⟨h1,h2⟩:=hR;simp at h1 h2;subst h1;have⟨o,g1,g2⟩:=Im (n:=n) b a[i] hb hn w1 w3 w4;obtain⟨o1,o2,o3⟩:=o;simp only[qf,dR hi,aj,bE hi,ai,g1];refine⟨_,rfl,aQ (by omega),?_⟩;simp at g2;rw[kC hi,List.foldl_append,<- h2,g2];rfl) (λ w hR=>by obtain⟨w1,w2,w3,w4⟩:=w;obtain⟨h1,h2⟩:=hR;simp only at h1 h2;subst h1;simp only[qf,V5,ay];exact⟨_,rfl,by rw[h2,List.take_length];rfl⟩) n (by omega) (0,0,1048576,0) ⟨rfl,rfl⟩;obtain⟨o1,o2,o3⟩:=o;simp at h2;subst h2;exact⟨_,by rw[h1];rfl⟩
def xJ(zs:List fD)(area:List au):List Int:=bif cJ area then zs.map λz=>EF area (AZ z)else []
theorem PG(p:bZ) a (hz:p.zones.length<=100) (ha:a.length<=900) (hn:2000<=n):vF n p a=some (xJ p.zones a):=by
 unfold vF xJ;rw[l6 (by omega) (by omega) (by omega)];simp;cases cJ a with
 |false=>rfl
 |true=>
  have:=gq (l:=p.zones) (step:=qg n p a) (λ i s=>(i,s)) (λ z s=>s++[EF a (AZ z)]) (λ s=>s) (λ i s=>s.length<=i)
   (λ i hi s hs=>?_) (λ s hs=>by simp[qg]) n (by omega) [] (ax _)
  rw[ll]at this;simp only[Bool.not_true,ay,length_nil,aN,aj,this,ai,iP];congr 1;have gen:∀(ys:List fD) s,ys.foldl (λ s z=>s++[EF a (AZ z)]) s=s++ys.map λz=>EF a (AZ z):=by
   intro ys
   induction ys with
   |nil=>intro s;simp
   |cons y ys ih=>intro s;rw[foldl_cons,ih];simp
  exact gen p.zones [];have cl:=afW p.zones[i];obtain⟨q,hq⟩:=PE (n:=n) a (AZ p.zones[i]) (by omega) (by omega) hn;have ap:bL s.length s.length (sub ([EF a (AZ p.zones[i])]:List Int) 0 1).length 1 8=true:=eG (n:=1) (by omega) (by simp[maxLen];omega);simp only[qg,dR hi,aj,bE hi,ai,RP _ hn,iP,aN,hq,ap,gD];refine⟨?_,by simp;omega⟩;rw[aQ (by omega)];rfl
theorem Rl zs a:(xJ zs a).length<=zs.length:=by unfold xJ;cases cJ a<;>simp
def wV(zs:List fD)(l:List Int)(m:Nat):Int:=(List.range m).foldl (λ b i=>if (!((zs.getD i ⟨⟨#[]⟩,false,[]⟩).overlay)&&(decide (l.getD i 0>0)&&(decide (b<0) || decide (l.getD i 0>l.getD b.toNat 0))))=true then i else b) (-1)
def EG(zs:List fD)(l:List Int)(i:Nat):Bool:=decide (i=wV zs l l.length) || ((zs.getD i ⟨⟨#[]⟩,false,[]⟩).overlay&&decide (l.getD i 0>0))
def GB(zs:List fD)(area:List au):List ByteArray:=((List.range (xJ zs area).length).filter (EG zs (xJ zs area))).map λi=>(zs.getD i ⟨⟨#[]⟩,false,[]⟩).name
theorem Rm zs l:∀m,wV zs l m=-1\/∃k:Nat,k<m/\wV zs l m=k
 | 0=>.inl rfl
 |m+1=>by have ih:=Rm zs l m;unfold wV;rw[List.range_succ,List.foldl_append];simp only[foldl_cons,List.foldl_nil];split;exact .inr ⟨m,by omega,rfl⟩;rcases ih with h|⟨k,h1,h2⟩;exact .inl h;exact .inr ⟨k,by omega,h2⟩
theorem Io{α:Type}{l:List α}{i:Nat}(d:α)(h:i<l.length):l.getD i d=l[i]:=by simp[h]
theorem PI(p:bZ) l (hl:l.length<=p.zones.length) (hz:p.zones.length<=100) (hn:2000<=n):iter (qh p l) n ((-1),0)=some (wV p.zones l l.length):=by
 have main:=mR (step:=qh p l) (λ i=>(wV p.zones l i,(i:Nat))) l.length (wV p.zones l l.length) (λ i hi=>?_) (by simp[qh]) n (by omega);exact main;have hz':i<p.zones.length:=by omega
 have e:wV p.zones l (i+1)=if (!(p.zones[i]).overlay&&(decide (l[i]>0)&&(decide (wV p.zones l i<0) || decide (l[i]>l.getD (wV p.zones l i).toNat 0))))=true then(i:Int)else wV p.zones l i:=by
  conv=>lhs;unfold wV
  rw[List.range_succ,List.foldl_append];simp only[foldl_cons,List.foldl_nil,Io _ hz',Io _ hi];rfl
 rw[e];rcases Rm p.zones l i with h|⟨k,h1,h2⟩;rw[h];have d:decide (-1<0)=true:=rfl;simp only[qh,dR hi,aj,aW hi,bJ hi,ai,bE hz',d,Px,Bool.true_or,Bool.and_true,aY i];cases (p.zones[i]).overlay<;>cases decide (l[i]>0)<;>rfl;rw[h2];have d:decide ((k:Nat)<0)=false:=by simp
 have hk:k<l.length:=by omega
 simp only[qh,dR hi,aj,aW hi,bJ hi,ai,bE hz',d,Px,Bool.false_or,ay,aW hk,bJ hk,Int.toNat_natCast,Io _ hk,aY i];cases (p.zones[i]).overlay<;>cases decide (l[i]>0)<;>cases decide (l[i]>l[k])<;>rfl
theorem abh(p:bZ) a (hz:p.zones.length<=100) (ha:a.length<=900) (hn:2000<=n):Cv n p a=some (GB p.zones a):=by
 unfold Cv;have sl:=Rl p.zones a;rw[PG p a hz ha hn];simp;rw[PI p _ sl hz hn];simp;unfold GB;generalize hL:xJ p.zones a=l at*
 have:=gq (l:=List.range l.length) (step:=xA p l (wV p.zones l l.length)) (λ i s=>(i,s)) (λ i s=>bif EG p.zones l i then s++[(p.zones.getD i ⟨⟨#[]⟩,false,[]⟩).name]else s) (λ s=>s) (λ i s=>s.length<=i)
  (λ i hi s hs=>?_) (λ s hs=>by rw[List.length_range];simp[xA]) n (by rw[List.length_range];omega) [] (ax _)
 rw[ll]at this;simp[this];congr 1;have gen:∀(ys:List Nat) s,ys.foldl (λ s i=>bif EG p.zones l i then s++[(p.zones.getD i ⟨⟨#[]⟩,false,[]⟩).name]else s) s=s++(ys.filter (EG p.zones l)).map λi=>(p.zones.getD i ⟨⟨#[]⟩,false,[]⟩).name:=by
  intro ys
  induction ys with
  |nil=>intro s;simp
  |cons y ys ih=>
   intro s;rw[foldl_cons,ih,List.filter_cons];cases EG p.zones l y<;>simp
 exact gen (List.range l.length) [];rw[List.length_range]at hi;have hz':i<p.zones.length:=by omega
 rw[List.getElem_range];have ap:bL s.length s.length (sub ([(p.zones[i]).name]:List ByteArray) 0 1).length 1 16=true:=eG (n:=1) (by omega) (by simp[maxLen];omega);have hb:((i:Nat)==wV p.zones l l.length)=decide ((i:Nat)=wV p.zones l l.length):=by rw[jg];simp
 simp only[xA,dR hi,aj,aW hi,bJ hi,ai,bE hz',hb,Px,ap,gD,aN,EG,Io _ hz',Io _ hi,aY i];cases decide ((i:Nat)=wV p.zones l l.length)<;>cases (p.zones[i]).overlay<;>cases decide (l[i]>0)<;>refine⟨rfl,?_⟩<;>simp<;>omega
theorem ame zs a:(GB zs a).length<=zs.length:=by unfold GB;rw[length_map];have h1:=length_filter_le (EG zs (xJ zs a)) (List.range (xJ zs a).length);rw[List.length_range]at h1;have:=Rl zs a;omega
def fX(a b:ByteArray):Bool:=ByteArray.toList a==ByteArray.toList b
theorem uH{l:List ByteArray}{a:ByteArray}(hl:l.length<1099511627776)(hn:l.length<n):fQ n l a=some (l.any (fX a)):=by
 unfold fQ;have e:qY n l a=aaU n (λ x=>ByteArray.toList a==ByteArray.toList x) l:=by kernel_rfl
 rw[e,Q8 hl hn,ai,wY];rfl
theorem qm{l:List ByteArray}{φ:(ByteArray×Unit)->Option Bool}(p:ByteArray->Bool)(h:∀x∈l,φ (x,())=some (p x))(hl:l.length<1099511627776)(hn:l.length<n):fV n l φ=some (l.any p):=by
 unfold fV;have e:qy n l φ=vV n l φ:=by kernel_rfl
 rw[e,iM p h hl hn,ai,wY]
def TJ(r:cu)(zs:List ByteArray):Bool:=(decide (r.zones=[]) || r.zones.any λz=>zs.any (fX z))&&!(r.except.any λz=>zs.any (fX z))
theorem PK(r:cu) zs (h1:r.zones.length<=100) (h2:r.except.length<=100) (h3:zs.length<=100) (hn:2000<=n):qJ n r zs=some (TJ r zs):=by
 have hf:∀x:ByteArray,kG n x zs=some (zs.any (fX x)):=λx=>by unfold kG;rw[uH (by omega) (by omega)];rfl
 unfold qJ TJ;rw[qm (λ z=>zs.any (fX z)) (λ x _=>hf x) (by omega) (by omega),qm (λ z=>zs.any (fX z)) (λ x _=>hf x) (by omega) (by omega)];simp;have e:((r.zones.length:Int)==0)=decide (r.zones=[]):=by rw[jg,beq_iff_eq,bF];constructor;intro h;exact List.length_eq_zero_iff.1 (by omega);intro h;rw[h];rfl
 rw[e];cases decide (r.zones=[])<;>cases (r.zones.any λz=>zs.any (fX z))<;>cases (r.except.any λz=>zs.any (fX z))<;>rfl
def qO(zs:List ByteArray)(day:Int)(r:cu):Bool:=decide (r.from_<=day)&&((r.j8==0 || decide (day<r.j8))&&TJ r zs)
def PL(rules:List cu)(zs:List ByteArray)(day:Int):List Nat:=(List.range rules.length).filter λi=>(rules[i]?).any (qO zs day)
abbrev Wv(r:cu):Prop:=r.zones.length<=100/\r.except.length<=100
theorem RQ(p:bZ) zs day (hr:∀r∈p.rules,Wv r) (hl:p.rules.length<=100) (h3:zs.length<=100) (hn:2000<=n):tJ n p zs day=some ((PL p.rules zs day).map λ(i:Nat)=>(i:Int)):=by
 unfold tJ PL
 have:=gq (l:=List.range p.rules.length) (step:=qZ n p zs day) (λ i s=>(i,s)) (λ i s=>bif(p.rules[i]?).any (qO zs day)then s++[(i:Int)]else s) (λ s=>s) (λ i s=>s.length<=i)
  (λ i hi s hs=>?_) (λ s hs=>by rw[List.length_range];simp[qZ]) n (by rw[List.length_range];omega) [] (ax _)
 rw[ll]at this;simp[this];congr 1;have gen:∀(ys:List Nat) s,ys.foldl (λ s (i:Nat)=>bif(p.rules[i]?).any (qO zs day)then s++[(i:Int)]else s) s=s++(ys.filter λi=>(p.rules[i]?).any (qO zs day)).map λ(i:Nat)=>(i:Int):=by
  intro ys
  induction ys with
  |nil=>intro s;simp
  |cons y ys ih=>
   intro s;rw[foldl_cons,ih,List.filter_cons];cases (p.rules[y]?).any (qO zs day)<;>simp
 exact gen (List.range p.rules.length) [];rw[List.length_range]at hi;rw[List.getElem_range];obtain⟨o1,o2⟩:=hr _ (getElem_mem hi);have ap:bL s.length s.length (sub ([(i:Nat)]:List Int) 0 1).length 1 8=true:=eG (n:=1) (by omega) (by simp[maxLen];omega);have eg:(p.rules[i]?).any (qO zs day)=qO zs day p.rules[i]:=by rw[dD hi];rfl
 rw[eg];simp only[qZ,dR hi,aj,bE hi,ai,PK _ zs o1 o2 h3 hn,Px,ap,gD,aN,qO,aY i];cases decide ((p.rules[i]).from_<=day)<;>cases (p.rules[i]).j8==0<;>cases decide (day<(p.rules[i]).j8)<;>cases TJ p.rules[i] zs<;>refine⟨rfl,?_⟩<;>simp<;>omega
def Ww(p:dW):Bool:=decide (0<=p.side/\p.side<=3)&&(decide (0<=p.base/\p.base<=4096)&&(decide (0<=p.num/\p.num<=4096)&&decide (1<=p.den/\p.den<=4096)))
theorem akX(p:dW):Ww p=true↔(0<=p.side/\p.side<=3)/\(0<=p.base/\p.base<=4096)/\(0<=p.num/\p.num<=4096)/\(1<=p.den/\p.den<=4096):=by simp[Ww]
theorem RS(a b c:Int):nO a b c=some (decide (b<=a/\a<=c)):=by
 unfold nO;by_cases h1:b<=a;have d:decide (b<=a)=true:=by simpa using h1
 rw[d,aj];congr 1;rw[jg];simp[h1];have d:decide (b<=a)=false:=by simpa using h1
 rw[d,ay];congr 1;rw[jg];simp[h1]
theorem Wx(p:dW):Ag p=some (Ww p):=by unfold Ag Ww;simp only[RS,ai,Px];generalize decide (0<=p.side/\p.side<=3)=a;generalize decide (0<=p.base/\p.base<=4096)=b;generalize decide (0<=p.num/\p.num<=4096)=c;cases a<;>cases b<;>cases c<;>rfl
theorem A7{l:List dW}{φ:(dW×Unit)->Option Bool}(p:dW->Bool)(h:∀x∈l,φ (x,())=some (p x))(hl:l.length<1099511627776)(hn:l.length<n):kW n l φ=some (l.any p):=by
 unfold kW;have e:rG n l φ=vV n l φ:=by kernel_rfl
 rw[e,iM p h hl hn,ai,wY]
def EH(b:au)(l:List dW):Bool:=en b&&!(l.any λp=>!Ww p)
theorem Wy(b:au) l (hl:l.length<=1000) (hn:2000<=n):Ah n b l=some (EH b l):=by unfold Ah EH;rw[jG,A7 (λ p=>!Ww p) (λ p _=>by show tK p=_;unfold tK;rw[Wx];rfl) (by omega) (by omega)];simp only[ai,Px];cases en b<;>rfl
theorem afX{a n:Int}(hn:0<n):(if Int.tmod a n<0 then Int.tdiv a n-1 else Int.tdiv a n)=a/n:=by
 have h1:=Int.mul_ediv_add_emod a n;have h2:=Int.emod_nonneg a (by omega:n≠0);have h3:=Int.emod_lt_of_pos a hn;rcases Int.le_total 0 a with h|h;have e1:Int.tmod a n=a%n:=Int.tmod_eq_emod_of_nonneg h;have e2:Int.tdiv a n=a/n:=Int.tdiv_eq_ediv_of_nonneg h;rw[e1,e2,aU (by omega)];obtain⟨b,rfl⟩:∃b,a=-b:=⟨-a,by omega⟩;have hb:0<=b:=by omega
 have e1:Int.tmod (-b) n=-(b%n):=by rw[Int.neg_tmod,Int.tmod_eq_emod_of_nonneg hb]
 have e2:Int.tdiv (-b) n=-(b/n):=by rw[Int.neg_tdiv,Int.tdiv_eq_ediv_of_nonneg hb]
 have g1:=Int.mul_ediv_add_emod b n;have g2:=Int.emod_nonneg b (by omega:n≠0);have g3:=Int.emod_lt_of_pos b hn;rw[e1,e2];by_cases hm:b%n=0;rw[aU (by omega)];have:(-b)/n=-(b/n):=by refine(Int.ediv_eq_iff_of_pos hn).2 ?_;constructor;rw[Int.neg_mul,Int.mul_comm (b/n)];omega;rw[Int.neg_mul,Int.mul_comm (b/n)];omega
 omega;rw[aX (by omega)];have:(-b)/n=-(b/n)-1:=by refine(Int.ediv_eq_iff_of_pos hn).2 ?_;constructor;rw[Int.sub_mul,Int.neg_mul,Int.mul_comm (b/n)];omega;rw[Int.sub_mul,Int.neg_mul,Int.mul_comm (b/n)];omega
 omega
theorem Nk{a n:Int}(hn:0<n)(ha: -4611686018427387904<=a/\a<=4611686018427387904):tL a n=some (a/n):=by
 have nz:(n !=0)=true:=by simp;omega
 have hb: -4611686018427387904<=a/n/\a/n<=4611686018427387904:=by
  constructor;rw[Int.le_ediv_iff_mul_le hn];have: -4611686018427387904*n<=-4611686018427387904:=by omega
  omega;rcases Int.le_total 0 a with h|h;have:=Int.ediv_le_self n h;omega;have:a/n<=0:=by have:=(Int.ediv_lt_iff_lt_mul (a:=a) (b:=1) hn).2 (by omega);omega
  omega
 have hf:=afX (a:=a) hn;have ht: -4611686018427387904<=Int.tdiv a n/\Int.tdiv a n<=4611686018427387905:=by split at hf<;>omega
 unfold tL;simp[nz];rw[aO (x:=Int.tdiv a n),aO (x:=Int.tdiv a n-1),<- hf];by_cases h:Int.tmod a n<0;have d:decide (Int.tmod a n<0)=true:=by simpa using h
 rw[d,aX h];rfl;have d:decide (Int.tmod a n<0)=false:=by simpa using h
 rw[d,aU h];rfl
def Wz(b:au)(side x y:Int):Int:=if side=0 then x-b.x0 else if side=1 then b.x1-1-x else if side=2 then y-b.y0 else b.y1-1-y
def an7(b:au)(p:dW)(x y:Int):Int:=p.base+p.num*Wz b p.side x y/p.den
def Yg(b:au)(l:List dW)(x y:Int):Int:=l.foldl (λ h p=>min h (an7 b p x y)) 4096
abbrev InG(x y:Int):Prop:=(0<=x/\x<1048576)/\(0<=y/\y<1048576)
theorem adG{b:au}(hb:en b=true){x y:Int}(h:InG x y) side: -1048576<=Wz b side x y/\Wz b side x y<=1048576:=by simp at hb;obtain⟨h1,h2⟩:=h;unfold Wz;split;omega;split;omega;split<;>omega
theorem aiY{a d:Int}(ha:0<=a/\a<=4096)(hd: -1048576<=d/\d<=1048576): -4294967296<=a*d/\a*d<=4294967296:=by have h1:a*d<=a*1048576:=Int.mul_le_mul_of_nonneg_left hd.2 ha.1;have h2:a*(-1048576)<=a*d:=Int.mul_le_mul_of_nonneg_left hd.1 ha.1;omega
theorem aiZ{a n:Int}(hn:0<n)(ha: -4294967296<=a/\a<=4294967296): -4294967296<=a/n/\a/n<=4294967296:=by constructor;rw[Int.le_ediv_iff_mul_le hn];omega;rcases Int.le_total 0 a with h|h;have:=Int.ediv_le_self n h;omega;have:=(Int.ediv_lt_iff_lt_mul (a:=a) (b:=1) hn).2 (by omega);omega
theorem abj{b:au}{l:List dW}{x y:Int}(hb:en b=true)(hp:∀p∈l,Ww p=true)(h:InG x y)(hl:l.length<=1000)(hn:2000<=n):Jt n b l x y=some (Yg b l x y):=by
 unfold Jt wJ;have hr:=hb;simp at hr;obtain⟨h1,h2⟩:=h;rw[aO (x:=x-b.x0),aO (x:=b.x1-1),aO (x:=b.x1-1-x),aO (x:=y-b.y0),aO (x:=b.y1-1),aO (x:=b.y1-1-y)];simp;have:=lu (l:=l) (step:=xD b l x y ⟨x-b.x0,b.x1-1-x,y-b.y0,b.y1-1-y⟩) (λ i s=>(s,(i:Nat))) (λ p s=>min s (an7 b p x y)) (λ s=>s) (λ i hi s=>?_) (λ s=>by simp[xD]) n (by omega) 4096;rw[ll]at this;rw[this];rfl;obtain⟨s1,s2,s3,s4⟩:=(akX _).1 (hp _ (getElem_mem hi));have ib:co (l[i]).side 4=true:=by simp[co];omega
 have g:bu ([x-b.x0,b.x1-1-x,y-b.y0,b.y1-1-y]:List Int) (l[i]).side=some (Wz b (l[i]).side x y):=by
  have hs:(l[i]).side=0\/(l[i]).side=1\/(l[i]).side=2\/(l[i]).side=3:=by omega
  rcases hs with e|e|e|e<;>rw[e]<;>simp[bu,Wz]
 have db:=adG hb ⟨h1,h2⟩ (l[i]).side;have mb:=aiY s3 db;have dv:=aiZ (n:=(l[i]).den) (by omega) mb;simp only[xD,dR hi,aj,bE hi,ai,ib,g];rw[aO (x:=(l[i]).num*Wz b (l[i]).side x y),Nk (by omega) (by omega)];simp only[ai];rw[aO (x:=(l[i]).base+_),aQ (by omega)];rfl
theorem adH(b:au) l:EH b l=true↔en b=true/\∀p∈l,Ww p=true:=by unfold EH;rw[bC,Bool.not_eq_true',List.any_eq_false];simp
def Hm(x:gJ):Bool:=decide (x.z0<0) || (decide (x.z0>=x.z1) || (decide (x.z1>4096) || (decide (x.area=[]) || !cJ x.area)))
def AE(p:Option gJ×gJ):Bool:=Hm p.2 || p.1.any λq=>decide (q.z1>p.2.z0) || (q.z1==p.2.z0&&decide (q.area=p.2.area))
def A8(s:List gJ):List (Option gJ×gJ):=(none::s.map some).zip s
def EI(s:List gJ):Bool:=decide (s.length<=80)&&!((A8 s).any AE)
theorem pR s:(A8 s).length=s.length:=by simp[A8]
theorem EJ{s:List gJ}{i:Nat}(h:i<(A8 s).length):(A8 s)[i]=(if h0:i=0 then none else some (s[i-1]'(by rw[pR]at h;omega)),s[i]'(by rw[pR]at h;exact h)):=by
 simp[A8];cases i with
 |zero|succ i=>simp
theorem Rn{s:List gJ}(ha:∀x∈s,x.area.length<=900)(hn:1000<=n):HZ n s=some (EI s):=by
 unfold HZ EI;by_cases h80:s.length<=80;have d:decide ((s.length:Int)>80)=false:=by simp;omega
 have d2:decide (s.length<=80)=true:=by simpa using h80
 have z:∀l:List au,(((l.length:Int))==0)=decide (l=[]):=λl=>by cases l<;>simp<;>omega
 have:=rQ (l:=A8 s) (step:=Ai n s) (λ i=>(i:Nat)) AE () (λ _=>false) (λ i hi=>?_) ?_ n (by rw[pR];omega);rw[ll]at this;rw[d,d2,this,<- Pz];cases oN AE (A8 s)<;>rfl;rw[EJ];rw[pR]at hi;have hi':decide ((i:Int)<s.length)=true:=by simpa using hi
 have h1:=ha _ (getElem_mem hi);simp only[Ai,hi',aj,bE hi,ai,z,l6 (n:=n) (l:=s[i].area) (by omega) (by omega) hn,AE];rw[aQ (by omega)];have b:((bif decide (s[i].z0<0)then some true else bif decide (s[i].z0>=s[i].z1)then some true else bif decide (s[i].z1>4096)then some true else bif decide (s[i].area=[])then some true else some (!cJ s[i].area)):Option Bool)=some (Hm s[i]):=by unfold Hm;cases decide (s[i].z0<0)<;>cases decide (s[i].z0>=s[i].z1)<;>cases decide (s[i].z1>4096)<;>cases decide (s[i].area=[])<;>rfl
 rw[b];simp;cases Hm s[i]with
 |true=>simp
 |false=>
  by_cases h0:i=0;subst h0;have:(((0:Nat))==0)=true:=rfl;simp;have e0:((i:Int)==0)=false:=by simp;omega
  have w:i64.wrap (i-1)=(i-1:Nat):=mY (by omega) (by omega);have h2:=ha _ (getElem_mem (show i-1<s.length by omega));simp[e0,w,bE (show i-1<s.length by omega),afT (n:=n) (a:=s[i-1].area) (b:=s[i].area) (by omega) (by omega),h0];cases decide (s[i-1].z1>s[i].z0)with
  |true=>simp
  |false=>
   cases s[i-1].z1==s[i].z0 with
   |false=>simp
   |true=>cases decide (s[i-1].area=s[i].area)<;>simp
 rw[pR];simp[Ai];have d:decide ((s.length:Int)>80)=true:=by simp;omega
 have d2:decide (s.length<=80)=false:=by simpa using h80
 rw[d,d2];rfl
structure akY(x:gJ):Prop where
 lo:0<=x.z0
 lt:x.z0<x.z1
 hi:x.z1<=4096
 ne:x.area≠[]
 rt:cJ x.area=true
def an8(s:List gJ):Prop:=∀i (h:i+1<s.length),s[i].z1<=s[i+1].z0/\¬(s[i].z1=s[i+1].z0/\s[i].area=s[i+1].area)
theorem adJ(x:gJ):Hm x=false↔akY x:=by unfold Hm;simp;constructor;rintro⟨h1,h2,h3,h4,h5⟩;exact⟨by omega,by omega,by omega,h4,h5⟩;rintro⟨h1,h2,h3,h4,h5⟩;exact⟨by omega,by omega,by omega,h4,h5⟩
theorem WA s:EI s=true↔s.length<=80/\(∀ x∈s,akY x)/\an8 s:=by
 unfold EI;rw[bC,bF,Bool.not_eq_true',List.any_eq_false];refine and_congr_right λ_=>?_;constructor;intro h;have key:∀i (hi:i<s.length),AE ((A8 s)[i]'(by rw[pR];exact hi))=false:=λi hi=>by have:=h _ (getElem_mem (show i<(A8 s).length by rw[pR];exact hi));simpa using this
 refine⟨λ x hx=>?_,λi hi=>?_⟩;obtain⟨i,hi,rfl⟩:=mem_iff_getElem.1 hx;have:=key i hi;rw[EJ]at this;unfold AE at this;rw[Bool.or_eq_false_iff]at this;exact(adJ _).1 this.1;have:=key (i+1) hi;rw[EJ]at this;unfold AE at this;rw[Bool.or_eq_false_iff]at this;have h2:=this.2;simp only[Nat.succ_ne_zero,dif_neg,not_false_eq_true,Option.any_some,Nat.add_sub_cancel,Bool.or_eq_false_iff,dM,Bool.and_eq_false_iff,beq_eq_false_iff_ne]at h2;refine⟨by omega,λ⟨e1,e2⟩=>?_⟩;rcases h2.2 with h3|h3;exact h3 e1;exact h3 e2;rintro⟨h1,h2⟩ p hp;obtain⟨i,hi,rfl⟩:=mem_iff_getElem.1 hp;rw[EJ];rw[pR]at hi;unfold AE;have hb:=(adJ _).2 (h1 _ (getElem_mem hi));by_cases h0:i=0;simp[h0]at hb ⊢;exact hb;obtain⟨j,rfl⟩:∃j,i=j+1:=⟨i-1,by omega⟩;have⟨n1,n2⟩:=h2 j hi;simp only[Nat.succ_ne_zero,dif_neg,not_false_eq_true,Option.any_some,Nat.add_sub_cancel];rw[hb];simp only[Bool.false_or,Bool.or_eq_true,bF,bC,beq_iff_eq];rintro (h|h);omega;exact n2 h
theorem rZ{l:List gJ}{φ:(gJ×Unit)->Option Bool}(p:gJ->Bool)(h:∀x∈l,φ (x,())=some (p x))(hl:l.length<1099511627776)(hn:l.length<n):jl n l φ=some (l.any p):=by
 unfold jl tN;have:=rQ (l:=l) (step:=l5 l φ) (λ i=>(i:Nat)) p () (λ i=>(i:Nat)) (λ i hi=>?_) (by simp[l5]) n hn;rw[ll]at this;rw[this,<- Pz];cases oN p l with
 |none=>rfl
 |some i=>simp<;>omega
 have hi':decide ((i:Int)<l.length)=true:=by simpa using hi
 simp only[l5,hi',aj,bE hi,ai,h _ (getElem_mem hi)];rw[aQ (by omega)];cases p l[i]<;>rfl
def P1(s:List gJ)(lot:Int)(e:jw):Bool:=e.lot==lot&&(cJ e.area&&s.any λc=>decide (c.z1>e.top)&&N1 c.area e.area)
def NX(l:List jw)(lot:Int)(s:List gJ):Bool:=EI s&&!(l.any (P1 s lot))
theorem Yh{l:List jw}{lot:Int}{s:List gJ}(hl:l.length<=900)(he:∀e∈l,e.area.length<=900)(ha:∀x∈s,x.area.length<=900)(hn:1000<=n):Ew n l lot s=some (NX l lot s):=by
 unfold Ew NX;rw[Rn ha hn];simp;cases hr:EI s with
 |false=>rfl
 |true=>
 have l80:=((WA s).1 hr).1;have:=rQ (l:=l) (step:=vH n l lot s) (λ i=>(i:Nat)) (P1 s lot) () (λ _=>false) (λ i hi=>?_) (by simp[vH]) n (by omega);rw[ll]at this;simp;rw[this,<- Pz];cases oN (P1 s lot) l<;>rfl;have hi':decide ((i:Int)<l.length)=true:=by simpa using hi
 have h1:=he _ (getElem_mem hi);have cf:=rZ (n:=n) (l:=s) (φ:=λy:gJ×Unit=>qM n y.1 l[i]) (λ c=>decide (c.z1>l[i].top)&&N1 c.area l[i].area) (λ c hc=>by have:=ha c hc;show qM n c l[i]=_;unfold qM;rw[afS (by omega) (by omega) (by omega) (by omega)];cases decide (c.z1>l[i].top)<;>rfl) (by omega) (by omega);simp only[vH,hi',aj,bE hi,ai,l6 (n:=n) (l:=l[i].area) (by omega) (by omega) hn,cf];rw[aQ (by omega)];unfold P1;cases h2:l[i].lot==lot with
 |false=>
  have:(l[i].lot !=lot)=true:=by simp[bne,h2]
  simp[this]
 |true=>
  have:(l[i].lot !=lot)=false:=by simp[bne,h2]
  simp[this];cases cJ l[i].area with
  |false=>simp
  |true=>cases s.any λc=>decide (c.z1>l[i].top)&&N1 c.area l[i].area<;>simp
theorem adL(r:au):en r=true↔(0<=r.x0/\r.x0<r.x1/\r.x1<=1048576)/\(0<=r.y0/\r.y0<r.y1/\r.y1<=1048576):=by simp;omega
theorem JF{b:au}{l:List dW}(r:au) x (hb:en b=true) (hp:∀p∈l,Ww p=true) (hr:en r=true) (hx:0<=x/\x<1048576) (hl:l.length<=1000) (hn:2000<=n) v:
 iter (nX n b l r x) n (v,0)=some (min (min v (Yg b l x r.y0)) (Yg b l x (r.y1-1))):=by
 have ho:=(adL r).1 hr;have w:i64.wrap (r.y1-1)=r.y1-1:=aO (by omega) (by omega);have:=lu (l:=[r.y0,r.y1-1]) (step:=nX n b l r x) (λ i s=>(s,(i:Nat))) (λ y m=>min m (Yg b l x y)) (λ s=>s) (λ i hi s=>?_) (λ s=>by simp[nX]) n (by simp;omega) v;rw[ll]at this;exact this;have h2:i<2:=by simpa using hi
 have yb:0<=([r.y0,r.y1-1]:List Int)[i]/\([r.y0,r.y1-1]:List Int)[i] <1048576:=by rcases i with _|_|i;simp;omega;simp;omega;omega
 simp only[nX,dR h2,aj,aW h2,w,bJ hi,ai,abj hb hp ⟨hx,yb⟩ hl hn,aY i]
def ant(b:au)(l:List dW)(v:Int)(r:au):Int:=min (min (min (min v (Yg b l r.x0 r.y0)) (Yg b l r.x0 (r.y1-1))) (Yg b l (r.x1-1) r.y0)) (Yg b l (r.x1-1) (r.y1-1))
theorem JG{b:au}{l:List dW}(r:au)(hb:en b=true)(hp:∀p∈l,Ww p=true)(hr:en r=true)(hl:l.length<=1000)(hn:2000<=n) v:
 iter (nY n b l r) n (v,0)=some (ant b l v r):=by
 have ho:=(adL r).1 hr;have w:i64.wrap (r.x1-1)=r.x1-1:=aO (by omega) (by omega);have:=lu (l:=[r.x0,r.x1-1]) (step:=nY n b l r) (λ i s=>(s,(i:Nat))) (λ x m=>min (min m (Yg b l x r.y0)) (Yg b l x (r.y1-1))) (λ s=>s) (λ i hi s=>?_) (λ s=>by simp[nY]) n (by simp;omega) v;rw[ll]at this;exact this;have h2:i<2:=by simpa using hi
 have xb:0<=([r.x0,r.x1-1]:List Int)[i]/\([r.x0,r.x1-1]:List Int)[i] <1048576:=by rcases i with _|_|i;simp;omega;simp;omega;omega
 simp only[nY,dR h2,aj,aW h2,w,bJ hi,ai,JF r _ hb hp hr xb hl hn,aY i]
def P0(b:au)(l:List dW)(a:List au):Int:=a.foldl (ant b l) 4096
theorem RU{b:au}{l:List dW}{a:List au}(hb:en b=true)(hp:∀p∈l,Ww p=true)(ha:∀r∈a,en r=true)(hal:a.length<=1000)(hl:l.length<=1000)(hn:2000<=n):xE n b l a=some (P0 b l a):=by unfold xE;have:=lu (l:=a) (step:=q9 n b l a) (λ i s=>(s,(i:Nat))) (λ r m=>ant b l m r) (λ s=>s) (λ i hi s=>?_) (λ s=>by simp[q9]) n (by omega) 4096;rw[ll]at this;rw[this];rfl;simp only[q9,dR hi,aj,bE hi,ai,JG a[i] hb hp (ha _ (getElem_mem hi)) hl hn,aY i]
theorem amh(r:au):en r=true↔(0<=r.x0/\r.x0<r.x1/\r.x1<=1048576)/\(0<=r.y0/\r.y0<r.y1/\r.y1<=1048576):=by simp;omega
abbrev E7(t:jK):Prop:=t.area.length<=900/\t.from_.length*8<=140737488355328
theorem afZ{t:jK}(h:E7 t):MH t=some t:=by unfold MH;have h2:=h.2;rw[Pp (by omega),ai,show sV t.from_=some t.from_ from zW (b:=8) (by omega) (by simp[maxLen];omega),ai];simp
theorem ai1{land:List jK}{id:Int}(h:∀t∈land,E7 t)(hl:land.length<1099511627776)(hn:land.length<n):MI n land id=some (l7 land id):=by
 unfold MI;have:=rQ (l:=land) (step:=Ei land id) (λ i=>i) (λ t=>t.id==id) () (λ i=>(land.getD i akV,true)) (λ i hi=>?_) ?_ n hn;rw[ll]at this;rw[this];unfold l7;rcases Ws (λ t:jK=>t.id==id) land with ⟨i,hi,h1,h2⟩|⟨h1,h2⟩;rw[h1,h2];simp[hi];rw[h1,h2];rfl;simp only[Ei,dR hi,aj,bE hi,ai,afZ (h _ (getElem_mem hi))];cases land[i].id==id with
 |true=>simp[hi]
 |false=>simp only[ay];rw[aQ (by omega)]
 simp[Ei]
theorem ZQ{land:List jK}(h:∀t∈land,E7 t) id:E7 (l7 land id).1:=by unfold l7;split;rename_i t ht;exact h t (List.mem_of_find?_eq_some ht);simp[E7,akV]
structure aot(t:fM):Prop where
 rules:t.bm.length<=20
 T0:∀r∈t.bm,Wv r
 zones:t.b9.length<=20
 land:t.land.length<=20
 lots:∀l∈t.land,E7 l
 cp:t.cp.length<=5
 aoK:∀e∈t.cp,e.area.length<=10
theorem Ro{α:Type}(p:α->Bool):∀l:List α,((List.range l.length).filter λi=>(l[i]?).any p).filterMap (λ i=>l[i]?)=l.filter p
 |[]=>rfl
 |a::l=>by
  have ih:=Ro p l;rw[gH,List.range_succ_eq_map,List.filter_cons,List.filter_cons];have e:(List.filter (λ i=>((a::l)[i]?).any p) (List.map Nat.succ (List.range l.length))).filterMap (λ i=>(a::l)[i]?)=l.filter p:=by rw[List.filter_map,List.filterMap_map];exact ih
  cases hp:p a with
  |true|false=>simp[hp];simpa using e
def ZR(a r:au):au:=⟨min a.x0 r.x0,min a.y0 r.y0,max a.x1 r.x1,max a.y1 r.y1⟩
def ahK:List au->au
 |[]=>⟨0,0,0,0⟩
 |r::l=>l.foldl ZR r
def TK(a:List au):au×Bool:=bif decide (a≠[])&&cJ a then(ahK a,true)else(⟨0,0,0,0⟩,false)
theorem adM{a:List au}(ha:a≠[])(hv:∀r∈a,en r=true)(hl:a.length<=900)(hn:2000<=n):MX n a=some (ahK a,true):=by
 unfold MX;have:=lu (l:=a.zip (List.range a.length)) (step:=Af a) (λ i (s:Bool×Int×Int×Int×Int)=>(s.1,(i:Nat),s.2)) (λ p s=>bif !s.1 then(true,p.1.x0,p.1.y0,p.1.x1,p.1.y1)else(s.1,min s.2.1 p.1.x0,min s.2.2.1 p.1.y0,max s.2.2.2.1 p.1.x1,max s.2.2.2.2 p.1.y1)) (λ s=>s) (λ i hi s=>?_) (λ s=>?_) n (by simp;omega) (false,0,0,0,0);rw[ll]at this;simp only at this;rw[this];cases a with
 |nil=>exact absurd rfl ha
 |cons r l=>
  have gen:∀(l:List au)(k:List Nat)(s:au),l.length<=k.length->(l.zip k).foldl (λ (s:Bool×Int×Int×Int×Int) p=>bif !s.1 then(true,p.1.x0,p.1.y0,p.1.x1,p.1.y1)else(s.1,min s.2.1 p.1.x0,min s.2.2.1 p.1.y0,max s.2.2.2.1 p.1.x1,max s.2.2.2.2 p.1.y1)) (true,s.x0,s.y0,s.x1,s.y1)=(true,(l.foldl ZR s).x0,(l.foldl ZR s).y0,(l.foldl ZR s).x1,(l.foldl ZR s).y1):=by
   intro l
   induction l with
   |nil=>intro k s _;rfl
   |cons r l ih=>
    intro k s hk;cases k with
    |nil=>simp at hk
    |cons j k=>
     rw[List.zip_cons_cons,foldl_cons,foldl_cons];exact ih k (ZR s r) (by simpa using hk)
  rw[gH,List.range_succ_eq_map,List.zip_cons_cons,foldl_cons];simp only[Bool.not_false,aj];rw[gen l _ r (by simp)];rfl
 have hi':i<a.length:=by simpa using hi
 obtain⟨s1,s2,s3,s4,s5⟩:=s;have ok:=hv _ (getElem_mem hi');simp only[Af,dR hi',aj,bE hi',ai,jG,ok,Bool.not_true,ay,Px,List.getElem_zip,aY i];obtain⟨s1,s2,s3,s4,s5⟩:=s;have:(a.zip (List.range a.length)).length=a.length:=by simp
 simp[Af]
theorem abk a (hl:a.length<=900) (hn:2000<=n):Js n a=some (TK a):=by
 unfold Js TK;cases a with
 |nil=>rfl
 |cons r l=>
  have e:((((r::l).length:Nat):Int)==0)=false:=by simp;omega
  have e2:decide (r::l≠[])=true:=by simp
  rw[l6 (by omega) (by omega) (by omega),e,e2];simp;cases hr:cJ (r::l)with
  |false=>rfl
  |true=>
   simp;rw[adM (by simp) (tX hr).1 hl hn];rfl
theorem CG{V O:Type}{step:V->Option (V⊕O)}(f:Nat->V){s:V}(N:Nat)(o:O)(h0:s=f 0)
 (h1:∀i,i<N->step (f i)=some (.inl (f (i+1)))) (h2:step (f N)=some (.inr o)) (n:Nat) (hn:N<n):iter step n s=some o:=by rw[h0];exact mR f N o h1 h2 n hn
def tb(f:Nat->Nat->Bool):List Bool:=(List.range 144).map λi=>f (i/12) (i%12)
def upd(f:Nat->Nat->Bool)(a b:Nat)(v:Bool):Nat->Nat->Bool:=λx y=>if x=a/\y=b then v else f x y
def an9(p:Nat->Bool):Bool:=(List.range 12).any p
def OS(w:Nat->Nat->Bool):Nat->Nat->Bool:=λa c=>w a c || an9 λb=>w a b&&w b c
inductive Tc(e:Nat->Nat->Bool):Nat->Nat->Prop
 |one {a b:Nat}:a<12->b<12->e a b=true->Tc e a b
 |trans {a b c:Nat}:Tc e a b->Tc e b c->Tc e a c
theorem Tc.lt{e:Nat->Nat->Bool}{a b:Nat}(h:Tc e a b):a<12/\b<12:=by
 induction h with
 |one h1 h2 _=>exact⟨h1,h2⟩
 |trans _ _ i1 i2=>exact⟨i1.1,i2.2⟩
def dY(v:aD):au:=au.mk v.bj v.bz v.be v.bx
def okV(v:aD):Bool:=en (dY v)&&(decide (0<=v.cx)&&(decide (v.cx<v.cz)&&(decide (v.cz<=4096)&&((decide (v.use=0) || decide (v.units=0))&&(decide (0<=v.use)&&(decide (v.use<6)&&(decide (0<=v.units)&&decide (v.units<=1048576))))))))
theorem pU(v:aD):fH v=some (okV v):=by
 unfold fH okV;rw[jG];have e1:decide (v.cx<0)=!decide (0<=v.cx):=by rw[<- decide_not,decide_eq_decide];omega
 have e2:decide (v.cx>=v.cz)=!decide (v.cx<v.cz):=by rw[<- decide_not,decide_eq_decide];omega
 have e3:decide (v.cz>4096)=!decide (v.cz<=4096):=by rw[<- decide_not,decide_eq_decide];omega
 have e4:(v.use !=0)=!decide (v.use=0):=by by_cases h:v.use=0<;>simp[h]
 have e5:(v.units !=0)=!decide (v.units=0):=by by_cases h:v.units=0<;>simp[h]
 rw[e1,e2,e3,e4,e5,show au.mk v.bj v.bz v.be v.bx=dY v from rfl];simp;generalize en (dY v)=a1;generalize decide (0<=v.cx)=a2;generalize decide (v.cx<v.cz)=a3;generalize decide (v.cz<=4096)=a4;generalize decide (v.use=0)=a5;generalize decide (v.units=0)=a6;generalize decide (0<=v.use)=a7;generalize decide (v.use<6)=a8;generalize decide (0<=v.units)=a9;generalize decide (v.units<=1048576)=jz;cases a1<;>cases a2<;>cases a3<;>cases a4<;>cases a5<;>cases a6<;>cases a7<;>cases a8<;>cases a9<;>rfl
theorem Ip{v:aD}(h:okV v=true):en (dY v)=true:=by rw[okV,bC]at h;exact h.1
def b8(d:aG):List aD:=d.phases.flatMap (·.az)
theorem ev{l:List fA}(h:∀p∈l,p.az.length<=1000):(l.flatMap (·.az)).length<=l.length*1000:=by
 induction l with
 |nil=>simp
 |cons p l ih=>
  have h1:=h p (by simp);have h2:=ih λq hq=>h q (by simp[hq]);simp only[List.flatMap_cons,fO,gH];omega
def yR(d:aG):Prop:=d.phases.length<=1000/\∀p∈d.phases,p.az.length<=1000
theorem WB{d:aG}(h:yR d)(hn:1001<=n):nU n d 0 d.phases.length=some (b8 d):=by
 obtain⟨h1,h2⟩:=h;unfold nU;have key:=CG (step:=nH d 0 d.phases.length) (λ i=>(i,(d.phases.take i).flatMap (·.az))) (s:=(0,[])) d.phases.length (b8 d) rfl (λ i hi=>by
  have e2:decide (i>=0)=true:=by simp
  have hl:=ev (l:=d.phases.take i) λp hp=>h2 p (List.mem_of_mem_take hp);rw[length_take]at hl;have hv:=h2 _ (getElem_mem hi);generalize hL:(d.phases.take i).flatMap (·.az)=L at hl;have hap:bL L.length L.length d.phases[i].az.length d.phases[i].az.length 72=true:=eG (by omega) (by simp[maxLen];omega);simp only[nH,dR hi,aj,bE hi,ai,e2,hap,gD,aN,aY i];rw[kC hi,List.flatMap_append,hL];simp) (by simp[nH,b8]) n (by omega)
 have hz:aE 0 ([]:List aD).length=true:=rfl;simp[key]
def NO(v:aD):Int:=(lG v).getD 0
theorem WC(v:aD):lG v=some (NO v):=by unfold NO lG;rw[pU];cases v.extra<;>cases okV v<;>rfl
def PN(v:aD):Int:=(oD v).getD 0
theorem adO(v:aD):oD v=some (PN v):=by
 unfold PN oD;rw[pU,WC];cases h:okV v with
 |false=>rfl
 |true=>
  have e:=CF (Ip h);unfold dY at e;simp[e]
def Hk(f:aD->Int)(l:List aD):Int:=l.foldl (λ s v=>i64.wrap (s+f v)) 0
def PT(f:aD->Int)(l:List aD):Int:=l.foldl (λ s v=>max s (f v)) 0
theorem anu a1 a8 {a9:List aD} (hl:a9.length<=1000) (hn:1001<=n):∀a0 a2 a3 a4 a5 a6 a7,kT n a0 a1 a2 a3 a4 a5 a6 a7 a8 a9=some (Hk PN a9,a0,a1,a2,a3,a4,a5,a6,a7,a8,a9):=by have key:=lu (l:=a9) (step:=jQ a9) (λ i s=>(s,i)) (λ v s=>i64.wrap (s+PN v)) (λ s=>s) (λ i hi s=>by simp only[jQ,dR hi,aj,aW hi,bJ hi,ai,adO,aY i]) (λ s=>by simp[jQ]) n (by omega) 0;rw[ll]at key;unfold kT qz;simp only[key,ai,aN,aj];exact λ_ _ _ _ _ _ _=>rfl
theorem anv a1 a8 {a9:List aD} (hl:a9.length<=1000) (hn:1001<=n):∀a0 a2 a3 a4 a5 a6 a7,kU n a0 a1 a2 a3 a4 a5 a6 a7 a8 a9=some (Hk (·.units) a9,a0,a1,a2,a3,a4,a5,a6,a7,a8,a9):=by have key:=lu (l:=a9) (step:=jT a9) (λ i s=>(s,i)) (λ v s=>i64.wrap (s+v.units)) (λ s=>s) (λ i hi s=>by simp only[jT,dR hi,aj,aW hi,bJ hi,ai,oH,aY i]) (λ s=>by simp[jT]) n (by omega) 0;rw[ll]at key;unfold kU qC;simp only[key,ai,aN,aj];exact λ_ _ _ _ _ _ _=>rfl
theorem akZ a1 a8 {a9:List aD} (hl:a9.length<=1000) (hn:1001<=n):∀a0 a2 a3 a4 a5 a6 a7,jR n a0 a1 a2 a3 a4 a5 a6 a7 a8 a9=some (PT NO a9,a0,a1,a2,a3,a4,a5,a6,a7,a8,a9):=by have key:=lu (l:=a9) (step:=iq a9) (λ i s=>(s,i)) (λ v s=>max s (NO v)) (λ s=>s) (λ i hi s=>by simp only[iq,dR hi,aj,aW hi,bJ hi,ai,WC,aY i]) (λ s=>by simp[iq]) n (by omega) 0;rw[ll]at key;unfold jR mF;simp only[key,ai,aN,aj];exact λ_ _ _ _ _ _ _=>rfl
theorem ak0 a1 a8 {a9:List aD} (hl:a9.length<=1000) (hn:1001<=n):∀a0 a2 a3 a4 a5 a6 a7,jS n a0 a1 a2 a3 a4 a5 a6 a7 a8 a9=some (PT (·.cz) a9,a0,a1,a2,a3,a4,a5,a6,a7,a8,a9):=by have key:=lu (l:=a9) (step:=iw a9) (λ i s=>(s,i)) (λ v s=>max s v.cz) (λ s=>s) (λ i hi s=>by simp only[iw,dR hi,aj,aW hi,bJ hi,ai,nJ,aY i]) (λ s=>by simp[iw]) n (by omega) 0;rw[ll]at key;unfold jS mG;simp only[key,ai,aN,aj];exact λ_ _ _ _ _ _ _=>rfl
theorem ai3(e:bD)(a:Jo){u:Int}(h0:0<=u)(h6:u<6):∃b,kM e a u=some b:=by
 obtain⟨k,rfl⟩:∃k:Nat,u=k:=⟨u.toNat,by omega⟩;have hk:k<6:=by omega
 unfold kM;rw[aW hk,bE (l:=[a.a0,a.a1,a.a2,a.a3,a.a4,a.a5]) hk];exact⟨_,rfl⟩
theorem EK{l:List bD}{φ:(bD×Unit)->Option Bool}(p:bD->Bool)(h:∀x∈l,φ (x,())=some (p x))(hl:l.length<=9223372036854775807)(hn:l.length<n):kN n l φ=some (AQ p l):=Fa p h hl hn
theorem anw(p:bZ){u:Int}(h0:0<=u)(h6:u<6)(ht:p.tables.length<n)(ht2:p.tables.length<=9223372036854775807)(hr:∀t∈p.tables,t.rows.length<n/\t.rows.length<=9223372036854775807):∃r,Aa n p u=some r:=by
 have key:∃o,iter (kP n p u) n 0=some o/\True:=by
  have step:∀i (hi:i<p.tables.length),kP n p u i=some (.inl (i+1:Nat))\/∃z,kP n p u i=some (.inr (.inr z)):=by
   intro i hi;obtain⟨r1,r2⟩:=hr _ (getElem_mem hi);simp only[kP,dR hi,aj,bE hi,ai,aY i];cases ByteArray.toList p.tables[i].name==ByteArray.toList ⟨#[116,114,97,102,102,105,99]⟩with
   |false=>exact Or.inl rfl
   |true=>
    right;simp;generalize Jo.mk _ _ _ _ _ _=A;have hx:=EK (n:=n) (l:=p.tables[i].rows) (φ:=λy1=>kM y1.1 A u) (λ e=>(kM e A u).getD false) (λ e _=>by have⟨b,hb⟩:=ai3 e A h0 h6;simp[hb]) r2 r1;rw[hx];simp[wY];cases hany:p.tables[i].rows.any λe=>(kM e A u).getD false with
    |false=>exact⟨_,rfl⟩
    |true=>
     have⟨j,hj,h1,_⟩:=akj hany;rw[h1];simp only[aj,bE hj,ai];exact⟨_,rfl⟩
  have main:∀k i m,i+k=p.tables.length->k<m->∃o,iter (kP n p u) m i=some o/\True:=by
   intro k
   induction k with
   |zero=>
    intro i m hi hm;obtain⟨q,rfl⟩:∃q,m=q+1:=⟨m-1,by omega⟩;have:i=p.tables.length:=(by omega);subst this;exact⟨.inl (),bW (by simp[kP]),trivial⟩
   |succ k ih=>
    intro i m hi hm;obtain⟨q,rfl⟩:∃q,m=q+1:=⟨m-1,by omega⟩;rcases step i (by omega)with h|⟨z,h⟩;rw[dI h];exact ih (i+1) q (by omega) (by omega);exact⟨_,bW h,trivial⟩
  exact main p.tables.length 0 n (by omega) ht
 obtain⟨o,h1,_⟩:=key;unfold Aa;rw[h1];cases o with
 |inl w|inr r=>exact⟨_,rfl⟩
theorem af0(p:bZ){v:aD}(hv:okV v=true)(ht:p.tables.length<n)(ht2:p.tables.length<=9223372036854775807)(hr:∀t∈p.tables,t.rows.length<n/\t.rows.length<=9223372036854775807):∃r,jE n p v=some r:=by
 simp[okV]at hv;have⟨r,h1⟩:=anw (n:=n) p (u:=v.use) hv.2.2.2.2.2.1 hv.2.2.2.2.2.2.1 ht ht2 hr;unfold jE;rw[h1,adO];simp;have e100:(100 !=0)=true:=rfl;by_cases h:r>0;have e:(r !=0)=true:=by simp;omega
 have e2:decide (r>0)=true:=by simpa using h
 rw[e,e2];simp;cases decide (PN v>i64.wrap (Int.tdiv 109951162777600 r))<;>exact⟨_,rfl⟩;have e2:decide (r>0)=false:=by simpa using h
 rw[e2];exact⟨_,rfl⟩
def amO(n:Nat)(ts:List cB)(v:aD):Int:=(jE n (bZ.mk [] ts [] [] [] [] [] 0) v).getD 0
theorem anx a1 a8 {a9:List aD} (hl:a9.length<=1000) (hn:1001<=n) (hv:∀v∈a9,okV v=true) (ht:a1.length<n) (ht2:a1.length<=9223372036854775807) (hr:∀t∈a1,t.rows.length<n/\t.rows.length<=9223372036854775807):∀a0 a2 a3 a4 a5 a6 a7,jB n a0 a1 a2 a3 a4 a5 a6 a7 a8 a9=some (Hk (amO n a1) a9,a0,a1,a2,a3,a4,a5,a6,a7,a8,a9):=by have key:=λa0 a2 a3 a4 a5 a6 a7=>gq (l:=a9) (step:=jV n a9) (λ i s=>(s,i,a0,a1,a2,a3,a4,a5,a6,a7,a8,a9)) (λ v s=>i64.wrap (s+(jE n (bZ.mk [] a1 [] [] [] [] [] 0) v).getD 0)) (λ s=>(s,a0,a1,a2,a3,a4,a5,a6,a7,a8,a9)) (λ _ _=>True) (λ i hi s _=>⟨by obtain⟨r,h1⟩:=af0 (n:=n) (bZ.mk [] a1 [] [] [] [] [] 0) (hv _ (getElem_mem hi)) ht ht2 hr;have h2:jE n (bZ.mk a0 a1 a2 a3 a4 a5 a6 a7) a9[i]=some r:=h1;simp only[jV,dR hi,aj,aW hi,bJ hi,ai,kQ,h1,h2,aN,aY i,Option.getD_some],trivial⟩) (λ s _=>by simp[jV]) n (by omega) 0 trivial;have key:=λa0 a2 a3 a4 a5 a6 a7=>(ll) ▸ key a0 a2 a3 a4 a5 a6 a7;unfold jB qD;simp only[key,ai,aN,aj];exact λ_ _ _ _ _ _ _=>rfl
theorem ak1{α β:Type}(l:List α)(f:α->β)(z:β){i:Nat}(hi:i<l.length):((l.take i).map f++List.replicate (l.length-i) z).set i (f l[i])=(l.take (i+1)).map f++List.replicate (l.length-(i+1)) z:=by
 have h1:((l.take i).map f).length=i:=by simp;omega
 rw[List.set_append_right _ _ (by omega),h1,Nat.sub_self,show l.length-i=(l.length-(i+1))+1 by omega,List.replicate_succ,List.set_cons_zero,kC hi,map_append,aT];rfl
theorem ak2{α β:Type}(l:List α)(f:α->β)(z:β){i:Nat}(hi:i<=l.length):((l.take i).map f++List.replicate (l.length-i) z).length=l.length:=by simp;omega
theorem ak3{α β:Type}(l:List α)(f:α->β)(z:β){i:Nat}(hi:i<l.length):((l.take (i+1)).map f++List.replicate (l.length-(i+1)) z)[i]? =some (f l[i]):=by rw[List.getElem?_append_left (by simp;omega)];simp[hi]
theorem ak4{l:List aD}(hl:l.length<=1000)(hn:1001<=n):iter (gK l) n (0,List.replicate l.length (au.mk 0 0 0 0),[])=some (l.map dY,l.flatMap λv=>[v.bj,v.be]):=by
 refine CG (step:=gK l) (λ i=>(i,(l.take i).map dY++List.replicate (l.length-i) (au.mk 0 0 0 0),(l.take i).flatMap λv=>[v.bj,v.be])) l.length _ ?_ (λ i hi=>?_) ?_ n (by omega);simp;have h1:=ak2 l dY (au.mk 0 0 0 0) (Nat.le_of_lt hi);have h2:=ak1 l dY (au.mk 0 0 0 0) hi;have h3:=ak3 l dY (au.mk 0 0 0 0) hi;have h4:((l.take i).flatMap λv=>[v.bj,v.be]).length=2*i:=by
  have:∀m:List aD,(m.flatMap λv=>[v.bj,v.be]).length=2*m.length:=by
   intro m;induction m with
   |nil=>rfl
   |cons a m ih=>simp[ih];omega
  rw[this,length_take];omega
 generalize (l.take i).map dY++List.replicate (l.length-i) (au.mk 0 0 0 0)=B at h1 h2;have e0:(((0:Nat):Int)+i).toNat=i:=by omega
 have et:(l.length:Int).toNat=l.length:=by omega
 have hb:au.mk l[i].bj l[i].bz l[i].be l[i].bx=dY l[i]:=rfl;have hiB:i<B.length:=by omega
 rw[<- h2]at h3;have g3:bu (B.set i (dY l[i])) ((0:Nat)+i)=some (dY l[i]):=by rw[oM];exact h3
 have hs:sub ([(dY l[i]).x0,(dY l[i]).x1]:List Int) 0 2=[(dY l[i]).x0,(dY l[i]).x1]:=rfl;have hap:bL (2*i) (2*i) 2 2 8=true:=eG (by omega) (by simp[maxLen];omega);have hl2:([(dY l[i]).x0,(dY l[i]).x1]:List Int).length=2:=rfl;simp only[gK,dR hi,aj,aW hi,bJ hi,ai,et,bJ hiB,e0,hb,g3,hs,hl2,h4,hap,gD,aN,aY i];rw[<- h2,kC hi,List.flatMap_append];rfl;simp only[gK,V5,ay,aN,aj,List.take_length];simp
def cst(x w:Int)(s:Int×Int)(r:au):Int×Int:=
 bif decide (r.x0<=x)&&(decide (x<r.x1)&&decide (r.y1>s.2))then(i64.wrap (s.1+i64.wrap (i64.wrap w*i64.wrap (r.y1-max s.2 r.y0))),r.y1)else s
def PR(R:List au)(X:List Int)(n:Int)(k:Nat):Int:=(R.foldl (cst (X.getD k 0) (X.getD (k+1) 0-X.getD k 0)) (n,0)).1
def af2(R:List au)(X:List Int):Int:=(List.range (X.length-1)).foldl (PR R X) 0
def S0(l:List aD):Int:=af2 (rR wv (l.map dY)) (kL ot (l.flatMap λv=>[v.bj,v.be]))
theorem ak5{l:List aD}{R:List au}{X:List Int} w2 (hR:R.length=l.length) (hX:X.length=w2.length) (hl:l.length<=1000) (hn:1001<=n) {k:Nat} (hk:k+1<w2.length) (hw:w2.length<=10000) s:iter (gL l w2 R X k) n (s,0,0)=some (PR R X s k):=by
 have et:((l.length:Int).toNat)=l.length:=by omega
 have ew:i64.wrap (k+1)=(k+1:Nat):=aQ (by omega);have g1:X.getD k 0=X[k]'(by omega):=by simp[show k<X.length by omega]
 have g2:X.getD (k+1) 0=X[k+1]'(by omega):=by simp[show k+1<X.length by omega]
 unfold PR;rw[g1,g2];refine lu (l:=R) (step:=gL l w2 R X k) (λ i (s:Int×Int)=>(s.1,s.2,i)) (λ r s=>cst (X[k]'(by omega)) (X[k+1]'(by omega)-X[k]'(by omega)) s r) (λ s=>s.1) (λ i hi v=>?_) (λ v=>?_) n (by omega) (s,0);obtain⟨a,b⟩:=v;simp only[gL,et,dR (show i<l.length by omega),aj,aW (show i<l.length by omega),bJ (show i<R.length by omega),ai,aW (show k<w2.length by omega),bJ (show k<X.length by omega),ew,aW hk,bJ (show k+1<X.length by omega),aY i,cst];cases decide ((R[i]'(by omega)).x0<=X[k]'(by omega))with
 |false=>rfl
 |true=>
  simp;cases decide (X[k]'(by omega)<(R[i]'(by omega)).x1)with
  |false=>rfl
  |true=>
   cases decide ((R[i]'(by omega)).y1>b)<;>rfl
 obtain⟨a,b⟩:=v;simp[gL,hR]
theorem ak6 a1 a8 {a9:List aD} (hl:a9.length<=1000) (hn:10000<=n):∀a0 a2 a3 a4 a5 a6 a7,iV n a0 a1 a2 a3 a4 a5 a6 a7 a8 a9=some (S0 a9,a0,a1,a2,a3,a4,a5,a6,a7,a8,a9):=by
 have et:((a9.length:Int).toNat)=a9.length:=by omega
 have mk:uy (a9.length:Nat) 32=true:=ahH (by omega) (by simp[maxLen];omega);have d1:decide ((a9.length:Nat)<=(a9.length:Nat))=true:=by simp
 have d2:decide (0<=(a9.length:Nat))=true:=by simp
 have hz:aE 0 ([]:List Int).length=true:=rfl;have hx:(a9.flatMap λv=>[v.bj,v.be]).length<=2000:=by
  have:∀m:List aD,(m.flatMap λv=>[v.bj,v.be]).length=2*m.length:=by
   intro m;induction m with
   |nil=>rfl
   |cons a m ih=>simp[ih];omega
  rw[this];omega
 unfold iV;rw[et,ak4 hl (by omega)];unfold S0;generalize (a9.flatMap λv=>[v.bj,v.be])=W at hx;have srt:=JE (n:=n) (l:=a9.map dY) (φ:=λy1=>iU y1.1 y1.2.1) (λ x y=>if x.y0<y.y0 then -1 else if y.y0<x.y0 then 1 else 0) (λ x y=>by show iU x y=_;unfold iU;rw[jb];rfl) (λ x y=>by unfold wv;rw[decide_eq_decide];constructor;intro h;split at h;assumption;split at h<;>omega;intro h;rw[aX h];decide) (by simp;omega) (by simp;omega);have hm:aE a9.length (a9.map dY).length=true:=by simp
 have hR:(rR wv (a9.map dY)).length=a9.length:=by rw[Ee ahJ];simp
 have hX:(kL ot W).length=W.length:=(Eg ot W).length_eq;simp[mk,srt,pQ (show W.length<1099511627776 by omega) (show W.length<n by omega)];generalize rR wv (a9.map dY)=R at hR;generalize kL ot W=X at hX;have key:iter (gM n a9 W R X) n (0,0)=some (af2 R X):=by
  have eN:max 0 (i64.wrap ((W.length:Nat)-1))=(W.length-1:Nat):=by
   cases h:W.length with
   |zero=>rfl
   |succ k=>rw[mY (by omega) (by omega)];omega
  have hrl:(List.range (X.length-1)).length=W.length-1:=by rw[List.length_range];omega
  unfold af2;refine lu (l:=List.range (X.length-1)) (step:=gM n a9 W R X) (λ i s=>(s,i)) (λ k s=>PR R X s k) (λ s=>s) (λ i hi s=>?_) (λ s=>?_) n (by omega) 0;have hi':i<W.length-1:=by omega
  simp only[gM,eN,dR hi',aj,ak5 (n:=n) (l:=a9) (R:=R) (X:=X) W hR hX hl (by omega) (k:=i) (by omega) (by omega) s,ai,aY i,List.getElem_range];simp[gM,eN,hrl]
 rw[key];exact λ_ _ _ _ _ _ _=>rfl
def NL(b:au)(k:Int):au:=⟨b.x0-k,b.y0-k,b.x1+k,b.y1+k⟩
def EL(area:List au)(b:au)(k:Int):Bool:=en (NL b k)&&decide (area.foldl (λ s y=>Wu (NL b k) s y) 0=N0 (NL b k))
theorem ai4(b:au) k a2 a3 a4 a5 a6 a7 a8 a9 {jz:List au} ta (hb:en b=true) (h0:0<=k) (h1:k<=1048576) (hl:jz.length<=1000) (hn:1001<=n):
 jU n b k a2 a3 a4 a5 a6 a7 a8 a9 jz ta=some (EL jz b k,a2,a3,a4,a5,a6,a7,a8,a9,jz,ta):=by
 rw[amh]at hb;unfold jU AX EL;rw[aO (x:=b.x0-k),aO (x:=b.y0-k),aO (x:=b.x1+k),aO (x:=b.y1+k),show au.mk (b.x0-k) (b.y0-k) (b.x1+k) (b.y1+k)=NL b k from rfl,jG];generalize NL b k=g;simp;cases hg:en g with
 |false=>simp
 |true=>
  have key:=lu (l:=jz) (step:=iQ jz (g,true)) (λ i s=>(s,i)) (λ y s=>Wu g s y) (λ s=>s) (λ i hi s=>by
   simp only[iQ,dR hi,aj,bE hi,ai,yQ,aY i,Wu];cases h1:en g with
   |false=>rfl
   |true=>
    cases h2:en jz[i]with
    |false=>rfl
    |true=>
     cases h3:en (Ff g jz[i])with
     |false=>rfl
     |true=>simp[CF h3]) (λ s=>by simp[iQ]) n (by omega) 0
  rw[ll]at key;simp[key,CF hg];congr 2
def PO(p:Int->Bool):Nat->Int->Int->Int
 | 0,lo,_=>lo
 |k+1,lo,hi=>bif decide (lo<hi)then(bif p ((lo+hi+1)/2)then PO p k ((lo+hi+1)/2) hi else PO p k lo ((lo+hi+1)/2-1))else lo
theorem abm(p:Int->Bool):∀k lo hi,lo<=hi->lo<=PO p k lo hi/\PO p k lo hi<=hi
 | 0,lo,hi,h=>by simp[PO];omega
 |k+1,lo,hi,h=>by
  simp[PO];by_cases h1:lo<hi;have e:decide (lo<hi)=true:=by simpa using h1
  rw[e,aj];cases p ((lo+hi+1)/2)with
  |true=>have:=abm p k ((lo+hi+1)/2) hi (by omega);simp;omega
  |false=>have:=abm p k lo ((lo+hi+1)/2-1) (by omega);simp;omega
  have e:decide (lo<hi)=false:=by simpa using h1
  rw[e,ay];omega
theorem af3{v:aD}(hv:en (dY v)=true) a2 a3 a4 a5 a6 a7 a8 a9 {jz:List au} ta (hl:jz.length<=1000) (hn:1001<=n):
 ∀(k:Nat) lo hi m,0<=lo->lo<=hi->hi<=1048576->hi-lo<2 ^ k->k<m->iter (eH n v) m (lo,hi,a2,a3,a4,a5,a6,a7,a8,a9,jz,ta)=some (PO (EL jz (dY v)) k lo hi,a2,a3,a4,a5,a6,a7,a8,a9,jz,ta):=by
 intro k
 induction k with
 |zero=>
  intro lo hi m h0 h1 h2 h3 hm;obtain⟨q,rfl⟩:∃q,m=q+1:=⟨m-1,by omega⟩;have:lo=hi:=by simp at h3;omega
  subst this;refine bW ?_;have e:decide (lo<lo)=false:=by simp
  simp[eH,PO]
 |succ k ih=>
  intro lo hi m h0 h1 h2 h3 hm;obtain⟨q,rfl⟩:∃q,m=q+1:=⟨m-1,by omega⟩;have hp:(2:Int) ^ (k+1)=2*2 ^ k:=by rw[Int.pow_succ];omega
  rw[hp]at h3;by_cases hlt:lo<hi;have e:decide (lo<hi)=true:=by simpa using hlt
  have e2:((2:Nat) !=0)=true:=rfl;have em:i64.wrap (Int.tdiv (i64.wrap (i64.wrap (lo+hi)+1)) 2)=(lo+hi+1)/2:=by rw[aO (x:=lo+hi),aO (x:=lo+hi+1),Int.tdiv_eq_ediv_of_nonneg (by omega),aO (by omega) (by omega)]
  have hi2:=ai4 (n:=n) (dY v) ((lo+hi+1)/2) a2 a3 a4 a5 a6 a7 a8 a9 (jz:=jz) ta hv (by omega) (by omega) hl hn;unfold dY at hi2;cases hc:EL jz (dY v) ((lo+hi+1)/2)with
  |true=>
   rw[dI (v':=((lo+hi+1)/2,hi,a2,a3,a4,a5,a6,a7,a8,a9,jz,ta)) (by unfold dY at hc;simp[eH,e,em,hi2,hc]),ih _ _ _ (by omega) (by omega) (by omega) (by omega) (by omega)];simp[PO,e,hc]
  |false=>
   rw[dI (v':=(lo,(lo+hi+1)/2-1,a2,a3,a4,a5,a6,a7,a8,a9,jz,ta)) (by unfold dY at hc;simp[eH,e,em,hi2,hc,aO (x:=(lo+hi+1)/2-1)]),ih _ _ _ (by omega) (by omega) (by omega) (by omega) (by omega)];simp[PO,e,hc]
  have e:decide (lo<hi)=false:=by simpa using hlt
  refine bW ?_;simp[eH,e,PO]
def CJ(area:List au)(l:List aD):Int:=l.foldl (λ b v=>PO (EL area (dY v)) 21 0 b) 1048576
theorem af4 a0 a1 a2 a3 a4 a5 a6 a7 {a8:List au} {a9:List aD} (hv:∀v∈a9,okV v=true) (hl:a9.length<=1000) (h8:a8.length<=1000) (hn:1001<=n):jA n a0 a1 a2 a3 a4 a5 a6 a7 a8 a9=some (CJ a8 a9,a0,a1,a2,a3,a4,a5,a6,a7,a8,a9):=by have key:=gq (l:=a9) (step:=iF n a9) (λ i s=>(s,i,a0,a1,a2,a3,a4,a5,a6,a7,a8,a9)) (λ v s=>PO (EL a8 (dY v)) 21 0 s) (λ s=>(s,a0,a1,a2,a3,a4,a5,a6,a7,a8,a9)) (λ _ s=>0<=s/\s<=1048576) (λ i hi s hs=>by have h1:=af3 (n:=n) (Ip (hv _ (getElem_mem hi))) a0 a1 a2 a3 a4 a5 a6 a7 (jz:=a8) a9 h8 hn 21 0 s n (by omega) hs.1 hs.2 (by have:2 ^ 21=2097152:=rfl;omega) (by omega);have h2:=abm (EL a8 (dY a9[i])) 21 0 s hs.1;refine⟨?_,by omega,by omega⟩;simp only[iF,dR hi,aj,aW hi,bJ hi,ai,aN,h1,aY i]) (λ s _=>by simp[iF]) n (by omega) 1048576 (by omega);rw[ll]at key;unfold jA;simp[key];rfl
def gZ(d:aG):List aD:=((b8 d).take 40).filter okV
theorem abn(d:aG):∀v∈gZ d,okV v=true:=λv hv=>(mem_filter.1 hv).2
theorem Yi(d:aG):(gZ d).length<=40:=Nat.le_trans (length_filter_le _ _) (by rw[length_take];omega)
def qP(lot:jK):List au:=bif cJ lot.area then lot.area else []
theorem aoa{l:List aD} a0 a1 a2 a3 a4 a5 a6 a7 a8 (hl:l.length<=9223372036854775807) (hn:l.length<n):
 iter (qK l) n (0,a0,a1,a2,a3,a4,a5,a6,a7,a8,[])=some (a0,a1,a2,a3,a4,a5,a6,a7,a8,(l.take 40).filter okV):=by
 refine CG (step:=qK l) (λ i=>(i,a0,a1,a2,a3,a4,a5,a6,a7,a8,((l.take i).take 40).filter okV)) l.length _ (by simp) (λ i hi=>?_) ?_ n hn;have hlen:(((l.take i).take 40).filter okV).length<=40:=Nat.le_trans (length_filter_le _ _) (by rw[length_take];omega);have e40:decide ((i:Int)<40)=decide (i<40):=by rw[decide_eq_decide];omega
 have hs:sub ([l[i]]:List aD) 0 1=[l[i]]:=rfl;have hN:((l.take (i+1)).take 40).filter okV=((l.take i).take 40).filter okV++(bif decide (i<40)&&okV l[i]then [l[i]]else []):=by
  by_cases h:i<40;have h1:(l.take i).take 40=l.take i:=take_of_length_le (by rw[length_take];omega);have h2:(l.take (i+1)).take 40=l.take (i+1):=take_of_length_le (by rw[length_take];omega);have h3:decide (i<40)=true:=by simpa using h
  rw[h1,h2,kC hi,List.filter_append,h3];cases h4:okV l[i]<;>simp[h4];have h3:decide (i<40)=false:=by simpa using h
  rw[List.take_take,List.take_take,h3,show min 40 (i+1)=40 by omega,show min 40 i=40 by omega];simp
 rw[hN];generalize ((l.take i).take 40).filter okV=L at hlen;have hap:bL L.length L.length 1 1 72=true:=eG (by omega) (by simp[maxLen];omega);simp only[qK,dR hi,aj,aW hi,bJ hi,ai,e40,pU,aY i];cases decide (i<40)with
 |false=>simp
 |true=>
  simp;cases okV l[i]with
  |false=>simp
  |true=>simp[hs,hap]
 simp[qK]
def af5(n:Nat)(p:bZ):Prop:=p.tables.length<n/\p.tables.length<=9223372036854775807/\∀t∈p.tables,t.rows.length<n/\t.rows.length<=9223372036854775807
def CK:ByteArray:=⟨#[115,101,116,98,97,99,107]⟩
def aoc(n:Nat)(ts:List cB)(A:List au)(l:List aD):List bD:=[⟨⟨#[97,114,101,97]⟩,bif cJ A then KS A else 0⟩,⟨⟨#[99,111,118,101,114]⟩,S0 l⟩,⟨⟨#[102,108,111,111,114]⟩,Hk PN l⟩,⟨⟨#[102,108,111,111,114,115]⟩,PT NO l⟩,⟨⟨#[104,101,105,103,104,116]⟩,PT (·.cz) l⟩,⟨⟨#[104,111,109,101,115]⟩,Hk (·.units) l⟩,⟨⟨#[114,117,110,111,102,102]⟩,S0 l⟩,⟨CK,CJ A l⟩,⟨⟨#[116,114,97,102,102,105,99]⟩,Hk (amO n ts) l⟩]
theorem aod{p:bZ}{lot:jK}{d:aG}(hp:af5 n p)(hl:lot.area.length<=900)(hd:yR d)(hn:2000000<=n):∀D Z R C V S H,nK n (bZ.mk D p.tables Z R C V S H) lot d=some (aoc n p.tables (qP lot) (gZ d)):=by
 have hs1:qP lot=(bif cJ lot.area then lot.area else []):=rfl;have hsl:(qP lot).length<=900:=by unfold qP;cases cJ lot.area<;>simp[hl]
 have hvl:=Yi d;have GG:=abn d;have hfl:=ev hd.2;have hd1:=hd.1;obtain⟨hp1,hp2,hp3⟩:=hp;have hz:aE 0 ([]:List aD).length=true:=rfl;have It:∀D Z R C V S H,((bif cJ lot.area then some (D,p.tables,Z,R,C,V,S,H,lot.area)else some (D,p.tables,Z,R,C,V,S,H,[])):Option ((List gI)×(List cB)×(List fD)×(List cu)×(List jd)×(List gU)×(List dn)×Int×(List au)))=some (D,p.tables,Z,R,C,V,S,H,qP lot):=by intro D Z R C V S H;rw[hs1];cases cJ lot.area<;>rfl
 have h2:=ak6 (n:=n) p.tables (qP lot) (a9:=gZ d) (by omega) (by omega);have h3:=anu (n:=n) p.tables (qP lot) (a9:=gZ d) (by omega) (by omega);have h4:=akZ (n:=n) p.tables (qP lot) (a9:=gZ d) (by omega) (by omega);have h5:=ak0 (n:=n) p.tables (qP lot) (a9:=gZ d) (by omega) (by omega);have h6:=anv (n:=n) p.tables (qP lot) (a9:=gZ d) (by omega) (by omega);have h8:=λD Z R C V S H=>af4 (n:=n) D p.tables Z R C V S H (a8:=qP lot) (a9:=gZ d) GG (by omega) (by omega) (by omega);have h9:=anx (n:=n) p.tables (qP lot) (a9:=gZ d) (by omega) (by omega) GG hp1 hp2 hp3;intro D Z R C V S H;unfold nK;rw[l6 (by omega) (by omega) (by omega),WB hd (by omega)];simp[It];rw[aoa (n:=n) D p.tables Z R C V S H (qP lot) (by show(b8 d).length<=_;unfold b8;omega) (by show(b8 d).length<_;unfold b8;omega)];have hr:((b8 d).take 40).filter okV=gZ d:=rfl;have s1:∀e:bD,sub ([e]:List bD) 0 1=[e]:=λ_=>rfl;have ap:∀k,k<=20->bL k k 1 1 24=true:=λk hk=>eG (by omega) (by simp[maxLen];omega);have lot:mV n D p.tables Z R C V S H (qP lot) (gZ d)=some (bif cJ (qP lot)then KS (qP lot)else 0,D,p.tables,Z,R,C,V,S,H,qP lot,gZ d):=by unfold mV;rw[Wo (by omega) (by omega)];simp
 simp[hr,lot,h2,h3,h4,ap 4 (by omega),h5,ap 5 (by omega),h6,ap 6 (by omega),h8,ap 7 (by omega),h9,ap 8 (by omega),Nat.reduceAdd,iP];rfl
theorem anz{p:bZ}{lot:jK}{d:aG}(hp:af5 n p)(hl:lot.area.length<=900)(hd:yR d)(hn:2000000<=n):∃e1 e2 e3 e4 e5 e6 e7 e8:Int,∀D Z R C V S H,nK n (bZ.mk D p.tables Z R C V S H) lot d=some [⟨⟨#[97,114,101,97]⟩,e1⟩,⟨⟨#[99,111,118,101,114]⟩,e2⟩,⟨⟨#[102,108,111,111,114]⟩,e3⟩,⟨⟨#[102,108,111,111,114,115]⟩,e4⟩,⟨⟨#[104,101,105,103,104,116]⟩,e5⟩,⟨⟨#[104,111,109,101,115]⟩,e6⟩,⟨⟨#[114,117,110,111,102,102]⟩,e7⟩,⟨CK,CJ (qP lot) (gZ d)⟩,⟨⟨#[116,114,97,102,102,105,99]⟩,e8⟩]:=⟨_,_,_,_,_,_,_,_,aod (n:=n) hp hl hd hn⟩
theorem aoe{p:bZ}{lot:jK}{d:aG}(hp:af5 n p)(hl:lot.area.length<=900)(hd:yR d)(hn:2000000<=n):∃e1 e2 e3 e4 e5 e6 e7 e8:Int,∀R:List cu,nK n (bZ.mk p.defs p.tables p.zones R p.caps p.views p.vl p.hours) lot d=some [⟨⟨#[97,114,101,97]⟩,e1⟩,⟨⟨#[99,111,118,101,114]⟩,e2⟩,⟨⟨#[102,108,111,111,114]⟩,e3⟩,⟨⟨#[102,108,111,111,114,115]⟩,e4⟩,⟨⟨#[104,101,105,103,104,116]⟩,e5⟩,⟨⟨#[104,111,109,101,115]⟩,e6⟩,⟨⟨#[114,117,110,111,102,102]⟩,e7⟩,⟨CK,CJ (qP lot) (gZ d)⟩,⟨⟨#[116,114,97,102,102,105,99]⟩,e8⟩]:=by have⟨e1,e2,e3,e4,e5,e6,e7,e8,h⟩:=anz (n:=n) hp hl hd hn;exact⟨e1,e2,e3,e4,e5,e6,e7,e8,λR=>h _ _ R _ _ _ _⟩
theorem ahL(ds:List (ByteArray×ET)) s:∀(k:Nat) i,Mw ds s k=some i->0<=i/\i<k
 | 0,i,h=>by simp[Mw]at h
 |k+1,i,h=>by simp[Mw]at h;split at h;cases h;omega;have:=ahL ds s k i h;omega
theorem amk{ds:List (ByteArray×ET)}(h:rm ds<=4000000):Yc (oG ds) ds.length:=by have hl:=Tx ds;refine⟨by simp[oG],by omega,λl hl=>?_⟩;simp only[oG,mem_map]at hl;obtain⟨d,hd,rfl⟩:=hl;have h1:=Ty hd;have h2:=ET.oY d.2;have h3:=adi d.2.names;refine⟨Nat.le_trans (List.length_filterMap_le _ _) (by omega),λk hk=>?_⟩;simp[iD]at hk;obtain⟨s,_,hk⟩:=hk;exact ahL ds s _ k hk
theorem adQ{M:List ByteArray}(hM:M.length<=1000)(hn:1001<=n)(w0:List (ByteArray×Bool)):∃w,iter (nW M) n (0,w0)=some w:=by obtain⟨o,h,_⟩:=eO (step:=nW M) (λ i (v:Int×List (ByteArray×Bool))=>∃w,v=((i:Int),w)/\i<=M.length) (λ _=>True) M.length (λ k v ⟨_,_,h⟩=>h) (by rintro i v ⟨w,rfl,hi⟩;by_cases hlt:i<M.length;simp only[nW,show decide ((i:Int)<M.length)=true from by simp;omega,aj,aW hlt,bJ hlt,ai,aY i];exact .inl ⟨_,rfl,_,rfl,hlt⟩;simp only[nW,show decide ((i:Int)<M.length)=false from by simp;omega,ay];exact .inr ⟨_,rfl,trivial⟩) n 0 (0,w0) ⟨_,rfl,Nat.zero_le _⟩ (by omega);exact⟨o,h⟩
theorem adR{p:bZ}(hp:p.defs.length<=4000000)(hn:4000001<=n)(w0:List (ByteArray×Bool)):iter (lI p) n (0,w0)=some (.inl ())\/iter (lI p) n (0,w0)=some (.inr ([],[],5)):=by
 obtain⟨o,h,h2⟩:=eO (step:=lI p) (λ i (v:Int×List (ByteArray×Bool))=>∃w,v=((i:Int),w)/\i<=p.defs.length) (λ o=>o=.inl ()\/o=.inr ([],[],5)) p.defs.length (λ k v ⟨_,_,h⟩=>h) (by
  rintro i v ⟨w,rfl,hi⟩;by_cases hlt:i<p.defs.length;simp only[lI,show decide ((i:Int)<p.defs.length)=true from by simp;omega,aj,bE hlt,ai,aY i];cases (gT Gb.fX p.defs[i].name w).getD false with
  |true=>exact .inr ⟨_,rfl,.inr rfl⟩
  |false=>exact .inl ⟨_,rfl,_,rfl,hlt⟩
  simp only[lI,show decide ((i:Int)<p.defs.length)=false from by simp;omega,ay];exact .inr ⟨_,rfl,.inl rfl⟩) n 0 (0,w0) ⟨_,rfl,Nat.zero_le _⟩ (by omega)
 rcases h2 with rfl|rfl;exact .inl h;exact .inr h
theorem adS:∃M,wI=some M/\M.length=9:=⟨_,rfl,rfl⟩
def gj(l:List gI):Prop:=rm (l.map toD)<=4000000
theorem gj.len{l:List gI}(h:gj l):l.length<=4000000:=by have:=Tx (l.map toD);rw[length_map]at this;unfold gj at h;omega
theorem gj.body{l:List gI}(h:gj l){d:gI}(hd:d∈l):(toE (bR.mk d.iu d.lw d.km d.ii d.ek)).wt<=4000000:=by have h1:=Ty (mem_map.2 ⟨d,hd,rfl⟩:toD d∈l.map toD);unfold gj at h;simp[toD,ET.wt]at h1;simp[toE,ET.wt];omega
theorem RX{p:bZ}(hp:gj p.defs)(hn:5000003<=n):∃r,nN n p=some r/\r.1.length<=p.defs.length/\(∀ k∈r.1,0<=k/\k<p.defs.length)/\r.2.1.length<=p.defs.length+1:=by
 obtain⟨M,hM,hM9⟩:=adS;obtain⟨w,hw⟩:=adQ (n:=n) (M:=M) (by omega) (by omega) [];have hg:Yc (oG (p.defs.map toD)) p.defs.length:=by have:=amk hp;rwa [length_map]at this
 have PB:lH p.defs=some (p.defs,oG (p.defs.map toD)):=by unfold lH;rw[Nat.ble_eq_true_of_le hp];rfl
 simp only[nN,hM,ai,hw];rcases adR (n:=n) (p:=p) hp.len (by omega) w with h|h;have⟨c,hc,hc2,hc3⟩:=adr (n:=n) (a0:=p.defs) hg rfl hn;simp only[h,iJ,PB,ai,hc];cases h0:(c.length==0)with
 |true=>
  have e:c=[]:=List.eq_nil_of_length_eq_zero (by simpa using h0);obtain⟨l,hl,hll,hlr⟩:=akN (n:=n) (a0:=pE.mk p.defs (oG (p.defs.map toD))) hg rfl (hc2 e) (by omega);simp only[aj,ai,ay,hl,iP,aN];exact⟨_,rfl,by simp[hll],hlr,by simp⟩
 |false=>
  simp only[aj,ai,ay,iP,aN];exact⟨_,rfl,by simp,by simp,hc3⟩
 simp only[h,p9];exact⟨_,rfl,by simp,by simp,by simp⟩
theorem CO(x:bR):bR.mk x.op x.n x.s x.key x.args=x:=by cases x;rfl
theorem Nl:∀l:List bR,HY l=l.map toE
 |[]=>rfl
 |x::xs=>by simp[HY,Nl xs]
theorem ahM:∀{l:List ET}{t:ET},t∈l->t.wt<=ET.te l
 |x::l,t,h=>by simp[ET.te];rcases aR.1 h with rfl|h;omega;have:=ahM h;omega
theorem af6{e x:bR}(h:x∈e.args):(toE x).wt<(toE e).wt:=by have h1:(toE x).wt<=ET.te (HY e.args):=ahM (by rw[Nl];exact mem_map.2 ⟨x,h,rfl⟩);cases e;simp[toE,ET.wt]at *;omega
theorem abo(e:bR):e.args.length<(toE e).wt:=by have h1:=ET.qS (HY e.args);rw[Nl,length_map]at h1;cases e;simp[toE,ET.wt,Nl]at *;omega
def VR:Nat->bR->Prop
 | 0,_=>False
 |k+1,e=>yJ e.op=some ((e.args.length:Int),true)/\∀x∈e.args,VR k x
theorem af7 op:∃a b,yJ op=some (a,b):=by simp only[yJ];cases (op==0)<;>cases (op==1)<;>cases (op==2)<;>cases (op==3)<;>cases (op==9)<;>cases (op==15)<;>cases (op==16)<;>cases (decide (op>=0))<;>exact⟨_,_,rfl⟩
theorem ZT(hn:4000002<=n):∀(m:Nat)(e:bR)(a:Int),m<=9223372036854775000->0<=a->a<=12->13<=a+m->(toE e).wt<=4000000->∃r,rW n m e a=some r/\1<=r/\r<=13+m/\(r<=12->VR m e)
 | 0,_,_,_,_,_,h,_=>absurd h (by omega)
 |m+1,e,a,hm,h0,h1,h2,h3=>by
  have⟨x,b,hx⟩:=af7 e.op;have hla:=abo e;show ∃r,Ab n (rW n m) e a=some r/\_;simp[Ab,hx];have bad:∃r,some (13:Int)=some r/\1<=r/\r<=13+(m+1:Nat)/\(r<=12->VR (m+1) e):=⟨13,rfl,by omega,by omega,λh=>absurd h (by omega)⟩;cases b with
  |false=>simpa[Bool.not_false,aj,ai]using bad
  |true=>
   simp;by_cases hxl:x=e.args.length;subst hxl;simp;by_cases ha:a>=12;simpa[ha,decide_true,aj]using bad;simp[ha]
   obtain⟨o,g1,g2,g3,g4⟩:=eO (step:=xB n (rW n m) e a) (λ i (v:Int×Int)=>v.2=i/\i<=e.args.length/\0<=v.1/\v.1<=13+m/\(v.1<=11->∀y∈e.args.take i,VR m y))
    (λ o=>0<=o/\o<=13+m/\(o<=11->∀y∈e.args,VR m y)) e.args.length (λ k v h=>h.2.1) (by rintro i ⟨v2,v3⟩ ⟨hv,hi,i1,i2,i3⟩;simp at hv i1 i2 i3;subst hv;by_cases hlt:i<e.args.length;left;have hwx:=af6 (getElem_mem hlt);obtain⟨r,r1,r2,r3,r4⟩:=ZT hn m e.args[i] (a+1) (by omega) (by omega) (by omega) (by omega) (by omega);refine⟨(max v2 r,(i+1:Nat)),?_,rfl,hlt,by show 0<=max v2 r;omega,by show max v2 r<=_;omega,λh y hy=>?_⟩;simp only[xB,show decide ((i:Int)<e.args.length)=true from by simp;omega,aj,bE hlt,ai,CO,aO (show -9223372036854775808<=a+1 by omega) (show a+1<=9223372036854775807 by omega),r1,aY i];have h':max v2 r<=11:=h;rw[List.take_add_one,dD hlt]at hy;rw[bK]at hy;rcases hy with hy|hy;exact i3 (by omega) y hy;simp at hy;subst hy;exact r4 (by omega);right;refine⟨v2,?_,i1,i2,λh y hy=>i3 h y (by rw[take_of_length_le (by omega)];exact hy)⟩;simp only[xB,show decide ((i:Int)<e.args.length)=false from by simp;omega,ay]) n 0 (0,0) ⟨rfl,Nat.zero_le _,by simp,by show 0<=_;omega,by simp⟩ (by omega)
   simp only[g1,ai];rw[aO (by omega) (by omega)];exact⟨o+1,rfl,by omega,by omega,λh=>⟨hx,g4 (by omega)⟩⟩;simpa[show (x !=(e.args.length:Nat))=true from by simpa using hxl,aj,ai]using bad
theorem Rp(hn:4000002<=n)(hn2:n<=9223372036854775000){e:bR}(h:(toE e).wt<=4000000):∃b,HV n e=some b/\(b=true->VR n e):=by obtain⟨r,h1,h2,h3,h4⟩:=ZT hn n e 0 hn2 (by omega) (by omega) (by omega) h;refine⟨decide (r<=12),?_,λh=>h4 (by simpa using h)⟩;simp[HV,CO,Po,h1]
def aof(tables:List cB)(s key:ByteArray):Int:=match tables.find? λt=>ByteArray.toList t.name==ByteArray.toList s with
 |some t=>an6 t key
 |none=>0
def Sf(ts:List cB):Prop:=ts.length<=4000000/\∀t∈ts,t.rows.length<=4000000
theorem ai5(hn:4000002<=n){a0:List gI}{ts:List cB}{a2:List fD}{a3:List cu}{a4:List jd}{a5:List gU}{a6:List dn}{a7:Int}{zs:List ByteArray}(ht:Sf ts)(e:bR)(kn:List (ByteArray×Int)):jC n a0 ts a2 a3 a4 a5 a6 a7 zs e kn=some (aof ts e.s e.key,kn):=by
 have h1:=ht.1;simp[jC];rw[Fy (λ t=>ByteArray.toList t.name==ByteArray.toList e.s) (λ x _=>rfl) (by omega) (by omega)];simp[aof];rcases Wt (λ t:cB=>ByteArray.toList t.name==ByteArray.toList e.s) ts with ⟨i,hi,h1,h2⟩|⟨h1,h2⟩;rw[h1,h2];have d:decide ((i:Int)<0)=false:=by simp
 have hr:=ht.2 _ (getElem_mem hi);simp[d,bE hi];rw[Fz (λ x=>ByteArray.toList x.name==ByteArray.toList e.key) (λ x _=>rfl) (by omega) (by omega)];simp[an6];rcases Wt (λ x:bD=>ByteArray.toList x.name==ByteArray.toList e.key) ts[i].rows with ⟨j,hj,g1,g2⟩|⟨g1,g2⟩;rw[g1,g2];have d:decide ((j:Nat)>=0)=true:=by simp
 simp[bE hj];rw[g1,g2];rfl;rw[h1,h2];rfl
theorem fq{α:Type}{c:Bool}{x y:Option α}(hx:∃r,x=some r)(hy:∃r,y=some r):∃r,(bif c then x else y)=some r:=by cases c<;>assumption
theorem Yj(a b:Int):∃r,wB a b=some r:=by
 simp[wB];cases h:(b==0)with
 |true=>exact⟨_,rfl⟩
 |false=>
  have:(b !=0)=true:=by simp[bne,h]
  simp[this];cases (Int.tmod a b !=0)<;>cases (decide (Int.tmod a b<0)==decide (b<0))<;>exact⟨_,rfl⟩
theorem WE b:∃r,yK b=some r:=fq ⟨_,rfl⟩ ⟨_,rfl⟩
theorem sj{α β:Type}{x:Option α}{f:α->Option β}(hx:∃r,x=some r)(hf:∀r,∃s,f r=some s):∃s,x.bind f=some s:=by obtain⟨r,rfl⟩:=hx;exact hf r
theorem adT(op a b:Int):∃r,Jr op a b=some r:=by
 have q:=Yj a b;have t:=λc=>WE c;unfold Jr
 repeat' first
  |exact⟨_,rfl⟩
  |exact q
  |exact t _
  |apply fq
  |(refine sj ?_ λr=>?_)
theorem Iq(h:0<n):co 0 n=true:=by simp[co];omega
theorem adU(h:1<n):co 1 n=true:=by simp[co];omega
theorem ak7(h:2<n):co 2 n=true:=by simp[co];omega
theorem Nn{α:Type}{l:List α}(h:0<l.length):bu l ((0:Nat)+0)=some l[0]:=bJ (i:=0) h
theorem ahO{α:Type}{l:List α}(h:1<l.length):bu l ((0:Nat)+1)=some l[1]:=bJ (i:=1) h
theorem aml{α:Type}{l:List α}(h:2<l.length):bu l ((0:Nat)+2)=some l[2]:=bJ (i:=2) h
theorem Yk{l:List ByteArray}{s:ByteArray}(hl:l.length<=4000000)(hn:4000002<=n):∃r,fQ n l s=some r:=by
 obtain⟨o,h,_⟩:=eO (step:=nI l s) (λ i v=>v=i/\i<=l.length) (λ _=>True) l.length (λ k v h=>h.2) (by
  rintro i v ⟨rfl,hi⟩;by_cases hlt:i<l.length;simp only[nI,show decide ((i:Int)<l.length)=true from by simp;omega,aj,bE hlt,ai,aY i];cases (ByteArray.toList s==ByteArray.toList l[i])with
  |true=>exact .inr ⟨_,rfl,trivial⟩
  |false=>exact .inl ⟨_,rfl,rfl,hlt⟩
  simp only[nI,show decide ((i:Int)<l.length)=false from by simp;omega,ay];exact .inr ⟨_,rfl,trivial⟩) n 0 0 ⟨rfl,Nat.zero_le _⟩ (by omega)
 simp only[fQ,qY,h];cases o with
 |inl u=>cases u;simp only[iJ,ai];exact⟨_,rfl⟩
 |inr r=>simp only[p9,ai];exact⟨_,rfl⟩
theorem ai6{op a:Int}(h0:(op==0)=false)(h1:(op==1)=false)(h2:(op==2)=false)(h3:(op==3)=false)(h9:(op==9)=false)(PJ:(op==15)=false)(h16:(op==16)=false)(h:yJ op=some (a,true)):a=2:=by
 simp[yJ,h0,h1,h2,h3,h9,PJ,h16]at h;cases hd:decide (op>=0)with
 |true=>rw[hd]at h;simp at h;exact h.1.symm
 |false=>rw[hd]at h;simp at h
section
variable {n:Nat} {a0:List gI} {ts:List cB} {a2:List fD} {a3:List cu} {a4:List jd} {a5:List gU} {a6:List dn} {a7:Int} {zs:List ByteArray}
theorem WG(hn:4000002<=n)(ht:Sf ts)(hz:zs.length<=4000000):∀(m:Nat)(e:bR)(kn:List (ByteArray×Int)),VR m e->(toE e).wt<=4000000->∃v,bQ n m a0 ts a2 a3 a4 a5 a6 a7 zs e kn=some (v,kn)
 | 0,_,_,h,_=>h.elim
 |m+1,e,kn,⟨ha,hr⟩,hw=>by
  have hla:=abo e;have hmx:maxLen=9223372036854775807:=rfl;show ∃v,fI n (bQ n m) a0 ts a2 a3 a4 a5 a6 a7 zs e kn=some (v,kn)
  obtain⟨o,h1,l,rfl,hl⟩:=eO (step:=fB n (bQ n m) a0 ts a2 a3 a4 a5 a6 a7 zs e) (λ i (v:Int×List (ByteArray×Int)×List Int)=>∃l,v=((i:Int),kn,l)/\i<=e.args.length/\l.length=i)
   (λ o=>∃l,o=(kn,l)/\l.length=e.args.length) e.args.length (λ k v ⟨_,_,h,_⟩=>h) (by
   rintro i v ⟨l,rfl,hi,hl⟩;by_cases hlt:i<e.args.length;left;have hwx:=af6 (getElem_mem hlt);obtain⟨x,hx⟩:=WG hn ht hz m e.args[i] kn (hr _ (getElem_mem hlt)) (by omega);have key:∃b,((bif (e.op==(16:Int))then(bif (decide ((i:Int)>(0:Int)))then(ck (co 0 l.length) ((bu l ((0:Nat)+0:Int)).bind λx2=>some (!((x2 !=(0:Int))==((i:Int)==1)))))else some false)else some false):Option (Bool))=some b:=(by refine fq ?_ ⟨_,rfl⟩;by_cases h0:(i:Int)>0;simp only[h0,decide_true,aj,Iq (show 0<l.length by omega),Nn (show 0<l.length by omega),ai];exact⟨_,rfl⟩;simp only[h0,decide_false,ay];exact⟨_,rfl⟩);obtain⟨b,hb⟩:=key;have hap:∀z:Int,bL l.length l.length (sub [z] 0 1).length 1 8=true:=λz=>(by simp[bL,sub];omega);simp only[fB,show decide ((i:Int)<e.args.length)=true from by simp;omega,aj,bE hlt,ai,hb,CO,hx,hap,gD,aN,aY i];cases b with
   |true|false=>exact⟨_,rfl,_,rfl,hlt,by simp[sub,hl]⟩
   right;refine⟨(kn,l),?_,l,rfl,by omega⟩;simp only[fB,show decide ((i:Int)<e.args.length)=false from by simp;omega,ay,aN,aj]) n 0 (0,kn,[]) ⟨[],rfl,Nat.zero_le _,rfl⟩ (by omega)
  simp only[fI,length_nil,aN,aj,h1,ai,CO,ai5 hn ht];cases h0:(e.op==0)with
  |true=>exact⟨_,rfl⟩
  |false=>
  cases h1:(e.op==1)with
  |true=>exact⟨_,rfl⟩
  |false=>
  cases h2:(e.op==2)with
  |true=>exact⟨_,rfl⟩
  |false=>
  cases h3:(e.op==3)with
  |true=>
   have⟨r,hr⟩:=Yk (n:=n) (l:=zs) (s:=e.s) hz hn;have⟨r2,hr2⟩:=WE r;simp only[ay,aj,hr,hr2,ai];exact⟨_,rfl⟩
  |false=>
  cases h9:(e.op==9)with
  |true=>
   have e9:e.op=9:=(by simpa using h9);rw[e9]at ha;have:l.length=1:=(by have h:some (1,true)=some ((e.args.length:Int),true):=ha;simp at h;omega);simp only[ay,aj,Iq (show 0<l.length by omega),Nn (show 0<l.length by omega),ai];exact⟨_,rfl⟩
  |false=>
  cases PJ:(e.op==15)with
  |true=>
   have e15:e.op=15:=(by simpa using PJ);rw[e15]at ha;have:l.length=1:=(by have h:some (1,true)=some ((e.args.length:Int),true):=ha;simp at h;omega);obtain⟨r2,hr2⟩:=WE (l[0]'(by omega)==0);simp only[ay,aj,Iq (show 0<l.length by omega),Nn (show 0<l.length by omega),ai,hr2];exact⟨_,rfl⟩
  |false=>
  cases h16:(e.op==16)with
  |true=>
   have e16:e.op=16:=(by simpa using h16);rw[e16]at ha;have:l.length=3:=(by have h:some (3,true)=some ((e.args.length:Int),true):=ha;simp at h;omega);simp only[ay,aj,Iq (show 0<l.length by omega),Nn (show 0<l.length by omega),adU (show 1<l.length by omega),ahO (show 1<l.length by omega),ak7 (show 2<l.length by omega),aml (show 2<l.length by omega),ai];cases (l[0]'(by omega) !=0)<;>exact⟨_,rfl⟩
  |false=>
   have:l.length=2:=(by have:=ai6 h0 h1 h2 h3 h9 PJ h16 ha;omega);obtain⟨r,hr⟩:=adT e.op (l[0]'(by omega)) (l[1]'(by omega));simp only[ay,aj,Iq (show 0<l.length by omega),Nn (show 0<l.length by omega),adU (show 1<l.length by omega),ahO (show 1<l.length by omega),ai,hr];exact⟨_,rfl⟩
end
theorem af8{ms:List bD}(h:ms.length<=4000000)(hn:4000002<=n):∃o,iter (ja n ms) n (0,[],[])=some o:=by obtain⟨o,h,_⟩:=eO (step:=ja n ms) (λ i (v:Int×List (ByteArray×Int)×List (ByteArray×Bool))=>∃a b,v=((i:Int),a,b)/\i<=ms.length) (λ _=>True) ms.length (λ k v ⟨_,_,_,h⟩=>h) (by rintro i v ⟨a,b,rfl,hi⟩;by_cases hlt:i<ms.length;left;simp only[ja,show decide ((i:Int)<ms.length)=true from by simp;omega,aj,bE hlt,ai,aY i];cases (!((gT Gb.fX ms[i].name b).getD false))<;>exact⟨_,rfl,_,_,rfl,hlt⟩;right;simp only[ja,show decide ((i:Int)<ms.length)=false from by simp;omega,ay];exact⟨_,rfl,trivial⟩) n 0 _ ⟨[],[],rfl,Nat.zero_le _⟩ (by omega);exact⟨o,h⟩
structure af9(p:bZ):Prop where
 defs:gj p.defs
 tabs:Sf p.tables
theorem abp(a b:ByteArray):Gb.fX a b=true↔a=b:=by unfold Gb.fX;rw[beq_iff_eq,ByteArray.toList_eq,ByteArray.toList_eq];exact⟨λ h=>ByteArray.ext (Array.toList_inj.1 h),λh=>by rw[h]⟩
theorem adV{V:Type}(k k':ByteArray)(v:V)(h:k≠k'):∀l:List (ByteArray×V),gT Gb.fX k (Fq Gb.fX k' v l)=gT Gb.fX k l
 |[]=>by
  have:Gb.fX k k'=false:=by rw[Bool.eq_false_iff];exact λe=>h ((abp _ _).1 e)
  simp[Fq,gT,this]
 |p::l=>by
  have e:Gb.fX k k'=false:=by rw[Bool.eq_false_iff];exact λe=>h ((abp _ _).1 e)
  have ih:=adV k k' v h l;simp[Fq];cases c:Gb.fX k' p.1 with
  |true=>
   have:=(abp _ _).1 c;subst this;simp[gT,e]
  |false=>simp[gT,ih]
theorem KT{p:bZ}{ms:List bD}{zs:List ByteArray}(hp:af9 p)(hm:ms.length<=4000000)(hz:zs.length<=4000000)(hn:5000003<=n)(hn2:n<=9223372036854775000):∃kn out,mI n p ms zs=some (p.defs,p.tables,p.zones,p.rules,p.caps,p.views,p.vl,p.hours,zs,kn,out)/\out.length=p.defs.length/\∀w,iter (ja n ms) n (0,[],[])=some w->∀s,(gT Gb.fX s w.2).getD false=true->gT Gb.fX s kn=gT Gb.fX s w.1:=by
 obtain⟨⟨w1,w2⟩,hs1⟩:=af8 (n:=n) hm (by omega);have⟨r,hr,hrl,hrr,_⟩:=RX (n:=n) hp.defs hn;have hl:=hp.defs.len;have hmx:maxLen=9223372036854775807:=rfl;have hmk:uy p.defs.length 8=true:=by simp[uy];omega
 simp only[mI,hs1,ai,Int.le_refl,decide_true,Bool.true_and,show decide (0<=p.defs.length)=true from by simp,hmk,aj,hr];cases hb:(r.2.2 !=0)with
 |true=>
  simp only[aj,Int.toNat_natCast,List.length_replicate,aN];exact⟨_,_,rfl,by simp,λw hw s _=>by cases hw;rfl⟩
 |false=>
  obtain⟨o,h1,kn,out,rfl,h2,h3⟩:=eO (step:=gW n p zs w2 r) (λ i (v:Int×List (ByteArray×Int)×List Int)=>∃kn out,v=((i:Int),kn,out)/\i<=r.1.length/\out.length=p.defs.length/\∀s,(gT Gb.fX s w2).getD false=true->gT Gb.fX s kn=gT Gb.fX s w1)
   (λ o=>∃kn out,o=(kn,out)/\out.length=p.defs.length/\∀s,(gT Gb.fX s w2).getD false=true->gT Gb.fX s kn=gT Gb.fX s w1) r.1.length (λ k v ⟨_,_,_,h,_⟩=>h) (by
   rintro i v ⟨kn,out,rfl,hi,hol,hK⟩;by_cases hlt:i<r.1.length;left;have hk:=hrr r.1[i] (getElem_mem hlt);obtain⟨k,hk2⟩:=Int.eq_ofNat_of_zero_le hk.1;have hkd:k<p.defs.length:=(by omega);have hko:k<out.length:=(by omega);have hbw:=hp.defs.body (getElem_mem hkd);obtain⟨b,hb1,hb2⟩:=Rp (n:=n) (by omega) hn2 hbw;simp only[gW,show decide ((i:Int)<r.1.length)=true from by simp;omega,aj,aW hlt,bJ hlt,ai,hk2,bE hkd,hb1,Int.toNat_natCast,aW hkd,bJ hko,aY i,show(((0:Nat):Int)+k).toNat=k by omega];have step2:∀(Pi:List (ByteArray×Int)) out',out'.length=p.defs.length->(∀ s,(gT Gb.fX s w2).getD false=true->gT Gb.fX s Pi=gT Gb.fX s w1)->∃HU,((bif (!((gT Gb.fX p.defs[k].name w2).getD false))then(bu out' ((0:Nat)+k:Int)).bind λx5=>some ((Fq Gb.fX p.defs[k].name x5 Pi),out')else some (Pi,out')):Option ((List (ByteArray×Int))×(List Int)))=some (HU,out')/\∀s,(gT Gb.fX s w2).getD false=true->gT Gb.fX s HU=gT Gb.fX s w1:=by
    intro Pi out' ho hK;cases hc:(gT Gb.fX p.defs[k].name w2).getD false with
    |false=>
     simp only[Bool.not_false,aj,bJ (show k<out'.length by omega),ai];exact⟨_,rfl,λs hs=>by rw[adV _ _ _ (λ e=>by rw[e,hc]at hs;cases hs)];exact hK s hs⟩
    |true=>exact⟨_,rfl,hK⟩
   cases b with
   |true=>
    obtain⟨v,hv⟩:=WG (n:=n) (a0:=p.defs) (a2:=p.zones) (a3:=p.rules) (a4:=p.caps) (a5:=p.views) (a6:=p.vl) (a7:=p.hours) (by omega) hp.tabs hz n _ kn (hb2 rfl) hbw;simp only[gu,hv,aj,ai];obtain⟨kn2,h2,h3⟩:=step2 kn (out.set k v) (by simp[hol]) hK;rw[h2];exact⟨_,rfl,_,_,rfl,hlt,by simp[hol],h3⟩
   |false=>
    simp only[ay,ai];have⟨kn2,h2,h3⟩:=step2 kn out hol hK;rw[h2];exact⟨_,rfl,_,_,rfl,hlt,hol,h3⟩
   right;simp only[gW,show decide ((i:Int)<r.1.length)=false from by simp;omega,ay];exact⟨_,rfl,_,_,rfl,hol,hK⟩) n 0 (0,w1,List.replicate p.defs.length 0) ⟨_,_,rfl,Nat.zero_le _,by simp,λ_ _=>rfl⟩ (by omega)
  simp only[ay,Int.toNat_natCast,h1,ai,h2,aN,aj];exact⟨_,_,rfl,h2,λw hw=>by cases hw;exact h3⟩
theorem all_eq{d:aG}(h:yR d)(hn:1001<=n):vX n d=some (b8 d):=by simp[vX,WB h hn]
theorem Yl(a b:ByteArray)(h:a.size<=4000000):∃r,strings_Contains a b=some r:=by simp only[strings_Contains,Nat.ble_eq_true_of_le h,aj];exact⟨_,rfl⟩
theorem Rq c:∃b,El c=some b:=fq ⟨_,rfl⟩ ⟨_,rfl⟩
theorem aga c:∃b,Pk c=some b:=fq ⟨_,rfl⟩ ⟨_,rfl⟩
theorem ai7 c:∃b,zZ c=some b:=sj (Rq c) λ_=>fq ⟨_,rfl⟩ (sj (aga c) λ_=>⟨_,rfl⟩)
theorem adW{s:ByteArray}{i:Nat}(h:i<s.size):∃c,QT s i=some c:=by simp only[QT,show decide (0<=i)=true from by simp,aj,Int.toNat_natCast];rw[getElem?_pos s i h];exact⟨_,rfl⟩
theorem ai8{s:ByteArray}{φ:(Int×Unit)->Option Bool}(h:∀c,∃b,φ (c,())=some b)(hs:s.size<=4000000)(hn:4000002<=n):∃r,MJ n s φ=some r:=by
 obtain⟨o,h1,_⟩:=eO (step:=zY s φ) (λ i v=>v=i/\i<=s.size) (λ _=>True) s.size (λ k v h=>h.2) (by
  rintro i v ⟨rfl,hi⟩;by_cases hlt:i<s.size;have⟨c,hc⟩:=adW hlt;have⟨b,hb⟩:=h c;simp only[zY,show decide ((i:Int)<s.size)=true from by simp;omega,aj,hc,ai,hb,aY i];cases b with
  |true=>exact .inl ⟨_,rfl,rfl,hlt⟩
  |false=>exact .inr ⟨_,rfl,trivial⟩
  simp only[zY,show decide ((i:Int)<s.size)=false from by simp;omega,ay,ai];exact .inr ⟨_,rfl,trivial⟩) n 0 0 ⟨rfl,Nat.zero_le _⟩ (by omega)
 simp only[MJ,h1,ai];exact⟨_,rfl⟩
theorem ai9(s:ByteArray)(hn:4000002<=n):∃b,MK n s=some b/\(b=true->s.size<=20):=by
 simp only[MK];cases h0:(ByteArray.toList s==ByteArray.toList (⟨#[]⟩))with
 |true=>exact⟨false,by simp,λh=>(by cases h)⟩
 |false=>
  have hs:0<s.size:=by refine Nat.pos_of_ne_zero λh=>?_;have:s=⟨#[]⟩:=(by obtain⟨⟨l⟩⟩:=s;have:l.length=0:=h;rw[List.eq_nil_of_length_eq_zero this]);rw[this]at h0;simp at h0
  have⟨c,hc⟩:=adW hs;have hc':QT s 0=some c:=hc;have⟨b,hb⟩:=Rq c;simp only[ay,hc',ai,hb];cases b with
  |false=>exact⟨false,by simp,λh=>(by cases h)⟩
  |true=>
   simp only[Bool.not_true,ay,ai];by_cases h20:(s.size:Int)>20;exact⟨false,by simp[h20],λh=>(by cases h)⟩;obtain⟨r,hr⟩:=ai8 (n:=n) (s:=s) (φ:=λ(y1:Int×Unit)=>zZ y1.1) (λ c=>ai7 c) (by omega) hn;simp only[h20,decide_false,ay,hr,ai];exact⟨_,rfl,λ_=>by omega⟩
theorem aja(s:ByteArray)(hn:4000002<=n):∃b,vY n s=some b:=by
 have⟨b,hb,h20⟩:=ai9 (n:=n) s hn;simp only[vY,hb,ai];cases b with
 |false=>exact⟨_,rfl⟩
 |true=>
  have hs:=h20 rfl;have hmx:maxLen=9223372036854775807:=rfl;have c1:UK (⟨#[32]⟩) s=true:=by have:(⟨#[32]⟩:ByteArray).size=1:=rfl;simp[UK];omega
  have c2:UK ((⟨#[32]⟩)++s) (⟨#[32]⟩)=true:=by have h1:(⟨#[32]⟩:ByteArray).size=1:=rfl;simp[UK];omega
  simp only[aj,c1,c2];refine sj (Yl _ _ (Nat.le_of_ble_eq_true ?_)) λ_=>⟨_,rfl⟩
  kernel_rfl
theorem ajb(a b:ym):∃r,xk a b=some r:=by unfold xk;rw[yQ];exact fq (fq ⟨_,rfl⟩ ⟨_,rfl⟩) ⟨_,rfl⟩
theorem gm{l:List aD}{φ:(aD×Unit)->Option Bool}(p:aD->Bool)(h:∀x∈l,φ (x,())=some (p x))(hl:l.length<1099511627776)(hn:l.length<n):fU n l φ=some (l.any p):=by have:qx n l φ=some (AQ p l):=iM p h hl hn;simp[fU,this,wY]
theorem xK{l:List aD}{φ:(aD×Unit)->Option Bool}(h:∀x∈l,∃b,φ (x,())=some b)(hl:l.length<1099511627776)(hn:l.length<n):fU n l φ=some (l.any λx=>(φ (x,())).getD false):=
 gm _ (λ x hx=>by have⟨b,hb⟩:=h x hx;rw[hb];rfl) hl hn
def AD(d:aG):Prop:=∀p∈d.phases,p.gives.length<=1000
theorem agb{l:List aD}(hl:l.length<=1000000)(hn:4000002<=n):iter (lC n l) n 0=some (.inr false)\/(iter (lC n l) n 0=some (.inl ())/\∀v∈l,okV v=true):=by
 obtain⟨o,h1,h2⟩:=eO (step:=lC n l) (λ i v=>v=i/\i<=l.length/\∀x∈l.take i,okV x=true) (λ o=>o=.inr false\/(o=.inl ()/\∀v∈l,okV v=true)) l.length (λ k v h=>h.2.1) (by
  rintro i v ⟨rfl,hi,hall⟩;by_cases hlt:i<l.length;simp only[lC,show decide ((i:Int)<l.length)=true from by simp;omega,aj,aW hlt,bJ hlt,ai,pU,aY i];cases hv:okV l[i]with
  |false=>exact .inr ⟨_,by simp only[Bool.not_false,aj,ai];rfl,.inl rfl⟩
  |true=>
   have hsub:(sub l 0 i).length=i:=(by simp[sub];omega);have hc:=xK (n:=n) (l:=sub l 0 i) (φ:=λ(y1:aD×Unit)=>qW y1.1 l[i]) (λ x _=>sj (ajb _ _) λ_=>⟨_,rfl⟩) (by omega) (by omega);simp[xV (show 0<=0 by omega) (show (0:Int)<=i by omega) (show (i:Int)<=l.length by omega),qw hsub,hc];cases ((sub l 0 i).any λx=>((λ (y1:aD×Unit)=>qW y1.1 l[i]) (x,())).getD false)with
   |true=>exact .inr ⟨_,rfl,.inl rfl⟩
   |false=>
    refine .inl ⟨_,rfl,rfl,hlt,λx hx=>?_⟩;rw[List.take_add_one,dD hlt,bK]at hx;rcases hx with hx|hx;exact hall x hx;simp at hx;subst hx;exact hv
  refine .inr ⟨.inl (),?_,.inr ⟨rfl,λv hv=>hall v (by rw[take_of_length_le (by omega)];exact hv)⟩⟩;simp only[lC,show decide ((i:Int)<l.length)=false from by simp;omega,ay]) n 0 0 ⟨rfl,Nat.zero_le _,by simp⟩ (by omega)
 rcases h2 with rfl|⟨rfl,h2⟩;exact .inl h1;exact .inr ⟨h1,h2⟩
theorem agc{p:fA}(hp:p.gives.length<=1000)(hn:4000002<=n):iter (lD n p) n (0,[])=some (.inl ())\/iter (lD n p) n (0,[])=some (.inr (.inr (.inr false))):=by
 obtain⟨o,h1,h2⟩:=eO (step:=lD n p) (λ i (v:Int×List (ByteArray×Bool))=>∃m,v=((i:Int),m)/\i<=p.gives.length) (λ o=>o=.inl ()\/o=.inr (.inr (.inr false))) p.gives.length (λ k v ⟨_,_,h⟩=>h) (by
  rintro i v ⟨m,rfl,hi⟩;by_cases hlt:i<p.gives.length;have key:∃b,((bif ((gT Gb.fX p.gives[i].name m).getD false)then some true else(vY n p.gives[i].name).bind λr4=>(bif (!r4)then some true else(bif (decide (p.gives[i].n<0))then some true else some (decide (p.gives[i].n>1073741824))))):Option (Bool))=some b:=
   fq ⟨_,rfl⟩ (sj (aja _ hn) λ_=>fq ⟨_,rfl⟩ (fq ⟨_,rfl⟩ ⟨_,rfl⟩))
  obtain⟨b,hb⟩:=key;simp only[lD,show decide ((i:Int)<p.gives.length)=true from by simp;omega,aj,bE hlt,ai,hb,aY i];cases b with
  |true=>exact .inr ⟨_,rfl,.inr rfl⟩
  |false=>exact .inl ⟨_,rfl,_,rfl,hlt⟩
  simp only[lD,show decide ((i:Int)<p.gives.length)=false from by simp;omega,ay];exact .inr ⟨_,rfl,.inl rfl⟩) n 0 _ ⟨[],rfl,Nat.zero_le _⟩ (by omega)
 rcases h2 with rfl|rfl;exact .inl h1;exact .inr h1
theorem agf{d:aG}(hd:yR d)(hg:AD d)(hn:4000002<=n):iter (lF n d) n 0=some (.inl ())\/iter (lF n d) n 0=some (.inr false):=by
 have hd1:=hd.1;obtain⟨o,h1,h2⟩:=eO (step:=lF n d) (λ i v=>v=i/\i<=d.phases.length) (λ o=>o=.inl ()\/o=.inr false) d.phases.length (λ k v h=>h.2) (by
  rintro i v ⟨rfl,hi⟩;by_cases hlt:i<d.phases.length;simp only[lF,show decide ((i:Int)<d.phases.length)=true from by simp;omega,aj,bE hlt,ai,aY i];rcases agc (n:=n) (hg _ (getElem_mem hlt)) hn with h|h;simp[h];cases decide ((d.phases[i].gives.length:Int)>30)with
  |true=>exact .inr ⟨_,rfl,.inr rfl⟩
  |false=>exact .inl ⟨_,rfl,rfl,hlt⟩
  simp only[h,p9];exact .inr ⟨_,rfl,.inr rfl⟩;simp only[lF,show decide ((i:Int)<d.phases.length)=false from by simp;omega,ay];exact .inr ⟨_,rfl,.inl rfl⟩) n 0 0 ⟨rfl,Nat.zero_le _⟩ (by omega)
 rcases h2 with rfl|rfl;exact .inl h1;exact .inr h1
theorem uY{d:aG}(hd:yR d):(b8 d).length<=1000000:=by have:=ev hd.2;have:=hd.1;unfold b8;omega
theorem ahP{d:aG}(hd:yR d)(hg:AD d)(hn:4000002<=n):∃b,lN n d=some b/\(b=true->∀v∈b8 d,okV v=true):=by
 simp only[lN,all_eq hd (show 1001<=n by omega),ai];have key:∀c1 c2 c3 c4 c5 c6:Bool,∃b,((bif c1 then some true else(bif c2 then some true else(bif c3 then some true else(bif c4 then some true else(bif c5 then some true else some c6))))):Option Bool)=some b:=by intro c1 c2 c3 c4 c5 c6;exact fq ⟨_,rfl⟩ (fq ⟨_,rfl⟩ (fq ⟨_,rfl⟩ (fq ⟨_,rfl⟩ (fq ⟨_,rfl⟩ ⟨_,rfl⟩))))
 have⟨b,hb⟩:=key (decide (d.lot<0)) (decide (d.lot>1073741824)) (decide ((d.phases.length:Int)<1)) (decide ((d.phases.length:Int)>8)) (decide (((b8 d).length:Int)<1)) (decide (((b8 d).length:Int)>40));rw[hb];cases b with
 |true=>exact⟨false,rfl,λh=>(by cases h)⟩
 |false=>
  simp only[ai,ay];rcases agb (n:=n) (uY hd) hn with h|⟨h,hall⟩;simp only[h,p9];exact⟨false,rfl,λh=>(by cases h)⟩;simp only[h,iJ];rcases agf (n:=n) hd hg hn with h2|h2;simp only[h2,iJ];exact⟨true,rfl,λ_=>hall⟩;simp only[h2,p9];exact⟨false,rfl,λh=>(by cases h)⟩
theorem EM{l:List jd}{φ:(jd×Unit)->Option Bool}(p:jd->Bool)(h:∀x∈l,φ (x,())=some (p x))(hl:l.length<1099511627776)(hn:l.length<n):mU n l φ=some (l.any p):=by have:uV n l φ=some (AQ p l):=iM p h hl hn;simp[mU,this,wY]
theorem ak8{lot:jK}{l:List aD}(ha:lot.area.length<=900)(hv:∀v∈l,okV v=true)(hl:l.length<=1000000)(hn:4000002<=n):iter (kD n lot l) n 0=some (.inl ())\/iter (kD n lot l) n 0=some (.inr false):=by
 obtain⟨o,h1,h2⟩:=eO (step:=kD n lot l) (λ i v=>v=i/\i<=l.length) (λ o=>o=.inl ()\/o=.inr false) l.length (λ k v h=>h.2) (by
  rintro i v ⟨rfl,hi⟩;by_cases hlt:i<l.length;have hb:=Ip (hv _ (getElem_mem hlt));have hcl:=abg (keep:=λp q=>p&&q) lot.area [dY l[i]];have hc:=abf (n:=n) (a:=lot.area) (b:=[dY l[i]]) (by omega) (by simp) (by omega) (by simp;omega) (by omega);have hA:=Wo (n:=n) (a:=(tZ (λ p q=>p&&q) lot.area [dY l[i]]).1) (by omega) (by omega);have hr:=CF hb;simp[dY]at hc hA hr;simp only[kD,show decide ((i:Int)<l.length)=true from by simp;omega,aj,aW hlt,bJ hlt,ai,show ∀r:au,sub [r] 0 1=[r]from λ_=>rfl,List.length_singleton,aN,hc,hA,hr,aY i];have key:∀c x:Bool,∃b,((bif c then some true else some x):Option Bool)=some b:=λc x=>fq ⟨_,rfl⟩ ⟨_,rfl⟩;obtain⟨b,hb2⟩:=key ((tZ (λ p q=>p&&q) lot.area [⟨l[i].bj,l[i].bz,l[i].be,l[i].bx⟩]).2 !=0) (decide ((bif cJ (tZ (λ p q=>p&&q) lot.area [⟨l[i].bj,l[i].bz,l[i].be,l[i].bx⟩]).1 then KS (tZ (λ p q=>p&&q) lot.area [⟨l[i].bj,l[i].bz,l[i].be,l[i].bx⟩]).1 else 0)<N0 ⟨l[i].bj,l[i].bz,l[i].be,l[i].bx⟩));rw[hb2];cases b with
  |true=>exact .inr ⟨_,rfl,.inr rfl⟩
  |false=>exact .inl ⟨_,rfl,rfl,hlt⟩
  simp only[kD,show decide ((i:Int)<l.length)=false from by simp;omega,ay];exact .inr ⟨_,rfl,.inl rfl⟩) n 0 0 ⟨rfl,Nat.zero_le _⟩ (by omega)
 rcases h2 with rfl|rfl;exact .inl h1;exact .inr h1
theorem ak9{p:bZ}{ph:fA}(hc:p.caps.length<=4000000)(hp:ph.gives.length<=1000)(hn:4000002<=n):iter (kE n p ph) n 0=some (.inl ())\/iter (kE n p ph) n 0=some (.inr (.inr (.inr false))):=by
 obtain⟨o,h1,h2⟩:=eO (step:=kE n p ph) (λ i v=>v=i/\i<=ph.gives.length) (λ o=>o=.inl ()\/o=.inr (.inr (.inr false))) ph.gives.length (λ k v h=>h.2) (by
  rintro i v ⟨rfl,hi⟩;by_cases hlt:i<ph.gives.length;simp only[kE,show decide ((i:Int)<ph.gives.length)=true from by simp;omega,aj,bE hlt,ai,EM (n:=n) (l:=p.caps) (φ:=λ(y1:jd×Unit)=>uU y1.1 ph.gives[i]) (λ c=>ByteArray.toList c.name==ByteArray.toList ph.gives[i].name) (λ _ _=>rfl) (by omega) (by omega),aY i];cases (p.caps.any λc=>ByteArray.toList c.name==ByteArray.toList ph.gives[i].name)with
  |false=>exact .inr ⟨_,rfl,.inr rfl⟩
  |true=>exact .inl ⟨_,rfl,rfl,hlt⟩
  simp only[kE,show decide ((i:Int)<ph.gives.length)=false from by simp;omega,ay];exact .inr ⟨_,rfl,.inl rfl⟩) n 0 0 ⟨rfl,Nat.zero_le _⟩ (by omega)
 rcases h2 with rfl|rfl;exact .inl h1;exact .inr h1
theorem ala{p:bZ}{d:aG}(hc:p.caps.length<=4000000)(hd:yR d)(hg:AD d)(hn:4000002<=n):iter (kF n p d) n 0=some (.inl ())\/iter (kF n p d) n 0=some (.inr false):=by have hd1:=hd.1;obtain⟨o,h1,h2⟩:=eO (step:=kF n p d) (λ i v=>v=i/\i<=d.phases.length) (λ o=>o=.inl ()\/o=.inr false) d.phases.length (λ k v h=>h.2) (by rintro i v ⟨rfl,hi⟩;by_cases hlt:i<d.phases.length;simp only[kF,show decide ((i:Int)<d.phases.length)=true from by simp;omega,aj,bE hlt,ai,aY i];rcases ak9 (n:=n) hc (hg _ (getElem_mem hlt)) hn with h|h;simp only[h,iJ];exact .inl ⟨_,rfl,rfl,hlt⟩;simp only[h,p9];exact .inr ⟨_,rfl,.inr rfl⟩;simp only[kF,show decide ((i:Int)<d.phases.length)=false from by simp;omega,ay];exact .inr ⟨_,rfl,.inl rfl⟩) n 0 0 ⟨rfl,Nat.zero_le _⟩ (by omega);rcases h2 with rfl|rfl;exact .inl h1;exact .inr h1
theorem ajc{p:bZ}{lot:jK}{d:aG}(hc:p.caps.length<=4000000)(ha:lot.area.length<=900)(hd:yR d)(hg:AD d)(hn:4000002<=n):∃b,ku n p lot d=some b/\(b=true->∀v∈b8 d,okV v=true):=by
 have⟨b,hb,hv⟩:=ahP (n:=n) hd hg hn;simp only[ku,hb,ai];cases b with
 |false=>exact⟨false,by simp,λh=>(by cases h)⟩
 |true=>
  simp only[Bool.not_true,ay,l6 (n:=n) (l:=lot.area) (by omega) (by omega) (by omega),ai];cases (lot.id !=d.lot)with
  |true=>exact⟨false,by simp,λh=>(by cases h)⟩
  |false=>
   cases cJ lot.area with
   |false=>exact⟨false,by simp,λh=>(by cases h)⟩
   |true=>
    simp only[Bool.not_true,ay,ai,all_eq hd (show 1001<=n by omega)];rcases ak8 (n:=n) ha (hv rfl) (uY hd) hn with h|h;simp only[h,iJ];rcases ala (n:=n) hc hd hg hn with h2|h2;simp only[h2,iJ];exact⟨true,rfl,λ_=>hv rfl⟩;simp only[h2,p9];exact⟨false,rfl,λh=>(by cases h)⟩;simp only[h,p9];exact⟨false,rfl,λh=>(by cases h)⟩
theorem amm{p:bZ}{ms:List bD}{zs:List ByteArray}{e:bR}(hp:af9 p)(hm:ms.length<=4000000)(hz:zs.length<=4000000)(he:(toE e).wt<=4000000)(hn:5000003<=n)(hn2:n<=9223372036854775000):∃v,Ae n p ms zs e=some v:=by
 obtain⟨b,hb,hv⟩:=Rp (n:=n) (by omega) hn2 he;simp[Ae,CO,hb];cases b with
 |false=>exact⟨_,rfl⟩
 |true=>
  have⟨kn,out,h1,_⟩:=KT (n:=n) hp hm hz hn hn2;obtain⟨v,h2⟩:=WG (n:=n) (a0:=p.defs) (a2:=p.zones) (a3:=p.rules) (a4:=p.caps) (a5:=p.views) (a6:=p.vl) (a7:=p.hours) (by omega) hp.tabs hz n e kn (hv rfl) he;simp only[Bool.not_true,ay,h1,ai,gu,h2];exact⟨_,rfl⟩
section
variable {n:Nat} {d:List gI} {ts:List cB} {z z':List fD} {r r':List cu} {c c':List jd} {v v':List gU} {su sn:List dn} {h h':Int} {zs:List ByteArray}
theorem Ir:∀(m:Nat)(e:bR)(kn:List (ByteArray×Int)),bQ n m d ts z r c v su h zs e kn=bQ n m d ts z' r' c' v' sn h' zs e kn
 | 0,_,_=>rfl
 |m+1,e,kn=>by
  have ih:=Ir m;have hs:fB n (bQ n m) d ts z r c v su h zs e=fB n (bQ n m) d ts z' r' c' v' sn h' zs e:=by funext ⟨v1,v2,v3⟩;simp only[fB,ih]
  have hr:∀w,jC n d ts z r c v su h zs e w=jC n d ts z' r' c' v' sn h' zs e w:=λ_=>rfl;show fI n (bQ n m) d ts z r c v su h zs e kn=fI n (bQ n m) d ts z' r' c' v' sn h' zs e kn;simp only[fI,hs,CO,hr]
theorem agh{ms:List bD}:(mI n (bZ.mk d ts z r c v su h) ms zs).map (λ q=>q.2.2.2.2.2.2.2.2.2)=(mI n (bZ.mk d ts z' r' c' v' sn h') ms zs).map (λ q=>q.2.2.2.2.2.2.2.2.2):=by
 have hs:∀w2 r1,gW n (bZ.mk d ts z r c v su h) zs w2 r1=gW n (bZ.mk d ts z' r' c' v' sn h') zs w2 r1:=by intro w2 r1;funext ⟨v6,v7,v8⟩;have hv:∀e kn,gu n d ts z r c v su h zs e kn=gu n d ts z' r' c' v' sn h' zs e kn:=λe kn=>Ir n e kn;simp only[gW,hv]
 have ho:nN n (bZ.mk d ts z r c v su h)=nN n (bZ.mk d ts z' r' c' v' sn h'):=rfl;simp only[mI,hs,ho];cases iter (ja n ms) n (0,([]:(List (ByteArray×Int))),([]:(List (ByteArray×Bool))))with
 |none=>rfl
 |some w=>
  obtain⟨w1,w2⟩:=w;simp only[ai];cases (decide ((d.length:Int)<=d.length)&&(decide (0<=(d.length:Int))&&uy d.length 8))with
  |false=>rfl
  |true=>
   simp only[aj];cases nN n (bZ.mk d ts z' r' c' v' sn h')with
   |none=>rfl
   |some r1=>
    simp only[ai];cases (r1.2.2 !=0)with
    |true=>
     simp only[aj];cases aE ((d.length:Int).toNat) (List.replicate (d.length:Int).toNat (0:Int)).length<;>rfl
    |false=>
     simp only[ay];cases iter (gW n (bZ.mk d ts z' r' c' v' sn h') zs w2 r1) n (0,w1,(List.replicate (d.length:Int).toNat 0))with
     |none=>rfl
     |some q=>
      obtain⟨w3,w4⟩:=q;simp only[ai];cases aE ((d.length:Int).toNat) w4.length<;>rfl
theorem agi{ms:List bD}{e:bR}(hp:gj d)(ht:Sf ts)(hm:ms.length<=4000000)(hz:zs.length<=4000000)(hn:5000003<=n)(hn2:n<=9223372036854775000):Ae n (bZ.mk d ts z r c v su h) ms zs e=Ae n (bZ.mk d ts z' r' c' v' sn h') ms zs e:=by have⟨kn,out,h1,_⟩:=KT (n:=n) (p:=bZ.mk d ts z r c v su h) ⟨hp,ht⟩ hm hz hn hn2;have⟨kn2,out2,h2,_⟩:=KT (n:=n) (p:=bZ.mk d ts z' r' c' v' sn h') ⟨hp,ht⟩ hm hz hn hn2;have h3:=agh (n:=n) (d:=d) (ts:=ts) (z:=z) (z':=z') (r:=r) (r':=r') (c:=c) (c':=c') (v:=v) (v':=v') (su:=su) (sn:=sn) (h:=h) (h':=h') (zs:=zs) (ms:=ms);rw[h1,h2]at h3;simp only[Option.map_some,bM,Prod.mk.injEq]at h3;obtain⟨rfl,rfl⟩:=h3;simp only[Ae,h1,h2,ai,gu,Ir (z:=z) (z':=z') (r:=r) (r':=r') (c:=c) (c':=c') (v:=v) (v':=v') (su:=su) (sn:=sn) (h:=h) (h':=h')]
end
theorem RY{b:au}{l:List dW}{s:List gJ}(ha:∀c∈s,c.area.length<=200)(hs:s.length<=1000)(hl:l.length<=1000)(hn:2000<=n):
 xG n b l s=some (EH b l&&(EI s&&!(s.any λc=>decide (P0 b l c.area<c.z1)))):=by
 unfold xG;rw[Wy b l hl hn];simp;cases hv:EH b l with
 |false=>simp
 |true=>
  have⟨v1,v2⟩:=(adH b l).1 hv;simp[Rn (n:=n) (s:=s) (λ x hx=>by have:=ha x hx;omega) (by omega)];cases hr:EI s with
  |false=>simp
  |true=>
   have⟨_,sok,_⟩:=(WA s).1 hr;simp;rw[rZ (λ c=>decide (P0 b l c.area<c.z1)) (λ c hc=>by have:=ha c hc;show rf n c b l=_;unfold rf;rw[RU v1 v2 (tX (sok c hc).rt).1 (by omega) hl hn];rfl) (by omega) (by omega)];simp
def uZ(v:aD):List gJ:=[⟨v.cx,v.cz,[dY v]⟩]
theorem adY(v:aD):xC v=some (uZ v):=rfl
def TM(b:au)(p:dW)(v:aD):Bool:=EH b [p]&&(EI (uZ v)&&!((uZ v).any λc=>decide (P0 b [p] c.area<c.z1)))
def WH(r:cu):dW:=dW.mk r.gR r.gS r.i9 r.jj
theorem abq(v:aD)(b:au)(r:cu)(hn:2000<=n):j5 n v b r=some (!TM b (WH r) v):=by have h:=RY (n:=n) (b:=b) (l:=[WH r]) (s:=uZ v) (by simp[uZ]) (by simp[uZ]) (by simp) hn;unfold WH at h;have hl:(uZ v).length=1:=rfl;simp[j5,adY,show ∀x:dW,sub [x] 0 1=[x]from λ_=>rfl,h,TM];rfl
def Se(r:cu)(v:aD):Bool:=bits .and .i64 r.uses (i64.wrap (1*2 ^ v.use.toNat))==0
theorem abr{v:aD}(h:okV v=true)(r:cu):j6 v r=some (Se r v):=by
 have hu:0<=v.use/\v.use<6:=by simp[okV]at h;omega
 have hb:i64.bits=64:=rfl;simp[j6,Se,show(decide (0<=v.use)&&decide (v.use<=i64.bits))=true from by simp;omega]
def SZ(lot:Int)(r:cu)(v:aD)(b:iE):Bool:=(dP b (mE.mk [] [] [] [] [] [] [] 0 [] [] [] [] [] 0 0 [] [] lot [] [] []) v r).getD false
theorem adZ{b:iE}{s:mE}{v:aD}{r:cu}:dP b s v r=some (SZ s.dE r v b):=by
 have key:∃x,dP b (mE.mk [] [] [] [] [] [] [] 0 [] [] [] [] [] 0 0 [] [] s.dE [] [] []) v r=some x:=by simp only[dP,jG,akU,ai];refine sj (fq ⟨_,rfl⟩ (fq ⟨_,rfl⟩ (fq ⟨_,rfl⟩ ⟨_,rfl⟩))) λ_=>fq ⟨_,rfl⟩ (sj (fq (fq ⟨_,rfl⟩ (fq ⟨_,rfl⟩ ⟨_,rfl⟩)) (fq ⟨_,rfl⟩ ⟨_,rfl⟩)) λ_=>fq ⟨_,rfl⟩ ⟨_,rfl⟩)
 have e:dP b s v r=dP b (mE.mk [] [] [] [] [] [] [] 0 [] [] [] [] [] 0 0 [] [] s.dE [] [] []) v r:=rfl;obtain⟨x,hx⟩:=key;rw[e,SZ,hx];rfl
theorem zq{l:List iE}{φ:(iE×Unit)->Option Bool}(p:iE->Bool)(h:∀x∈l,φ (x,())=some (p x))(hl:l.length<1099511627776)(hn:l.length<n):kg n l φ=some (l.any p):=by have:qE n l φ=some (AQ p l):=iM p h hl hn;simp[kg,this,wY]
def SU(built:List iE)(lot:Int)(r:cu)(v:aD):Bool:=built.any (SZ lot r v)
theorem abv{s:mE}{v:aD}{r:cu}(hb:s.fy.length<=1000)(hn:2000<=n):ko n v s r=some (SU s.fy s.dE r v):=by simp[ko,rH,zq (n:=n) (l:=s.fy) (φ:=λ(y1:iE×Unit)=>dP y1.1 s v r) (SZ s.dE r v) (λ x _=>adZ) (by omega) (by omega),SU]
def li(r:cu):bR:=bR.mk r.kx r.m5 r.mT r.i8 r.fL
def lj(t:fM):bZ:=bZ.mk t.ci t.ca t.b9 [] t.cj t.cg t.cD t.ch
structure WI(t:fM):Prop where
 lots:∀l∈t.land,E7 l
 land:t.land.length<=1000
 eas:t.cp.length<=900/\∀e∈t.cp,e.area.length<=900
 built:t.built.length<=1000
 zones:t.b9.length<=100
 caps:t.cj.length<=4000000
 rules:t.bm.length<=100
 rule:∀r∈t.bm,Wv r/\(toE (li r)).wt<=4000000
 plan:af9 (lj t)
def Ym(d:aG):Prop:=yR d/\AD d
def Yn(n:Nat):Prop:=5000003<=n/\n<=9223372036854775000
def u6(t:fM)(lot:jK):List ByteArray:=GB t.b9 lot.area
def sB(t:fM)(lot:jK)(d:aG):mE:=mE.mk t.ci t.ca t.b9 t.bm t.cj t.cg t.cD t.ch t.land t.cp t.windows t.built t.base lot.id lot.owner lot.area lot.from_ d.lot d.phases (b8 d) (u6 t lot)
theorem WJ{d:aG}(h:yR d)(hn:1001<=n):tC n d=some (b8 d):=by obtain⟨h1,h2⟩:=h;unfold tC;have key:=CG (step:=oP d) (λ i=>(i,(d.phases.take i).flatMap (·.az))) (s:=(0,[])) d.phases.length (b8 d) rfl (λ i hi=>by have hl:=ev (l:=d.phases.take i) λp hp=>h2 p (List.mem_of_mem_take hp);rw[length_take]at hl;have hv:=h2 _ (getElem_mem hi);generalize hL:(d.phases.take i).flatMap (·.az)=L at hl;have hap:bL L.length L.length d.phases[i].az.length d.phases[i].az.length 72=true:=eG (by omega) (by simp[maxLen];omega);simp only[oP,dR hi,aj,bE hi,ai,hap,gD,aN,aY i];rw[kC hi,List.flatMap_append,hL];simp) (by simp[oP,b8]) n (by omega);have hz:aE 0 ([]:List aD).length=true:=rfl;simp[key]
def Sa(n:Nat)(t:fM)(d:aG):Bool:=(ku n (lj t) (l7 t.land d.lot).1 d).getD false
def uz(n:Nat)(t:fM)(d:aG):Int:=bif(l7 t.land d.lot).2 then(bif Sa n t d then 0 else 1)else 4
def aog:mE:=mE.mk ([]) ([]) ([]) ([]) ([]) ([]) ([]) 0 ([]) ([]) ([]) ([]) ([]) 0 0 ([]) ([]) 0 ([]) ([]) ([])
theorem look_eq{t:fM}{d:aG}(ht:WI t)(hd:Ym d)(hn:Yn n):z8 n t d=some (bif uz n t d==0 then sB t (l7 t.land d.lot).1 d else aog,uz n t d)/\(uz n t d=0->∀v∈b8 d,okV v=true):=by
 obtain⟨hn1,hn2⟩:=hn;have hl:=ht.land;have e1:MI n t.land d.lot=some (l7 t.land d.lot):=ai1 ht.lots (by omega) (by omega);have hw:=ZQ ht.lots d.lot;obtain⟨b,hb,hv⟩:=ajc (n:=n) (p:=lj t) (lot:=(l7 t.land d.lot).1) (d:=d) ht.caps hw.1 hd.1 hd.2 (by omega);have e2:ku n (bZ.mk t.ci t.ca t.b9 t.bm t.cj t.cg t.cD t.ch) (l7 t.land d.lot).1 d=some b:=hb;have e3:Cv n (bZ.mk t.ci t.ca t.b9 t.bm t.cj t.cg t.cD t.ch) (l7 t.land d.lot).1.area=some (GB t.b9 (l7 t.land d.lot).1.area):=abh _ _ ht.zones hw.1 (by omega);have e4:Sa n t d=b:=by unfold Sa;rw[hb];rfl
 simp[z8,e1,e2,e3,WJ hd.1 (show 1001<=n by omega),uz,e4];cases (l7 t.land d.lot).2 with
 |false=>exact⟨rfl,λh=>absurd (show (4:Int)=0 from h) (by decide)⟩
 |true=>
  cases b with
  |false=>exact⟨rfl,λh=>absurd (show (1:Int)=0 from h) (by decide)⟩
  |true=>exact⟨rfl,λ_=>hv rfl⟩
def amP(n:Nat)(t:fM)(lot:jK)(d:aG)(r:cu):Bool:=((nK n (lj t) lot d).bind λms=>Ae n (lj t) ms (u6 t lot) (li r)).getD 1==0
def GT(n:Nat)(t:fM)(lot:jK)(d:aG)(r:cu):Bool:=
 bif r.kind==0 then amP n t lot d r else bif r.kind==1 then(b8 d).any (λ v=>!TM (TK lot.area).1 (WH r) v)else bif r.kind==2 then(b8 d).any (Se r)else bif r.kind==3 then(b8 d).any (SU t.built d.lot r)else false
theorem WK{t:fM}(ht:WI t)(lot:jK):(u6 t lot).length<=100:=Nat.le_trans (ame _ _) ht.zones
theorem aje{t:fM}{lot:jK}{d:aG}{r:cu}(ht:WI t)(hl:lot.area.length<=900)(hd:Ym d)(hv:∀v∈b8 d,okV v=true)(hr:(toE (li r)).wt<=4000000)(hn:Yn n):mX n (sB t lot d) r=some (GT n t lot d r):=by
 obtain⟨hn1,hn2⟩:=hn;have hvl:=uY hd.1;have hz:=WK ht lot;simp only[mX,gX,GT];cases (r.kind==0)with
 |true=>
  have htb:=ht.plan.tabs;obtain⟨e1,e2,e3,e4,e5,e6,e7,e8,hOf⟩:=aoe (n:=n) (p:=lj t) (lot:=lot) (d:=d) ⟨by have:=htb.1;omega,by have:=htb.1;omega,λx hx=>by have:=htb.2 x hx;omega⟩ hl hd.1 (by omega);have h1:=hOf t.bm;have h2:=hOf [];have h2':nK n (lj t) lot d=_:=h2;have h1':nK n (bZ.mk t.ci t.ca t.b9 t.bm t.cj t.cg t.cD t.ch) (jK.mk lot.id lot.owner lot.area lot.from_) (aG.mk d.lot d.phases)=_:=h1;obtain⟨v,hE⟩:=amm (n:=n) (p:=lj t) (ms:=[⟨⟨#[97,114,101,97]⟩,e1⟩,⟨⟨#[99,111,118,101,114]⟩,e2⟩,⟨⟨#[102,108,111,111,114]⟩,e3⟩,⟨⟨#[102,108,111,111,114,115]⟩,e4⟩,⟨⟨#[104,101,105,103,104,116]⟩,e5⟩,⟨⟨#[104,111,109,101,115]⟩,e6⟩,⟨⟨#[114,117,110,111,102,102]⟩,e7⟩,⟨CK,CJ (qP lot) (gZ d)⟩,⟨⟨#[116,114,97,102,102,105,99]⟩,e8⟩]) (zs:=u6 t lot) (e:=li r) ht.plan (by simp) (by omega) hr hn1 hn2;have hE':=(agi (n:=n) (d:=t.ci) (ts:=t.ca) (z:=t.b9) (r:=t.bm) (r':=[]) (c:=t.cj) (v:=t.cg) (su:=t.cD) (h:=t.ch) (zs:=u6 t lot) (ms:=[⟨⟨#[97,114,101,97]⟩,e1⟩,⟨⟨#[99,111,118,101,114]⟩,e2⟩,⟨⟨#[102,108,111,111,114]⟩,e3⟩,⟨⟨#[102,108,111,111,114,115]⟩,e4⟩,⟨⟨#[104,101,105,103,104,116]⟩,e5⟩,⟨⟨#[104,111,109,101,115]⟩,e6⟩,⟨⟨#[114,117,110,111,102,102]⟩,e7⟩,⟨CK,CJ (qP lot) (gZ d)⟩,⟨⟨#[116,114,97,102,102,105,99]⟩,e8⟩]) (e:=li r) ht.plan.defs ht.plan.tabs (by simp) (by omega) hn1 hn2).trans hE;unfold li at hE';simp[sB,h1',hE',amP,h2',hE]
 |false=>
  cases (r.kind==1)with
  |true=>
   simp only[aj,ay,show(sB t lot d).ke=lot.area from rfl,show(sB t lot d).az=b8 d from rfl,abk (n:=n) lot.area hl (by omega),ai];rw[gm (λ v=>!TM (TK lot.area).1 (WH r) v) (λ v _=>abq v _ r (by omega)) (by omega) (by omega)];rfl
  |false=>
   cases (r.kind==2)with
   |true=>
    simp only[aj,ay,show(sB t lot d).az=b8 d from rfl];rw[gm (Se r) (λ v hm=>abr (hv v hm) r) (by omega) (by omega)];rfl
   |false=>
    cases (r.kind==3)with
    |true=>
     simp only[aj,ay,show(sB t lot d).az=b8 d from rfl];rw[gm (SU t.built d.lot r) (λ v _=>abv (s:=sB t lot d) ht.built (by omega)) (by omega) (by omega)];rfl
    |false=>rfl
def addN(out:List ByteArray)(name:ByteArray)(bad:Bool):List ByteArray:=bif bad&&!(out.any (fX name))then out++[name]else out
theorem ad1 out (name:ByteArray) bad:(addN out name bad).length<=out.length+1:=by unfold addN;cases (bad&&!(out.any (fX name)))<;>simp
theorem ad2{name:ByteArray}{bad:Bool}{out:List ByteArray}(hl:out.length<=1000)(hn:2000<=n):jM n name bad out=some (addN out name bad):=by
 have hmx:maxLen=9223372036854775807:=rfl;have hap:bL out.length out.length (sub [name] 0 1).length 1 16=true:=by simp[bL,sub];omega
 simp[jM,uH (n:=n) (l:=out) (a:=name) (by omega) (by omega),addN,hap];cases bad with
 |false=>rfl
 |true=>cases (out.any (fX name))<;>rfl
def alb(t:fM)(d:aG):Bool:=(b8 d).any λv=>!NX t.cp d.lot (uZ v)
def ajf:ByteArray:=⟨#[101,97,115,101,109,101,110,116]⟩
def PS(n:Nat)(t:fM)(lot:jK)(d:aG)(l:List cu):List ByteArray:=l.foldl (λ out r=>addN out r.name (GT n t lot d r)) []
theorem Kt(f:cu->Bool):∀(l:List cu) out,(l.foldl (λ out r=>addN out r.name (f r)) out).length<=out.length+l.length
 |[],out=>by simp
 |r::l,out=>by have h1:=Kt f l (addN out r.name (f r));have h2:=ad1 out r.name (f r);rw[foldl_cons,gH];omega
def applied(t:fM)(lot:jK)(day:Int):List cu:=t.bm.filter (qO (u6 t lot) day)
def uD(t:fM)(d:aG):jK:=(l7 t.land d.lot).1
def Np(n:Nat)(t:fM)(d:aG)(day:Int):List ByteArray:=bif uz n t d==0 then addN (PS n t (uD t d) d (applied t (uD t d) day)) ajf (alb t d)else []
theorem PU{t:fM}{d:aG} day (ht:WI t) (hd:Ym d) (hn:Yn n):oF n t d day=some (Np n t d day,uz n t d):=by
 obtain⟨hk,hv⟩:=look_eq (n:=n) ht hd hn;have hn1:=hn.1;have hvl:=uY hd.1;simp[oF,hk,Np];by_cases h0:uz n t d=0;have h0b:(uz n t d==0)=true:=by simp[h0]
 have h0c:(uz n t d !=0)=false:=by simp[h0]
 have hw:=ZQ ht.lots d.lot;have hz:=WK ht (uD t d);have hA:tJ n (bZ.mk t.ci t.ca t.b9 t.bm t.cj t.cg t.cD t.ch) (u6 t (uD t d)) day=some ((PL t.bm (u6 t (uD t d)) day).map λ(i:Nat)=>(i:Int)):=RQ _ _ _ (λ r hr=>(ht.rule r hr).1) ht.rules hz (by omega);have hal:(PL t.bm (u6 t (uD t d)) day).length<=100:=Nat.le_trans (length_filter_le _ _) (by rw[List.length_range];exact ht.rules);have hpick:(PL t.bm (u6 t (uD t d)) day).filterMap (λ i=>t.bm[i]?)=applied t (uD t d) day:=Ro (qO (u6 t (uD t d)) day) t.bm;have hloop:∀A:List Nat,A.length<=100->(∀ i∈A,i<t.bm.length)->iter (ng n t (sB t (uD t d) d,uz n t d) (A.map λ(i:Nat)=>i)) n (0,[])=some (PS n t (uD t d) d (A.filterMap λi=>t.bm[i]?)):=by
  intro A hA hAr
  have key:=gq (l:=A) (step:=ng n t (sB t (uD t d) d,uz n t d) (A.map λ(i:Nat)=>i)) (λ i s=>(i,s)) (λ i s=>match t.bm[i]? with
   |some r=>addN s r.name (GT n t (uD t d) d r)
   |none=>s) (λ s=>s) (λ i s=>s.length<=i) (λ i hi s hs=>by have hr:=hAr _ (getElem_mem hi);have hlm:(A.map λ(i:Nat)=>(i:Int)).length=A.length:=(by simp);have hg:bu (A.map λ(i:Nat)=>(i:Int)) ((0:Nat)+i)=some ((A[i]:Nat):Int):=(by rw[bJ (by omega)];simp);have hrr:=ht.rule _ (getElem_mem hr);have hb:=aje (n:=n) (t:=t) (lot:=uD t d) (d:=d) ht hw.1 hd (hv h0) hrr.2 hn;have e:=dD hr;simp only[ng,hlm,dR hi,aj,aW hi,hg,ai,bE hr,hb,aN,ad2 (n:=n) (name:=t.bm[A[i]].name) (bad:=GT n t (uD t d) d t.bm[A[i]]) (out:=s) (by omega) (by omega),aY i,e];exact⟨trivial,Nat.le_trans (ad1 _ _ _) (by omega)⟩) (λ s _=>by have hlm:(A.map λ(i:Nat)=>i).length=A.length:=(by simp);simp[ng]) n (by omega) [] (ax _)
  rw[ll]at key;rw[key];congr 1;unfold PS;generalize []=s0;clear key hA
  induction A generalizing s0 with
  |nil=>rfl
  |cons a A ih=>
   have ha:=hAr a (by simp);rw[foldl_cons,List.filterMap_cons];simp only[dD ha];rw[foldl_cons];exact ih (λ i hi=>hAr i (by simp[hi])) _
 have hlo:=hloop (PL t.bm (u6 t (uD t d)) day) hal (λ i hi=>by have:=(mem_filter.1 hi).1;simpa using this);rw[hpick]at hlo;have hrl:(PS n t (uD t d) d (applied t (uD t d) day)).length<=100:=by have h1:=Kt (GT n t (uD t d) d) (applied t (uD t d) day) [];have h2:(applied t (uD t d) day).length<=100:=Nat.le_trans (length_filter_le _ _) ht.rules;unfold PS;simp at h1;omega
 have hany:gX n (sB t (uD t d) d) (λ (y1:aD×Unit)=>mZ n y1.1 t d)=some (alb t d):=by
  have hs:∀v,mZ n v t d=some (!NX t.cp d.lot (uZ v)):=by intro v;have hl1:(uZ v).length=1:=rfl;have h:=Yh (n:=n) (l:=t.cp) (lot:=d.lot) (s:=uZ v) ht.eas.1 ht.eas.2 (by simp[uZ]) (by omega);simp[mZ,adY,h]
  simp[gX,show(sB t (uD t d) d).az=b8 d from rfl];rw[gm (λ v=>!NX t.cp d.lot (uZ v)) (λ v _=>hs v) (by omega) (by omega)];rfl
 have hsc:sB t (l7 t.land d.lot).1 d=sB t (uD t d) d:=rfl;simp only[h0b,h0c,aj,ay,hsc,show(sB t (uD t d) d).zones=u6 t (uD t d)from rfl,hA,ai,length_nil,aN,hlo,hany,ad2 (n:=n) (name:=⟨#[101,97,115,101,109,101,110,116]⟩) (bad:=alb t d) (out:=PS n t (uD t d) d (applied t (uD t d) day)) (by omega) (by omega),iP];rw[h0];rfl;have h0b:(uz n t d==0)=false:=by simpa using h0
 have h0c:(uz n t d !=0)=true:=by simpa using h0
 simp[h0b,h0c]
theorem ZU{t:fM}{d:aG} day (ht:WI t) (hd:Ym d) (hn:Yn n):kz n t d day=some ((uz n t d==0)&&decide (Np n t d day=[])):=by
 simp[kz,PU day ht hd hn];cases (uz n t d==0)with
 |false=>rfl
 |true=>
  simp;cases Np n t d day with
  |nil=>rfl
  |cons x l=>
   have:(((x::l).length:Nat):Int)≠0:=(by simp;omega);rw[beq_eq_false_iff_ne.2 this];simp
end Go.Proofs
