import Derived.Test.YthdllpdbgdfmiaaGreatTD1
open Go.IntKind (i64)
open List (length_take mem_map all_eq_true getElem_mem length_map mem_iff_getElem length_drop length_nil foldl_cons take_of_length_le mem_filter any_eq_true pairwise_cons length_filter_le map_append pairwise_append getElem_drop)
namespace Go.Proofs
open Go.Gb Go.RowKit
variable {n:Nat}
theorem jB(a b:Int):cmp_Compare_int a b=some (if a<b then -1 else if b<a then 1 else 0):=by by_cases h1:a<b;simp[cmp_Compare_int,cmp_isNaN_int,h1];by_cases h2:b<a;simp[cmp_Compare_int,cmp_isNaN_int,h1,h2];simp[cmp_Compare_int,cmp_isNaN_int,h1,h2]
theorem qb{l:List Int}(hl:l.length<1099511627776)(_:l.length<n):pY n l=some (kJ oc l):=by show N0 l=_;unfold N0;rw[Nat.ble_eq_true_of_le (show l.length<=1099511627775 by omega),aj]
theorem uR{l:List Int}(hl:l.length<1099511627776)(hn:l.length<n):p8 n l=some ((),jf l):=by rw[<- aeM];exact Zq (eq:=λx y=>x==y) (ne:=λx y=>x !=y) (λ x y=>by simp[bne]) hl hn
theorem TF{l:List Int}{a:Int}(hl:l.length<1099511627776)(hn:l.length<n):EQ n l a=some (xH (λ x=>a==x) l):=Sw hl hn
theorem Mq{l:List Int}{a:Int}(hl:l.length<1099511627776)(hn:l.length<n):rP n l a=some (l.any λx=>a==x):=by unfold rP;rw[TF hl hn,ai,xZ]
theorem Gp{l:List dJ}{φ:(dJ×Unit)->Option Bool}(p:dJ->Bool)(h:∀x∈l,φ (x,())=some (p x))(hl:l.length<1099511627776)(hn:l.length<n):sF n l φ=some (xH p l):=fZ p h hl hn
theorem Gq{l:List bS}{φ:(bS×Unit)->Option Bool}(p:bS->Bool)(h:∀x∈l,φ (x,())=some (p x))(hl:l.length<1099511627776)(hn:l.length<n):kV n l φ=some (xH p l):=fZ p h hl hn
theorem QG{l:List ax}(h:l.length<1099511627776):BN l=some l:=Sy (b:=32) (by omega) (by simp[maxLen];omega)
theorem OE{l:List (List ax)}(hf:l.flatten.length<1099511627776)(hl:l.length<1099511627776)(hn:l.length<n):zm n l=some l.flatten:=NT (ax.mk 0 0 0 0) (b:=32) hf (by omega) hl hn
theorem Dv{a b:List ax}(hl:a.length<1099511627776)(hn:a.length<n):o9 n a b=some (decide (a=b)):=by
 have e:o9 n a b=U1 n (λ x1 x2:ax=>!((x1.x0==x2.x0)&&((x1.y0==x2.y0)&&((x1.x1==x2.x1)&&((x1.y1==x2.y1)&&true))))) a b:=by kernel_rfl
 rw[e];refine Sz (λ x y=>?_) hl hn;obtain⟨a,b,c,d⟩:=x;obtain⟨e,f,g,h⟩:=y;simp;rw[kQ];simp
theorem Dw{a b:List aK}(hl:a.length<1099511627776)(hn:a.length<n):wB n a b=some (decide (a=b)):=by
 have e:wB n a b=U1 n (λ x1 x2:aK=>!((x1.from_==x2.from_)&&((x1.to==x2.to)&&true))) a b:=by kernel_rfl
 rw[e];refine Sz (λ x y=>?_) hl hn;obtain⟨a,b⟩:=x;obtain⟨c,d⟩:=y;simp;rw[kQ];simp
abbrev tM(a b:aK):Bool:=decide (a.from_<b.from_)
theorem OG:Go.Sort.SWO tM where
 irrefl x:=by simp[tM]
 trans x y z h1 h2:=by simp only[tM,bT]at *;omega
 ntrans x y z h1 h2:=by simp only[tM,dW]at *;omega
theorem KN{l:List aK}{φ:(aK×aK×Unit)->Option Int}(f:aK->aK->Int)(hφ:∀x y,φ (x,y,())=some (f x y))(hf:∀x y,decide (f x y<0)=tM x y)(hl:l.length<1099511627776)(_:l.length<n):vM n l φ=some (lU tM l):=
 aeV f hφ hf OG hl
theorem Bg{V O:Type}{step:V->Option (V⊕O)}(Inv:V->Prop)(Post:O->Prop)(μ:V->Nat)
 (h:∀v,Inv v->(∃ v',step v=some (.inl v')/\Inv v'/\μ v'< μ v)\/∃o,step v=some (.inr o)/\Post o):∀(n:Nat)(v:V),Inv v->μ v<n->∃o,iter step n v=some o/\Post o
 | 0,_,_,hn=>absurd hn (Nat.not_lt_zero _)
 |n+1,v,hi,hn=>by rcases h v hi with ⟨v',h1,h2,h3⟩|⟨o,h1,h2⟩;rw[fU h1];exact Bg Inv Post μ h n v' h2 (by omega);exact⟨o,dU h1,h2⟩
theorem Jc:∀(N:Nat)(l:List Nat),l.Nodup->(∀ y∈l,y<N)->l.length<=N
 | 0,[],_,_=>aB _
 | 0,x::l,_,h=>absurd (h x (by simp)) (by omega)
 |N+1,l,hn,h=>by
  have h1:=Jc N (l.filter λy=>decide (y≠N)) (hn.filter _) (λ y hy=>by rw[mem_filter]at hy;have:=h y hy.1;have:=hy.2;simp at this;omega);have h2:=List.length_eq_countP_add_countP (λ y=>decide (y≠N)) (l:=l);rw[List.countP_eq_length_filter]at h2;have h3:List.countP (λ a=>decide ¬(decide (a≠N)=true)) l=l.count N:=by rw[List.count];refine List.countP_congr λy _=>?_;simp
  have h4:=List.nodup_iff_count.1 hn N;omega
def QH(us:List (List Int))(N:Nat):Prop:=us.length=N/\N<=4000000/\∀l∈us,l.length<=4000000/\∀k∈l,0<=k/\k<N
structure BI(us:List (List Int))(N to h:Nat)(d:List Int)(F:List Nat):Prop where
 dl:d.length=N
 nd:F.Nodup
 rg:∀x∈F,x<N
 mem:∀i:Nat,i<N->(0<=d.getD i 0↔i∈F)
 ub:∀j x:Nat,F[j]? =some x->d.getD x 0<=(j:Int)
 pre:∀j x:Nat,F[j]? =some x->0<j->∃p y:Nat,p<j/\F[p]? =some y/\(y:Int)∈us.getD x []/\d.getD y 0=d.getD x 0-1
 hd:F[0]? =some to/\d.getD to 0=0
 hh:h<=F.length
 cl:∀p y:Nat,p<h->F[p]? =some y->∀i:Nat,i<N->(y:Int)∈us.getD i []->0<=d.getD i 0
theorem BI.len{us:List (List Int)}{N to h:Nat}{d:List Int}{F:List Nat}(b:BI us N to h d F):F.length<=N:=by exact Jc N F b.nd b.rg
theorem BI.push{us:List (List Int)}{N to h:Nat}{d:List Int}{F:List Nat}(b:BI us N to h d F){i x p:Nat}(hi:i<N)(hd:d.getD i 0<0)(hp:F[p]? =some x)(hx:(x:Int)∈us.getD i []):
 BI us N to h (d.set i (d.getD x 0+1)) (F++[i]):=by
 have hiF:i∉F:=λhm=>by have:=(b.mem i hi).2 hm;omega
 have T8:x∈F:=dh hp;have hne:∀y,y∈F->i≠y:=λy hy e=>hiF (e ▸ hy);have hset:∀y,y∈F->(d.set i (d.getD x 0+1)).getD y 0=d.getD y 0:=λy hy=>by simp[List.getElem?_set_ne (hne y hy)]
 have wa:(d.set i (d.getD x 0+1)).getD i 0=d.getD x 0+1:=by
  have:i<d.length:=by rw[b.dl];exact hi
  simp[this]
 have hx0:0<=d.getD x 0:=(b.mem x (b.rg x T8)).2 T8;have hlt:p<F.length:=(dH.1 hp).1;refine⟨by simpa using b.dl,?_,?_,?_,?_,?_,?_,?_,?_⟩;rw[List.nodup_append];exact⟨b.nd,by simp,λa ha c hc=>by simp at hc;subst hc;exact λe=>hiF (e ▸ ha)⟩;intro y hy;rw[bV]at hy;rcases hy with hy|hy;exact b.rg y hy;simp at hy;omega;intro j hj;by_cases e:i=j;subst e;rw[wa];exact⟨λ _=>by simp,λ_=>by omega⟩;simp only[List.getD,List.getElem?_set_ne e];rw[bV];have:=b.mem j hj;simp at this;rw[this];simp[Ne.symm e];intro j y hy;rw[List.getElem?_append]at hy;split at hy;rw[hset y (dh hy)];exact b.ub j y hy;rename_i hj;have:y=i/\j=F.length:=by
  cases h:j-F.length with
  |zero=>rw[h]at hy;simp at hy;exact⟨hy.symm,by omega⟩
  |succ z=>rw[h]at hy;simp at hy
 obtain⟨rfl,rfl⟩:=this;rw[wa];have:=b.ub p x hp;omega;intro j y hy hj;rw[List.getElem?_append]at hy;split at hy;have⟨p',y',h1,h2,h3,h4⟩:=b.pre j y hy hj;exact⟨p',y',h1,by rw[List.getElem?_append_left (by have:=(dH.1 h2).1;exact this)];exact h2,h3,by rw[hset y' (dh h2),hset y (dh hy)];exact h4⟩;rename_i hj';have:y=i/\j=F.length:=by
  cases h:j-F.length with
  |zero=>rw[h]at hy;simp at hy;exact⟨hy.symm,by omega⟩
  |succ z=>rw[h]at hy;simp at hy
 obtain⟨rfl,rfl⟩:=this;exact⟨p,x,hlt,by rw[List.getElem?_append_left hlt];exact hp,hx,by rw[wa,hset x T8];omega⟩;have h0:=(dH.1 b.hd.1).1;exact⟨by rw[List.getElem?_append_left h0];exact b.hd.1,by rw[hset _ (dh b.hd.1)];exact b.hd.2⟩;have:=b.hh;simp;omega;intro p' y hp' hy j hj hm;rw[List.getElem?_append_left (by have:=b.hh;omega)]at hy;have:=b.cl p' y hp' hy j hj hm;rw[hset j ((b.mem j hj).1 this)];exact this
theorem pP{α:Type}(o:Nat)(l:List α):Wl o l=l.drop o:=by cases o<;>simp[Wl]
def BS(us:List (List Int))(N to h x:Nat):(Int×Int×List Int×List Int)->Prop
 |(v4,v5,d,v7)=>∃(o i:Nat)(F:List Nat),v4=o/\v5=i/\o<=v7.length/\v7.drop o=(F.drop (h+1)).map (λ k:Nat=>(k:Int))/\i<=N/\BI us N to h d F/\F[h]? =some x/\∀i',i'<i->(x:Int)∈us.getD i' []->0<=d.getD i' 0
theorem ao8{n N to h x:Nat}{a0:nW}{r1:List Int}(hg:QH a0.uses N)(hr:r1.length=N)(hn:4000001<=n)(v:Int×Int×List Int×List Int)(hv:BS a0.uses N to h x v):
 (∃ v',gI n a0 r1 x v=some (.inl v')/\BS a0.uses N to h x v'/\N-v'.2.1.toNat<N-v.2.1.toNat)\/
 ∃q,gI n a0 r1 x v=some (.inr q)/\∃(o:Nat)(F:List Nat),q.1=(o:Int)/\o<=q.2.2.length/\q.2.2.drop o=(F.drop (h+1)).map (λ k:Nat=>(k:Int))/\BI a0.uses N to (h+1) q.2.1 F:=by
 obtain⟨v4,v5,d,v7⟩:=v;obtain⟨o,i,F,rfl,rfl,ho,hq,hi,hb,hx,hc⟩:=hv;have hx':x<N:=hb.rg x (dh hx);have B9:=hg.1;have hdl:=hb.dl;by_cases hlt:i<N;left;have xd:i<a0.uses.length:=by omega
 have hl:=hg.2.2 a0.uses[i] (getElem_mem xd);have hcon:=Mq (n:=n) (l:=a0.uses[i]) (a:=(x:Int)) (by omega) (by omega);have hud:a0.uses.getD i []=a0.uses[i]:=by simp[xd]
 have hdi:d[i]'(by omega)=d.getD i 0:=by simp[show i<d.length by omega]
 have G4:d[x]'(by omega)=d.getD x 0:=by simp[show x<d.length by omega]
 simp only[gI,show decide ((i:Int)<((a0.uses.length:Int)))=true from by simp;omega,aj,aN xd,ai,aO (show i<r1.length by omega),aO (show x<r1.length by omega),
  aQ (show i<d.length by omega),aQ (show x<d.length by omega),hcon,hdi,G4]
 have hFl:=hb.len;have hN:=hg.2.1;have hlen:v7.length-o=F.length-(h+1):=by have:=congrArg List.length hq;simpa using this
 have hmx:maxLen=9223372036854775807:=rfl;by_cases hA:d.getD i 0<0/\(x:Int)∈a0.uses[i];have h1:(a0.uses[i].any λy=>(x:Int)==y)=true:=any_eq_true.2 ⟨_,hA.2,by simp⟩;have hx0:0<=d.getD x 0:=(hb.mem x hx').2 (dh hx);have hxu:=hb.ub h x hx;have XX:h<F.length:=(dH.1 hx).1;have hap:bH (v7.drop o).length (v7.length-o) (sub [(i:Int)] 0 1).length 1 8=true:=by simp[bH,sub];omega
 have hw:i64.wrap (d.getD x 0+1)=d.getD x 0+1:=dS (by omega) (by omega);refine⟨(((0:Nat):Int),((i+1:Nat):Int),d.set i (d.getD x 0+1),v7.drop o++[(i:Int)]),?_,?_,by show N-((i+1:Nat):Int).toNat<N-(i:Int).toNat;omega⟩;simp only[hA.1,decide_true,aj,ai,h1,Int.toNat_natCast,pP,hap,dO,hw,aG i];simp[sub];refine⟨0,i+1,F++[i],rfl,rfl,Nat.zero_le _,?_,by omega,hb.push hlt hA.1 hx (by rw[hud];exact hA.2),by rw[List.getElem?_append_left XX];exact hx,?_⟩;rw[List.drop_zero,hq,List.drop_append_of_le_length (by omega)];simp;intro i' hi' hm;have hpush:=hb.push hlt hA.1 hx (by rw[hud];exact hA.2);by_cases e:i'=i;subst e;exact(hpush.mem i' hlt).2 (by simp);have:=hc i' (by omega) hm;exact(hpush.mem i' (by omega)).2 (List.mem_append_left _ ((hb.mem i' (by omega)).1 this));have hB:(bif decide (d.getD i 0<0)then some (a0.uses[i].any λy=>(x:Int)==y)else some false)=some false:=by
  by_cases h2:d.getD i 0<0;simp only[h2,decide_true,aj,aZ];cases hc:(a0.uses[i].any λy=>x==y)with
  |false=>rfl
  |true=>
   obtain⟨y,hy,e⟩:=any_eq_true.1 hc;obtain rfl:x=y:=(by simpa using e);exact absurd ⟨h2,hy⟩ hA
  simp only[h2,decide_false,au]
 refine⟨(o,(i+1:Nat),d,v7),?_,?_,by show N-((i+1:Nat):Int).toNat<N-(i:Int).toNat;omega⟩;rw[hB];simp[EL (show o+(v7.length-o)=v7.length by omega),aG i];refine⟨o,i+1,F,rfl,rfl,ho,hq,by omega,hb,hx,λi' hi' hm=>?_⟩;by_cases e:i'=i;subst e;rw[hud]at hm;exact Int.not_lt.1 λh2=>hA ⟨h2,hm⟩;exact hc i' (by omega) hm;right;have hiN:i=N:=by omega
 have XX:h<F.length:=(dH.1 hx).1;refine⟨(o,d,v7),?_,o,F,rfl,ho,hq,?_⟩;simp only[gI,show decide ((i:Int)<(a0.uses.length))=false from by simp;omega,au,Int.toNat_natCast,EL (show o+(v7.length-o)=v7.length by omega),aj];refine⟨hb.dl,hb.nd,hb.rg,hb.mem,hb.ub,hb.pre,hb.hd,XX,λp y hp hy j hj hm=>?_⟩;by_cases e:p=h;subst e;rw[hx]at hy;cases hy;exact hc j (by omega) hm;exact hb.cl p y (by omega) hy j hj hm
def BO(us:List (List Int))(N to h:Nat):(Int×List Int×List Int)->Prop
 |(v1,d,v3)=>∃(o:Nat)(F:List Nat),v1=o/\o<=v3.length/\v3.drop o=(F.drop h).map (λ k:Nat=>(k:Int))/\BI us N to h d F
theorem ao9{n N to h:Nat}{a0:nW}{r1:List Int}(hg:QH a0.uses N)(hr:r1.length=N)(hn:4000001<=n)(v:Int×List Int×List Int)(hv:BO a0.uses N to h v):
 (∃ v',d9 n a0 r1 v=some (.inl v')/\BO a0.uses N to (h+1) v')\/∃d,d9 n a0 r1 v=some (.inr d)/\∃F,BI a0.uses N to F.length d F:=by
 obtain⟨v1,d,v3⟩:=v;obtain⟨o,F,rfl,ho,hq,hb⟩:=hv;have hlen:v3.length-o=F.length-h:=by have:=congrArg List.length hq;simpa using this
 by_cases hlt:h<F.length;left;obtain⟨x,hx⟩:∃x,F[h]? =some x:=⟨_,dI hlt⟩;have hox:v3[o]? =some x:=by have:=congrArg (λ l=>l[0]?) hq;simpa[hx]using this
 have hdr:v3.drop (o+1)=(F.drop (h+1)).map (λ k:Nat=>(k:Int)):=by have:=congrArg (λ l=>l.drop 1) hq;simpa using this
 obtain⟨q,hq1,o2,F2,hq2,hq3,hq4,hq5⟩:=Bg (BS a0.uses N to h x) (λ q:Int×List Int×List Int=>∃(o:Nat)(F:List Nat),q.1=o/\o<=q.2.2.length/\q.2.2.drop o=(F.drop (h+1)).map (λ k:Nat=>(k:Int))/\BI a0.uses N to (h+1) q.2.1 F)
  (λ v=>N-v.2.1.toNat) (ao8 (r1:=r1) hg hr hn) n ((o+1:Nat),0,d,v3) ⟨o+1,0,F,rfl,rfl,by omega,hdr,Nat.zero_le _,hb,hx,λi' hi'=>absurd hi' (Nat.not_lt_zero _)⟩ (by have:=hg.2.1;simp;omega)
 obtain⟨w1,w2,w3⟩:=q;simp only at hq2 hq3 hq4 hq5;subst hq2;refine⟨(o2,w2,w3),?_,o2,F2,rfl,hq3,hq4,hq5⟩;have hat:bj v3 (o+0)=some (x:Int):=by rw[Int.add_zero,ahj];exact hox
 simp only[d9,Int.toNat_natCast,show decide (((v3.length-o:Nat):Int)>0)=true from by simp;omega,aj,show cM 0 (v3.length-o)=true from by simp[cM];omega,hat,ai,
  o7 (show 0<=1 by omega) (show (1:Int)<=(v3.length-o:Nat)by omega) (Int.le_refl _),EL (show o+1+(v3.length-o-1)=v3.length by omega),hq1,EL (show o2+(w3.length-o2)=w3.length by omega)]
 right;have hhF:h=F.length:=by have:=hb.hh;omega
 refine⟨d,?_,F,hhF ▸ hb⟩;simp only[d9,Int.toNat_natCast,show decide (((v3.length-o:Nat):Int)>0)=false from by simp;omega,au]
theorem dw{V O:Type}{step:V->Option (V⊕O)}(Inv:Nat->V->Prop)(Post:O->Prop)(K:Nat)(hK:∀k v,Inv k v->k<=K)
 (h:∀k v,Inv k v->(∃ v',step v=some (.inl v')/\Inv (k+1) v')\/∃o,step v=some (.inr o)/\Post o):∀(n k:Nat)(v:V),Inv k v->K<n+k->∃o,iter step n v=some o/\Post o
 | 0,k,v,hi,hn=>absurd (hK k v hi) (by omega)
 |n+1,k,v,hi,hn=>by rcases h k v hi with ⟨v',h1,h2⟩|⟨o,h1,h2⟩;rw[fU h1];exact dw Inv Post K hK h n (k+1) v' h2 (by omega);exact⟨o,dU h1,h2⟩
theorem OH{n N to:Nat}{a0:nW}(hg:QH a0.uses N)(hd:a0.defs.length=N)(hn:4000002<=n)(ht:to<N):∃d F,jY n a0 to=some d/\BI a0.uses N to F.length d F:=by
 have hN:=hg.2.1;have hr:q8 (sub ([(-1)]:List Int) 0 1) N=some (List.replicate N (-1)):=by show(ck (decide (0<=(N:Int))&&decide ((N:Int)<=1000000000000)) (some (List.replicate (N:Int).toNat (-1))))=_;rw[show decide (0<=(N:Int))=true by simp,show decide ((N:Int)<=1000000000000)=true by simp;omega];rfl
 have hlr:(List.replicate N (-1:Int)).length=N:=List.length_replicate;have hb0:BI a0.uses N to 0 ((List.replicate N (-1:Int)).set to 0) [to]:=by
  have hto:((List.replicate N (-1:Int)).set to 0).getD to 0=0:=by simp[ht]
  refine⟨by simp,by simp,λx hx=>by simp at hx;omega,λi hi=>?_,λj x hx=>?_,λj x hx hj=>?_,⟨rfl,hto⟩,by simp,λp y hp=>absurd hp (Nat.not_lt_zero _)⟩;by_cases e:to=i;subst e;rw[hto];simp;simp[List.getElem?_set_ne e];simp[hi,Ne.symm e];cases j with
  |zero=>simp at hx;subst hx;rw[hto];simp
  |succ j=>simp at hx
  cases j with
  |zero=>omega
  |succ j=>simp at hx
 obtain⟨d,h1,F,h2⟩:=dw (step:=d9 n a0 (List.replicate N (-1))) (λ h v=>BO a0.uses N to h v) (λ d=>∃F,BI a0.uses N to F.length d F) N (λ h v ⟨_,_,_,_,_,hb⟩=>Nat.le_trans hb.hh hb.len) (λ h v hv=>ao9 (n:=n) (r1:=List.replicate N (-1)) hg hlr (by omega) v hv) n 0
  ((0:Nat),(List.replicate N (-1:Int)).set to 0,[to]) ⟨0,[to],rfl,Nat.zero_le _,rfl,hb0⟩ (by omega)
 refine⟨d,F,?_,h2⟩;have hdl:d.length=N:=h2.dl;have h1':iter (d9 n a0 (List.replicate N (-1))) n (0,(List.replicate N (-1:Int)).set to 0,[to])=some d:=h1;simp only[jY,hd,hr,ai,hlr,aO ht,aQ (show to<(List.replicate N (-1:Int)).length by omega),aj,show(((0:Nat):Int)+to).toNat=to by omega,h1];simp[sub,hdl];exact take_of_length_le (Nat.le_of_eq hdl)
def Nr(d:List Int)(l:List Int)(w:Int):Prop:=
 (w=-1/\∀k∈l,d.getD k.toNat 0<0)\/(w∈l/\0<=d.getD w.toNat 0/\∀k∈l,0<=d.getD k.toNat 0->d.getD w.toNat 0<=d.getD k.toNat 0)
theorem Nr.snoc{d l:List Int}{w k:Int}(h:Nr d l w)(hk:0<=k)(hl:∀x∈l,0<=x):Nr d (l++[k]) (if 0<=d.getD k.toNat 0/\(w<0\/d.getD k.toNat 0<d.getD w.toNat 0)then k else w):=by split;rename_i h1;refine .inr ⟨by simp,h1.1,λz hz h0=>?_⟩;rw[bV]at hz;rcases hz with hz|hz;rcases h with ⟨rfl,h⟩|⟨hw,hw0,h⟩;have:=h z hz;omega;have h2:=h z hz h0;have:=hl w hw;rcases h1.2 with h3|h3<;>omega;simp at hz;subst hz;exact Int.le_refl _;rename_i h1;rcases h with ⟨rfl,h⟩|⟨hw,hw0,h⟩;refine .inl ⟨rfl,λz hz=>?_⟩;rw[bV]at hz;rcases hz with hz|hz;exact h z hz;simp at hz;subst hz;exact Int.not_le.1 λh2=>h1 ⟨h2,.inl (by omega)⟩;refine .inr ⟨List.mem_append_left _ hw,hw0,λz hz h0=>?_⟩;rw[bV]at hz;rcases hz with hz|hz;exact h z hz h0;simp at hz;subst hz;exact Int.not_lt.1 λh2=>h1 ⟨h0,.inr h2⟩
theorem ajH{n N:Nat}{d l:List Int}(hd:d.length=N)(hl:l.length<=4000000)(hr:∀k∈l,0<=k/\k<N)(hn:4000001<=n):∃w,iter (jb d l) n (-1,0)=some w/\Nr d l w:=by
 refine dw (λ i (v:Int×Int)=>i<=l.length/\v.2=i/\Nr d (l.take i) v.1) (λ w=>Nr d l w) l.length (λ k v h=>h.1) ?_ n 0 _ ⟨Nat.zero_le _,rfl,.inl ⟨rfl,by simp⟩⟩ (by omega);rintro i ⟨v3,v4⟩ ⟨hi,rfl,hN⟩;by_cases hlt:i<l.length;left;have hk:=hr l[i] (getElem_mem hlt);obtain⟨k,hk2⟩:=Int.eq_ofNat_of_zero_le hk.1;have hkN:k<d.length:=by omega
 have J0:d[k]=d.getD k 0:=by simp[hkN]
 have htk:l.take (i+1)=l.take i++[l[i]]:=by rw[List.take_add_one,dI hlt];rfl
 have hlk:∀x∈l.take i,0<=x:=λx hx=>(hr x (List.mem_of_mem_take hx)).1;have hsn:=hN.snoc hk.1 hlk;refine⟨(if 0<=d.getD (l[i]).toNat 0/\(v3<0\/d.getD (l[i]).toNat 0<d.getD v3.toNat 0)then l[i]else v3,(i+1:Nat)),?_,hlt,rfl,by rw[htk];exact hsn⟩;simp only[jb,show decide ((i:Int)<l.length)=true from by simp;omega,aj,aN hlt,ai,hk2,aO hkN,aQ hkN,J0,Int.toNat_natCast,aG i];by_cases h0:0<=d.getD k 0;by_cases h1:v3<0;simp only[h0,h1,decide_true,aj,ai,true_and,true_or,if_true];have hv:v3∈l.take i:=by rcases hN with ⟨rfl,_⟩|⟨h,_⟩;omega;exact h
 have B8:=hr v3 (List.mem_of_mem_take hv);obtain⟨z,hz⟩:=Int.eq_ofNat_of_zero_le B8.1;subst hz;have G2:z<d.length:=by omega
 have hgz:d[z]=d.getD z 0:=by simp[G2]
 simp only[h0,decide_true,aj,h1,decide_false,au,aO G2,aQ G2,ai,hgz,Int.toNat_natCast,true_and,false_or];by_cases h2:d.getD k 0<d.getD z 0;simp only[h2,decide_true,aj,if_true,ai];simp only[h2,decide_false,au,if_false,ai];simp only[h0,decide_false,au,ai,false_and,if_false];right;refine⟨v3,?_,?_⟩;simp only[jb,show decide ((i:Int)<l.length)=false from by simp;omega,au];rw[take_of_length_le (by omega)]at hN;exact hN
theorem BI.step{us:List (List Int)}{N to h:Nat}{d:List Int}{F:List Nat}(b:BI us N to h d F){x:Nat}(hx:x<N)(hne:x≠to)(h0:0<=d.getD x 0):∃y:Nat,(y:Int)∈us.getD x []/\d.getD y 0=d.getD x 0-1/\0<=d.getD y 0:=by
 obtain⟨j,hj,hjx⟩:=mem_iff_getElem.1 ((b.mem x hx).1 h0);have hj':F[j]? =some x:=by rw[dI hj,hjx]
 have hj0:0<j:=by
  cases j with
  |zero=>rw[b.hd.1]at hj';cases hj';exact absurd rfl hne
  |succ j=>exact Nat.succ_pos _
 have⟨p,y,_,h2,h3,h4⟩:=b.pre j x hj' hj0;have hyF:=dh h2;exact⟨y,h3,h4,(b.mem y (b.rg y hyF)).2 hyF⟩
theorem abd{n N fr:Nat}{a1:List fB}{us:List (List Int)}(hg:QH us N)(hd:a1.length=N)(hn:4000003<=n)(hf:fr<N):∃d F c,BI us N fr F.length d F/\gD n fr a1 us=some (a1,us,c)/\c.length<=N+1/\(c=[]->∀k∈us.getD fr [],d.getD k.toNat 0<0):=by
 obtain⟨d,F,hdi,hb⟩:=OH (n:=n) (a0:=nW.mk a1 us) hg hd (by omega) hf;have hN:=hg.2.1;have B9:=hg.1;have hmx:maxLen=9223372036854775807:=rfl;have hloop:∃o,iter (fD n fr a1 us d) n (fr,[])=some o/\∃c,o=.inr (a1,us,c)/\c.length<=N+1/\(c=[]->∀k∈us.getD fr [],d.getD k.toNat 0<0):=by
  refine dw (λ k (v:Int×List ByteArray)=>∃at_:Nat,v.1=at_/\at_<N/\v.2.length=k/\k<=N/\((k=0/\at_=fr)\/(0<k/\at_≠fr/\0<=d.getD at_ 0/\d.getD at_ 0+k<=N))) _ N (λ k v ⟨_,_,_,_,h,_⟩=>h) ?_ n 0 _ ⟨fr,rfl,hf,rfl,Nat.zero_le _,.inl ⟨rfl,rfl⟩⟩ (by omega);rintro k ⟨v1,v2⟩ ⟨x,rfl,hx,hv2,hkN,hst⟩;simp at hv2;have hxa:x<a1.length:=by omega
  have hxu:x<us.length:=by omega
  have hl:=hg.2.2 us[x] (getElem_mem hxu);obtain⟨w,hw,hnr⟩:=ajH (n:=n) (d:=d) (l:=us[x]) hb.dl hl.1 hl.2 (by omega);have hgu:us.getD x []=us[x]:=by simp[hxu]
  have hap:bH v2.length v2.length (sub [a1[x].name] 0 1).length 1 16=true:=by simp[bH,sub];omega
  simp only[fD,aN hxa,aN hxu,ai,hap,aj,dO,hw];have hsl:(v2++sub [a1[x].name] 0 1).length=k+1:=by simp[sub,hv2]
  have hne:((v2++sub [a1[x].name] 0 1).length==0)=false:=by rw[hsl];simp
  rcases hnr with ⟨rfl,hno⟩|⟨Pc,hw0,hmin⟩;right;refine⟨.inr (a1,us,[]),by simp,[],rfl,by simp,λ_=>?_⟩;rcases hst with ⟨_,rfl⟩|⟨_,T7,hx0,_⟩;rw[hgu];exact hno;have⟨y,hy,_,hy0⟩:=hb.step hx T7 hx0;have hy':(y:Int)∈us[x]:=by rw[<- hgu];exact hy
  have:=hno _ hy';simp only[Int.toNat_natCast]at this;omega;have hwr:=hl.2 w Pc;obtain⟨z,rfl⟩:=Int.eq_ofNat_of_zero_le hwr.1;simp only[Int.toNat_natCast]at hw0 hmin;by_cases Pa:z=fr;right;subst Pa;refine⟨.inr (a1,us,v2++sub [a1[x].name] 0 1),?_,_,rfl,by omega,λh=>by rw[h]at hsl;simp at hsl⟩;simp only[show decide ((z:Int)<0)=false from by simp,au,beq_self_eq_true,aj,hne,Bool.not_false,Bool.true_and,aH,Option.map_some];left;have G2:z<N:=by omega
  have hb1:d.getD z 0+(k+1:Nat)<=N:=by rcases hst with ⟨hk0,rfl⟩|⟨_,T7,hx0,hle⟩;have hzF:=(hb.mem z G2).1 hw0;obtain⟨j,hj,hjz⟩:=mem_iff_getElem.1 hzF;have h3:=hb.ub j z (by rw[dI hj,hjz]);have:=hb.len;omega;have⟨y,hy,hyd,hy0⟩:=hb.step hx T7 hx0;have:=hmin y (by rw[<- hgu];exact hy) (by simpa using hy0);simp only[Int.toNat_natCast]at this;omega
  refine⟨(z,v2++sub [a1[x].name] 0 1),?_,z,rfl,G2,hsl,by omega,.inr ⟨Nat.succ_pos _,Pa,hw0,hb1⟩⟩;simp[show decide ((z:Int)<0)=false from by simp,show((z:Int)==fr)=false from by simp;omega]
 obtain⟨o,h1,c,rfl,h2⟩:=hloop;refine⟨d,F,c,hb,?_,h2⟩;simp only[gD,hdi,ai,h1];simp
theorem acF(a b:ByteArray):∃r,nX a b=some r:=by simp[nX,cmp_isNaN_string];cases (!a.toList==a.toList)<;>cases (!b.toList==b.toList)<;>cases V9 a b<;>cases (a.toList==b.toList)<;>exact⟨_,rfl⟩
theorem acG{a b:List ByteArray}(ha:a.length<=5000000)(hn:5000001<=n):∃r,lW n a b=some r:=by
 obtain⟨o,h,_⟩:=dw (step:=lV a b) (λ i v=>v=i/\i<=a.length) (λ _=>True) a.length (λ k v h=>h.2) (by
  rintro i v ⟨rfl,hi⟩;by_cases hlt:i<a.length;simp only[lV,show decide ((i:Int)<a.length)=true from by simp;omega,aj,aN hlt,ai];by_cases hb:i<b.length;have⟨r,hr⟩:=acF a[i] b[i];simp only[show decide ((i:Int)>=b.length)=false from by simp;omega,au,aN hb,ai,hr];cases hr0:(r !=0)with
  |true=>exact .inr ⟨_,rfl,trivial⟩
  |false=>exact .inl ⟨_,rfl,by rw[bB (by omega)],by omega⟩
  simp only[show decide ((i:Int)>=b.length)=true from by simp;omega,aj];exact .inr ⟨_,rfl,trivial⟩;simp only[lV,show decide ((i:Int)<a.length)=false from by simp;omega,au];exact .inr ⟨_,rfl,trivial⟩) n 0 0 ⟨rfl,Nat.zero_le _⟩ (by omega)
 simp only[lW,h];cases o with
 |inl u=>cases u;simp only[dF];cases decide ((a.length:Int)<b.length)<;>exact⟨_,rfl⟩
 |inr r=>exact⟨r,by simp⟩
def tB(us:List (List Int))(N j:Nat):Prop:=∃d F,BI us N j F.length d F/\∀k∈us.getD j [],d.getD k.toNat 0<0
theorem SH{n N:Nat}{a0:List fB}{us:List (List Int)}(hg:QH us N)(hd:a0.length=N)(hn:5000003<=n):∃c,fJ n a0 us=some (a0,us,c)/\(c=[]->∀j,j<N->tB us N j)/\c.length<=N+1:=by
 have hN:=hg.2.1
 obtain⟨o,h1,c,rfl,h2⟩:=dw (step:=dD n a0) (λ i (v:Int×List fB×List (List Int)×List ByteArray)=>∃c,v=((i:Int),a0,us,c)/\i<=N/\c.length<=N+1/\(c=[]->∀j,j<i->tB us N j))
  (λ o=>∃c,o=(a0,us,c)/\(c=[]->∀j,j<N->tB us N j)/\c.length<=N+1) N (λ k v ⟨_,_,h,_⟩=>h) (by
  rintro i v ⟨c,rfl,hi,hcl,hc⟩;by_cases hlt:i<N;left;obtain⟨d,F,c2,hb,hci,Kf,hc2⟩:=abd (n:=n) (a1:=a0) hg hd (by omega) hlt;simp only[dD,show decide ((i:Int)<a0.length)=true from by simp;omega,aj,hci,ai,aG i,dY,aH];have hfin:∀c':List ByteArray,c'.length<=N+1->(c'=[]->c=[]/\c2=[])->∃c'',(((i+1:Nat):Int),a0,us,c')=(((i+1:Nat):Int),a0,us,c'')/\i+1<=N/\c''.length<=N+1/\(c''=[]->∀j,j<i+1->tB us N j):=λc' hl' he=>
   ⟨c',rfl,hlt,hl',λe j hj=>by have⟨e1,e2⟩:=he e;by_cases h:j=i;subst h;exact⟨d,F,hb,hc2 e2⟩;exact hc e1 j (by omega)⟩
  obtain⟨r,hr⟩:=acG (n:=n) (a:=c2) (b:=c) (by omega) (by omega);cases h0:(c2.length==0)with
  |true=>
   have e2:c2=[]:=List.eq_nil_of_length_eq_zero (by simpa using h0);exact⟨_,by simp,hfin c hcl λe=>⟨e,e2⟩⟩
  |false=>
   have hne:c2≠[]:=λe=>(by rw[e]at h0;simp at h0);simp only[au,ai];have key:∃b,(bif c.length==0 then some true else bif decide ((c2.length:Int)<c.length)then some true else bif(c2.length:Int)==c.length then(lW n c2 c).bind λr2=>some (decide (r2<0))else some false)=some b/\(c.length=0->b=true):=by
    cases h3:(c.length==0)with
    |true=>exact⟨true,rfl,λ_=>rfl⟩
    |false=>
     have hcn:c.length≠0:=(by simpa using h3);simp only[au,hr,ai];cases decide ((c2.length:Int)<c.length)<;>cases ((c2.length:Int)==c.length)<;>exact⟨_,rfl,λe=>absurd e hcn⟩
   obtain⟨b,hb1,hb2⟩:=key;rw[hb1];cases b with
   |true=>exact⟨_,by simp,hfin c2 Kf λe=>absurd e hne⟩
   |false=>exact⟨_,by simp,hfin c hcl λe=>by rw[e]at hb2;exact absurd (hb2 rfl) (by simp)⟩
  right;refine⟨(a0,us,c),?_,c,rfl,λe j hj=>hc e j (by omega),hcl⟩;simp only[dD,show decide ((i:Int)<a0.length)=false from by simp;omega,au,aH,aj]) n 0 (0,a0,us,[]) ⟨[],rfl,Nat.zero_le _,by simp,λ_ j hj=>absurd hj (Nat.not_lt_zero _)⟩ (by omega)
 exact⟨c,by simp[fJ,h1],h2⟩
theorem BI.back{us:List (List Int)}{N to:Nat}{d:List Int}{F:List Nat}(b:BI us N to F.length d F){i y:Nat}(hi:i<N)(hy:y<N)(h:(y:Int)∈us.getD i [])(h0:0<=d.getD y 0):0<=d.getD i 0:=by obtain⟨j,hj,hjy⟩:=mem_iff_getElem.1 ((b.mem y hy).1 h0);exact b.cl j y hj (by rw[dI hj,hjy]) i hi h
theorem apa{us:List (List Int)}{N:Nat}(hg:QH us N)(hf:∀j,j<N->tB us N j)(done:Nat->Prop){i0:Nat}(h0:i0<N)(hd0:¬done i0):∃i,i<N/\¬done i/\∀k∈us.getD i [],done k.toNat:=by
 refine vB λhno=>?_;have hstep:∀i:{i:Nat // i<N/\¬done i},∃k:{k:Nat // k<N/\¬done k},(k.1:Int)∈us.getD i.1 []:=by
  rintro⟨i,hi,hnd⟩;refine vB λh=>hno ⟨i,hi,hnd,λk hk=>vB λhkd=>h ?_⟩;have hl:us.getD i []∈us:=by have:i<us.length:=(by rw[hg.1];exact hi);simp[this]
  have hr:=(hg.2.2 _ hl).2 k hk;exact⟨⟨k.toNat,by omega,hkd⟩,by show(k.toNat:Int)∈_;rw[Int.toNat_of_nonneg hr.1];exact hk⟩
 obtain⟨f,hfs⟩:=Classical.axiomOfChoice hstep
 let g:Nat->{i:Nat // i<N/\¬done i}:=λj=>Nat.rec ⟨i0,h0,hd0⟩ (λ _ x=>f x) j
 have hgs:∀j,((g (j+1)).1:Int)∈us.getD (g j).1 []:=λj=>hfs (g j);have hnd:¬((List.range (N+1)).map λj=>(g j).1).Nodup:=λh=>by
  have:=Jc N _ h λy hy=>by obtain⟨j,_,rfl⟩:=mem_map.1 hy;exact(g j).2.1
  rw[length_map,List.length_range]at this;omega
 obtain⟨a,b,hab,he⟩:∃a b,a<b/\(g a).1=(g b).1:=by refine vB λh=>hnd ?_;rw[List.nodup_iff_pairwise_ne,List.pairwise_map];exact List.pairwise_lt_range.imp λ{x y} hxy e=>h ⟨x,y,hxy,e⟩
 obtain⟨d,F,hb,hneg⟩:=hf _ (g a).2.1;have hall:∀c,a<b-c->c<b-a->0<=d.getD (g (b-c)).1 0:=by
  intro c
  induction c with
  |zero=>intro _ _;rw[Nat.sub_zero,<- he,hb.hd.2];exact Int.le_refl _
  |succ c ih=>
   intro h1 h2;have:=ih (by omega) (by omega);have e:b-c=b-(c+1)+1:=(by omega);rw[e]at this;exact hb.back (g (b-(c+1))).2.1 (g (b-(c+1)+1)).2.1 (hgs (b-(c+1))) this
 have h1:=hall (b-a-1) (by omega) (by omega);have e:b-(b-a-1)=a+1:=by omega
 rw[e]at h1;have h2:=hneg _ (hgs a);simp only[Int.toNat_natCast]at h2;omega
theorem ae3{n N:Nat}{l:List Int}{done:List Bool}(hd:done.length=N)(hl:l.length<=4000000)(hr:∀k∈l,0<=k/\k<N)(hn:4000001<=n):
 ∃r,iQ n l done=some (r,done)/\(r=false↔∀k∈l,done.getD k.toNat false=true):=by
 obtain⟨o,h1,h2⟩:=dw (step:=jZ l) (λ i (v:Int×List Bool)=>v=((i:Int),done)/\i<=l.length/\∀k∈l.take i,done.getD k.toNat false=true)
  (λ o=>(o=.inl done/\∀k∈l,done.getD k.toNat false=true)\/∃i:Nat,o=.inr (i,done)/\∃k∈l,done.getD k.toNat false=false) l.length (λ k v h=>h.2.1) (by
  rintro i v ⟨rfl,hi,hall⟩;by_cases hlt:i<l.length;have hk:=hr l[i] (getElem_mem hlt);obtain⟨k,hk2⟩:=Int.eq_ofNat_of_zero_le hk.1;have hkN:k<done.length:=by omega
  have J0:done[k]=done.getD k false:=by simp[hkN]
  have htk:l.take (i+1)=l.take i++[l[i]]:=by rw[List.take_add_one,dI hlt];rfl
  simp only[jZ,show decide ((i:Int)<l.length)=true from by simp;omega,aj,aN hlt,ai,aH,hk2,mM,aO hkN,aQ hkN,J0];cases hdk:done.getD k false with
  |true=>
   refine .inl ⟨_,by simp;rfl,by rw[bB (by omega)],hlt,λz hz=>?_⟩;rw[htk,bV]at hz;rcases hz with hz|hz;exact hall z hz;simp at hz;rw[hz,hk2];simpa using hdk
  |false=>exact .inr ⟨_,by simp,.inr ⟨i,rfl,l[i],getElem_mem hlt,by rw[hk2];simpa using hdk⟩⟩
  refine .inr ⟨.inl done,?_,.inl ⟨rfl,by rw[take_of_length_le (by omega)]at hall;exact hall⟩⟩;simp only[jZ,show decide ((i:Int)<l.length)=false from by simp;omega,au,aH,aj]) n 0 (0,done) ⟨rfl,Nat.zero_le _,by simp⟩ (by omega)
 rcases h2 with ⟨rfl,h2⟩|⟨i,rfl,k,hk,hkd⟩;exact⟨false,by simp[iQ,ni,h1],λ_=>h2,λ_=>rfl⟩;refine⟨true,by simp[iQ,ni,h1],λh=>(by cases h),λh=>?_⟩;rw[h k hk]at hkd;cases hkd
def N6(us:List (List Int))(N:Nat)(done:List Bool)(i:Nat)(w:Int):Prop:=
 (w=-1/\∀j,j<i->¬(done.getD j false=false/\∀k∈us.getD j [],done.getD k.toNat false=true))\/∃j:Nat,w=j/\j<i/\done.getD j false=false
theorem ana{n N:Nat}{a0:nW}{done:List Bool}(hg:QH a0.uses N)(hd:a0.defs.length=N)(hl:done.length=N)(hn:4000002<=n):∃w,iter (jg n a0) n (-1,0,done)=some (w,done)/\N6 a0.uses N done N w:=by
 have hN:=hg.2.1;have B9:=hg.1;obtain⟨o,h1,w,rfl,h2⟩:=dw (step:=jg n a0) (λ i (v:Int×Int×List Bool)=>∃w,v=(w,(i:Int),done)/\i<=N/\N6 a0.uses N done i w) (λ o=>∃w,o=(w,done)/\N6 a0.uses N done N w) N (λ k v ⟨_,_,h,_⟩=>h) (by
  rintro i v ⟨w,rfl,hi,hw⟩;by_cases hlt:i<N;left;have hiu:i<a0.uses.length:=by omega
  have hid:i<a0.defs.length:=by omega
  have hib:i<done.length:=by omega
  have hl2:=hg.2.2 a0.uses[i] (getElem_mem hiu);obtain⟨r,hr1,hr2⟩:=ae3 (n:=n) hl hl2.1 hl2.2 (by omega);have hgi:a0.uses.getD i []=a0.uses[i]:=by simp[hiu]
  have hdi:done[i]=done.getD i false:=by simp[hib]
  simp only[jg,show decide ((i:Int)<a0.uses.length)=true from by simp;omega,aj,aN hiu,ai,aH,hr1,aO hib,aQ hib,hdi,aG i];have keep:(done.getD i false=true\/r=true)->N6 a0.uses N done (i+1) w:=by intro hno;rcases hw with ⟨rfl,hw⟩|⟨j,rfl,hj,hw⟩;refine .inl ⟨rfl,λj hj h=>?_⟩;by_cases e:j=i;subst e;rw[hgi]at h;rcases hno with h3|h3;rw[h3]at h;exact absurd h.1 (by simp);have:=hr2.2 h.2;rw[h3]at this;cases this;exact hw j (by omega) h;exact .inr ⟨j,rfl,by omega,hw⟩
  cases hdn:done.getD i false with
  |true=>exact⟨_,by simp,w,rfl,hlt,keep (.inl hdn)⟩
  |false=>
   cases r with
   |true=>exact⟨_,by simp,w,rfl,hlt,keep (.inr rfl)⟩
   |false=>
    have am:N6 a0.uses N done (i+1) i:=.inr ⟨i,rfl,by omega,hdn⟩;rcases hw with ⟨rfl,hw⟩|⟨j,rfl,hj,hw⟩;exact⟨_,by simp,_,rfl,hlt,am⟩;have hjd:j<a0.defs.length:=(by omega);simp only[Bool.not_false,aj,show decide (j<0)=false from by simp,au,aN hid,aN hjd,ai];cases V9 a0.defs[i].name a0.defs[j].name with
    |true=>exact⟨_,rfl,_,rfl,hlt,am⟩
    |false=>exact⟨_,rfl,_,rfl,hlt,.inr ⟨j,rfl,by omega,hw⟩⟩
  right;have hiN:i=N:=by omega
  refine⟨(w,done),?_,w,rfl,hiN ▸ hw⟩;simp only[jg,show decide ((i:Int)<a0.uses.length)=false from by simp;omega,au,aH,aj]) n 0 (-1,0,done) ⟨_,rfl,Nat.zero_le _,.inl ⟨rfl,λj hj=>absurd hj (Nat.not_lt_zero _)⟩⟩ (by omega)
 exact⟨w,h1,h2⟩
theorem ae4{n N:Nat}{a0:nW}(hg:QH a0.uses N)(hd:a0.defs.length=N)(hf:∀j,j<N->tB a0.uses N j)(hn:4000002<=n):∃l,nY n a0=some l/\l.length=N/\∀k∈l,0<=k/\k<N:=by
 have hN:=hg.2.1;have hmx:maxLen=9223372036854775807:=rfl
 obtain⟨o,h1,h2⟩:=dw (step:=kY n a0) (λ c (v:Int×List Int×List Bool)=>∃out done,v=((c:Int),out,done)/\c<=N/\out.length=c/\(∀ k∈out,0<=k/\k<N)/\done.length=N/\done.count false=N-c)
  (λ o=>o.length=N/\∀k∈o,0<=k/\k<N) N (λ k v ⟨_,_,_,h,_⟩=>h) (by
  rintro c v ⟨out,done,rfl,hc,hol,hor,hdl,hcf⟩;by_cases hlt:c<N;left;have⟨w,hw1,hw2⟩:=ana (n:=n) hg hd hdl hn;have hopen:∃i0,i0<N/\done.getD i0 false=false:=by have hm:false∈done:=List.count_pos_iff.1 (by omega);obtain⟨i0,h0,e⟩:=mem_iff_getElem.1 hm;exact⟨i0,by omega,by simp[h0,e]⟩
  obtain⟨i0,h0,h0d⟩:=hopen;obtain⟨i,hi,hid,hia⟩:=apa hg hf (λ j=>done.getD j false=true) h0 (by rw[h0d];simp);rcases hw2 with ⟨rfl,hw2⟩|⟨j,rfl,hj,hjd⟩;exact absurd ⟨Bool.eq_false_iff.2 hid,hia⟩ (hw2 i hi);have hjl:j<done.length:=by omega
  have hap:bH out.length out.length (sub [(j:Int)] 0 1).length 1 8=true:=by simp[bH,sub];omega
  have hset:(done.set j true).length=done.length:=by simp
  refine⟨((c+1:Nat),out++[(j:Int)],done.set j true),?_,_,_,rfl,hlt,by simp[hol],?_,by simp[hdl],?_⟩;simp only[kY,show decide ((c:Int)<a0.defs.length)=true from by simp;omega,aj,aH,hw1,ai,aO hjl,aQ hjl,hap,dO,aG c,show(((0:Nat):Int)+j).toNat=j by omega,EL hset.symm];simp[sub];intro k hk;rw[bV]at hk;rcases hk with hk|hk;exact hor k hk;simp at hk;subst hk;omega;have We:done[j]=false:=by simpa[List.getD,hjl]using hjd
  rw[List.count_set hjl,hcf,We];simp;omega;right;have:c=N:=by omega
  refine⟨out,?_,by omega,hor⟩;simp only[kY,show decide ((c:Int)<a0.defs.length)=false from by simp;omega,au,aH,aj]) n 0 (0,[],List.replicate N false) ⟨[],_,rfl,Nat.zero_le _,rfl,by simp,by simp,by simp⟩ (by omega)
 refine⟨o,?_,h2⟩;have hmk:xE N 1=true:=by simp[xE];omega
 simp only[nY,hd,Int.le_refl,decide_true,Bool.true_and,show decide (0<=N)=true from by simp,hmk,aj,Int.toNat_natCast,h1,ai,dY,aH];simp
def pw(out:List aK)(s:aK):List aK:=
 match out.getLast? with
 |some q=>bif decide (s.from_<=q.to)then out.dropLast++[⟨q.from_,max q.to s.to⟩]else out++[s]
 |none=>[s]
theorem XF out (s:aK):(pw out s).length<=out.length+1:=by
 unfold pw;cases out.getLast? with
 |none=>simp
 |some q=>simp;cases decide (s.from_<=q.to)<;>simp<;>omega
theorem ahE o (q s:aK):pw (o++[q]) s=bif decide (s.from_<=q.to)then o++[⟨q.from_,max q.to s.to⟩]else o++[q]++[s]:=by simp[pw]
abbrev GM(s:aK):Prop:=s.from_<s.to
def js(l:List aK)(y:Int):Bool:=l.any λs=>decide (s.from_<=y)&&decide (y<s.to)
def Can(l:List aK):Prop:=l.Pairwise (λ a b=>a.to<b.from_)/\∀s∈l,GM s
theorem OI l y:js l y=true↔∃s∈l,s.from_<=y/\y<s.to:=by simp[js]
theorem Fs(l m:List aK) y:js (l++m) y=(js l y || js m y):=by simp[js]
theorem KC y:js [] y=false:=rfl
theorem oV(s:aK) l y:js (s::l) y=((decide (s.from_<=y)&&decide (y<s.to)) || js l y):=by simp[js]
theorem ae5{l m:List aK}(h:l.Perm m) y:js l y=js m y:=by rw[kQ,OI,OI];exact⟨λ ⟨s,hs,h1⟩=>⟨s,h.mem_iff.1 hs,h1⟩,λ⟨s,hs,h1⟩=>⟨s,h.mem_iff.2 hs,h1⟩⟩
theorem ajI:Can []:=⟨List.Pairwise.nil,by simp⟩
theorem anb{out:List aK}{s:aK}(hc:Can out)(hs:GM s)(hb:∀o∈out,o.from_<=s.from_):
 Can (pw out s)/\(∀ o∈pw out s,o.from_<=s.from_)/\∀y,js (pw out s) y=(js out y || js [s] y):=by rcases List.eq_nil_or_concat out with rfl|⟨o,q,rfl⟩;refine⟨⟨by simp[pw],by simp[pw];exact hs⟩,by simp[pw],λy=>by simp[pw,js]⟩;rw[List.concat_eq_append]at*;obtain⟨h1,h2⟩:=hc;rw[pairwise_append]at h1;obtain⟨p1,_,p3⟩:=h1;have hq:GM q:=h2 q (by simp);have hqs:q.from_<=s.from_:=hb q (by simp);rw[ahE];by_cases hj:s.from_<=q.to;simp only[hj,decide_true,aj];refine⟨⟨?_,?_⟩,?_,?_⟩;rw[pairwise_append];refine⟨p1,by simp,λa ha b hb'=>?_⟩;rw[bD]at hb';subst hb';exact p3 a ha q (by simp);intro a ha;rcases bV.1 ha with ha|ha;exact h2 a (by simp[ha]);rw[bD]at ha;subst ha;show q.from_<max q.to s.to;have:q.from_<q.to:=hq;omega;intro a ha;rcases bV.1 ha with ha|ha;exact hb a (by simp[ha]);rw[bD]at ha;subst ha;exact hqs;intro y;rw[Fs,Fs,Bool.or_assoc];congr 1;simp[oV,KC];rw[kQ];simp;have:q.from_<q.to:=hq;have:s.from_<s.to:=hs;omega;simp only[hj,decide_false,au];refine⟨⟨?_,?_⟩,?_,?_⟩;rw[pairwise_append];refine⟨?_,by simp,λa ha b hb'=>?_⟩;rw[pairwise_append];exact⟨p1,by simp,p3⟩;rw[bD]at hb';subst hb';rcases bV.1 ha with ha|ha;have:=p3 a ha q (by simp);have:q.from_<q.to:=hq;omega;rw[bD]at ha;subst ha;omega;intro a ha;rcases bV.1 ha with ha|ha;exact h2 a ha;rw[bD]at ha;subst ha;exact hs;intro a ha;rcases bV.1 ha with ha|ha;exact hb a ha;rw[bD]at ha;subst ha;exact Int.le_refl _;intro y;rw[Fs]
theorem QI:∀(l out:List aK),Can out->(∀ s∈l,GM s)->l.Pairwise (λ x y=>x.from_<=y.from_)->(∀ o∈out,∀s∈l,o.from_<=s.from_)->Can (l.foldl pw out)/\∀y,js (l.foldl pw out) y=(js out y || js l y)
 |[],out,hc,_,_,_=>⟨hc,λy=>by simp[KC]⟩
 |s::l,out,hc,hv,hp,hb=>by rw[pairwise_cons]at hp;obtain⟨m1,m2,m3⟩:=anb hc (hv s (by simp)) (λ o ho=>hb o ho s (by simp));obtain⟨f1,f2⟩:=QI l (pw out s) m1 (λ t ht=>hv t (by simp[ht])) hp.2 (λ o ho t ht=>Int.le_trans (m2 o ho) (hp.1 t ht));refine⟨f1,λy=>?_⟩;rw[foldl_cons,f2,m3,Bool.or_assoc,<- Fs];rfl
theorem ae6{a:aK}{l:List aK}(h:Can (a::l)):Can l:=⟨(pairwise_cons.1 h.1).2,λs hs=>h.2 s (by simp[hs])⟩
theorem KD{a:aK}{l:List aK}(h:Can (a::l)){y:Int}(hy:js l y=true):a.to<y:=by obtain⟨s,hs,h1,_⟩:=(OI _ _).1 hy;have:=(pairwise_cons.1 h.1).1 s hs;omega
theorem abe{a:aK}{l:List aK}(h:Can (a::l)){y:Int}(hy:js (a::l) y=true):a.from_<=y:=by rw[oV,Bool.or_eq_true]at hy;rcases hy with hy|hy;simp at hy;exact hy.1;have:=KD h hy;have:a.from_<a.to:=h.2 a (by simp);omega
theorem XG:∀{l m:List aK},Can l->Can m->(∀ y,js l y=js m y)->l=m
 |[],[],_,_,_=>rfl
 |[],b::m,_,hm,h=>by have:=h b.from_;have hb:b.from_<b.to:=hm.2 b (by simp);rw[KC,oV]at this;simp[hb]at this
 |a::l,[],hl,_,h=>by have:=h a.from_;have ha:a.from_<a.to:=hl.2 a (by simp);rw[KC,oV]at this;simp[ha]at this
 |a::l,b::m,hl,hm,h=>by
  have ha:a.from_<a.to:=hl.2 a (by simp);have hb:b.from_<b.to:=hm.2 b (by simp);have ina:js (a::l) a.from_=true:=by rw[oV];simp[ha]
  have T2:js (b::m) b.from_=true:=by rw[oV];simp[hb]
  have e1:a.from_=b.from_:=by have h1:=abe hm (by rw[<- h];exact ina);have h2:=abe hl (by rw[h];exact T2);omega
  have nl:∀(c:aK) k,Can (c::k)->js (c::k) c.to=false:=by
   intro c k hk;cases hc:js (c::k) c.to with
   |false=>rfl
   |true=>
    rw[oV,Bool.or_eq_true]at hc;rcases hc with hc|hc;simp at hc;have:=KD hk hc;omega
  have e2:a.to=b.to:=by rcases Int.lt_trichotomy a.to b.to with hlt|he|hlt;have h1:=nl a l hl;rw[h,oV]at h1;simp at h1;omega;exact he;have h1:=nl b m hm;rw[<- h,oV]at h1;simp at h1;omega
  have e:a=b:=by cases a;cases b;simp at e1 e2;rw[e1,e2]
  subst e;rw[XG (ae6 hl) (ae6 hm) λy=>?_];have hy:=h y;rw[oV,oV]at hy;cases h1:js l y with
  |true=>
   have:=KD hl h1;have z:(decide (a.from_<=y)&&decide (y<a.to))=false:=(by rw[Bool.and_eq_false_iff,dW,dW];omega);rw[z,h1,Bool.false_or,Bool.false_or]at hy;rw[<- hy]
  |false=>
   cases h2:js m y with
   |false=>rfl
   |true=>
    have:=KD hm h2;have z:(decide (a.from_<=y)&&decide (y<a.to))=false:=(by rw[Bool.and_eq_false_iff,dW,dW];omega);rw[z,h1,h2]at hy;simp at hy
def FA(l:List aK):List aK:=(kJ tM l).foldl pw []
theorem ane{l:List aK}(h:l.Pairwise λx y=>tM y x=false):l.Pairwise λx y=>x.from_<=y.from_:=
 h.imp λ{x y} hxy=>by simp at hxy;omega
theorem abf{l:List aK}(h:∀s∈l,GM s):Can (FA l)/\∀y,js (FA l) y=js l y:=by have hp:=EO tM l;obtain⟨h1,h2⟩:=QI (kJ tM l) [] ajI (λ s hs=>h s (hp.mem_iff.1 hs)) (ane (amK OG l)) (by simp);exact⟨h1,λy=>by rw[FA,h2,KC,Bool.false_or,ae5 hp]⟩
theorem ak7{l:List aK}(h:∀s∈l,GM s):(lU tM l).foldl pw []=FA l:=by have hp:=Mi OG l;obtain⟨h1,h2⟩:=QI (lU tM l) [] ajI (λ s hs=>h s (hp.mem_iff.1 hs)) (ane (NU OG l)) (by simp);have⟨h3,h4⟩:=abf h;exact XG h1 h3 λy=>by rw[h2,KC,Bool.false_or,ae5 hp,h4]
theorem ae7 l:(FA l).length<=l.length:=by
 have:∀(ys out:List aK),(ys.foldl pw out).length<=out.length+ys.length:=by
  intro ys
  induction ys with
  |nil=>intro out;simp
  |cons y ys ih=>
   intro out;simp;have:=ih (pw out y);have:=XF out y;omega
 have h:=this (kJ tM l) [];rw[eZ]at h;simpa[FA]using h
abbrev d7(r:ax):Bool:=decide (0<=r.x0)&&(decide (r.x0<r.x1)&&(decide (r.x1<=1048576)&&(decide (0<=r.y0)&&(decide (r.y0<r.y1)&&decide (r.y1<=1048576)))))
theorem S3(a b:Bool):(bif a then some b else some false)=some (a&&b):=by cases a<;>rfl
theorem iU(r:ax):nZ r=some (d7 r):=by simp[nZ,S3]
def kF(l:List ax)(x:Int):List aK:=(l.filter λr=>decide (r.x0<=x)&&decide (x<r.x1)).map λr=>⟨r.y0,r.y1⟩
def dm(l:List ax)(x:Int):List aK:=FA (kF l x)
theorem Jd l x:(kF l x).length<=l.length:=by simp[kF];exact length_filter_le _ _
theorem zB l x:(dm l x).length<=l.length:=
 Nat.le_trans (ae7 _) (Jd l x)
theorem aq9{r:ax}(h:d7 r=true):r.y0<r.y1:=by simp at h;omega
theorem XH{l:List ax}(h:∀r∈l,d7 r=true) x:∀s∈kF l x,GM s:=by intro s hs;simp[kF]at hs;obtain⟨r,⟨hr,_⟩,rfl⟩:=hs;exact aq9 (h r hr)
theorem QJ{l:List ax}{x:Int}(hl:l.length<1099511627776){n:Nat}(hn:l.length<n):iter (uy l x) n (0,[])=some (kF l x):=by
 have:=fF (l:=l) (step:=uy l x) (λ i s=>(i,s)) (λ r s=>bif decide (r.x0<=x)&&decide (x<r.x1)then s++[⟨r.y0,r.y1⟩]else s) (λ s=>s) (λ i s=>s.length<=i)
  (λ i hi s hs=>?_) (λ s hs=>by simp[uy]) n hn [] (aB _)
 rw[lE]at this;rw[this];congr 1;have gen:∀ys s,ys.foldl (λ s r=>bif decide (r.x0<=x)&&decide (x<r.x1)then s++[⟨r.y0,r.y1⟩]else s) s=s++kF ys x:=by
  intro ys
  induction ys with
  |nil=>intro s;simp[kF]
  |cons y ys ih=>
   intro s;simp[ih];cases h:(decide (y.x0<=x)&&decide (x<y.x1))with
   |true|false=>simp[kF,h]
 simpa using gen l [];have hi':decide ((i:Int)<l.length)=true:=by simpa using hi
 have ap:bH s.length s.length (sub ([(aK.mk l[i].y0 l[i].y1)]:List aK) 0 1).length 1 16=true:=bU (n:=1) (by omega) (by simp[maxLen];omega);simp only[uy,hi',aj,aN hi,ai,S3];cases h:(decide (l[i].x0<=x)&&decide (x<l[i].x1))with
 |true=>
  simp only[aj,ap,dO,aH,ai];refine⟨?_,by simp;omega⟩;rw[bB (by omega)];rfl
 |false=>
  simp only[au,aH,aj,ai];exact⟨by rw[bB (by omega)],by omega⟩
theorem QK(w1 r2:List aK)(hw:w1.length=r2.length)(hl:r2.length<1099511627776)(hn:r2.length<n):iter (uz w1 r2) n (0,[])=some (r2.foldl pw []):=by
 have:=fF (l:=r2) (step:=uz w1 r2) (λ i s=>(i,s)) (λ r s=>pw s r) (λ s=>s) (λ i s=>s.length<=i)
  (λ i hi s hs=>?_) (λ s hs=>by simp[uz,hw]) n hn [] (aB _)
 rw[lE]at this;exact this;refine⟨?_,by have:=XF s r2[i];omega⟩;have hi':decide ((i:Int)<(w1.length:Nat))=true:=by simp;omega
 have ib:cM i w1.length=true:=aO (by omega);have ap:bH s.length s.length (sub ([r2[i]]:List aK) 0 1).length 1 16=true:=bU (n:=1) (by omega) (by simp[maxLen];omega);simp only[uz,hi',aj,ib,aQ hi,ai];rcases List.eq_nil_or_concat s with rfl|⟨s0,q,I0⟩;have d0:decide ((([]:List aK).length:Nat)>0)=false:=by simp
 simp;rw[bB (by omega)];rfl;rw[List.concat_eq_append]at I0;subst I0;have d0:decide (((((s0++[q]).length:Nat):Int))>0)=true:=by simp<;>omega
 have B4:(s0++[q]).length=s0.length+1:=by simp
 have wp:i64.wrap (((s0++[q]).length:Nat)-1)=(s0.length:Nat):=by rw[nD (by simp) (by omega),B4];rfl
 have T3:cM (s0.length:Nat) (s0++[q]).length=true:=aO (by omega);have g:bj (s0++[q]) ((0:Nat)+(s0.length:Nat))=some q:=by rw[Kc];simp
 have z:(((0:Nat):Int)+(s0.length:Nat)).toNat=s0.length:=by simp
 have st:(s0++[q]).set s0.length (aK.mk q.from_ (max q.to r2[i].to))=s0++[⟨q.from_,max q.to r2[i].to⟩]:=by simp
 have m:pw (s0++[q]) r2[i]=bif decide (r2[i].from_<=q.to)then s0++[⟨q.from_,max q.to r2[i].to⟩]else s0++[q]++[r2[i]]:=by simp[pw]
 simp only[d0,aj,wp,T3,g,ai,m,z,st];cases decide (r2[i].from_<=q.to)with
 |true=>
  have e:aE (s0++[q]).length (s0++[(⟨q.from_,max q.to r2[i].to⟩:aK)]).length=true:=by simp
  simp only[aj,e,ai,aH];rw[bB (by omega)]
 |false=>
  simp only[au,ap,aj,dO,aH,ai];rw[bB (by omega)];rfl
theorem acI{l:List ax}{x:Int}(hv:∀r∈l,d7 r=true)(hl:l.length<1099511627776)(hn:l.length<n):Kq n l x=some (dm l x):=by have h1:=Jd l x;have h2:(lU tM (kF l x)).length=(kF l x).length:=yc OG _;unfold Kq;simp[QJ (x:=x) (l:=l) (by omega) (n:=n) (by omega)];rw[KN (λ a b=>if a.from_<b.from_ then -1 else if b.from_<a.from_ then 1 else 0) (λ a b=>by show yu a b=_;unfold yu;rw[jB];rfl) (λ a b=>by by_cases h1:a.from_<b.from_;simp[h1];by_cases h2:b.from_<a.from_<;>simp[h1,h2]) (by omega) (by omega)];simp;rw[QK _ _ h2.symm (by omega) (by omega)];simp;rw[ak7 (XH hv x)];rfl
def gX(l:List ax):List Int:=Fk (l.flatMap λr=>[r.x0,r.x1])
def ig{α:Type}(f:Int->Int->α):List Int->List α
 |a::b::l=>f a b::ig f (b::l)
 |_=>[]
def bq(l:List ax):List bX:=ig (λ a b=>⟨a,b,dm l a⟩) (gX l)
theorem sJ{α:Type}(f:Int->Int->α):∀l,(ig f l).length=l.length-1/\∀i (h:i+1<l.length) (h':i<(ig f l).length),(ig f l)[i]=f l[i] l[i+1]
 |[]|[a]=>⟨rfl,λi h=>by simp at h⟩
 |a::b::l=>by
  have⟨h1,h2⟩:=sJ f (b::l);refine⟨by simp only[ig,dX,h1];simp,λi h h'=>?_⟩;cases i with
  |zero=>rfl
  |succ i=>
   simp;exact h2 i (by simpa using h) _
theorem xA(l:List ax):(l.flatMap λr=>[r.x0,r.x1]).length=2*l.length:=by
 induction l with
 |nil=>rfl
 |cons x l ih=>simp[ih];omega
theorem rX l:(jf l).length<=l.length:=by
 match l with
 |[]|[x]=>simp[jf]
 |x::y::l=>
  have:=rX (y::l);simp[jf];cases x==y<;>simp at* <;>omega
theorem LK l:(gX l).length<=2*l.length:=by have h:=rX (kJ (λ a b=>decide (a<b)) (l.flatMap λr=>[r.x0,r.x1]));rw[eZ,xA]at h;exact h
theorem QL{l:List ax}(hl:l.length<10995116277)(hn:l.length<n):iter (uD l) n (0,[])=some (l.flatMap λr=>[r.x0,r.x1]):=by
 have:=fF (l:=l) (step:=uD l) (λ i s=>(i,s)) (λ r s=>s++[r.x0,r.x1]) (λ s=>s) (λ i s=>s.length<=2*i)
  (λ i hi s hs=>?_) (λ s hs=>by simp[uD]) n hn [] (aB _)
 rw[lE]at this;rw[this];have gen:∀(ys:List ax) s,ys.foldl (λ s r=>s++[r.x0,r.x1]) s=s++ys.flatMap λr=>[r.x0,r.x1]:=by
  intro ys
  induction ys with
  |nil=>intro s;simp
  |cons y ys ih=>intro s;simp[ih]
 congr 1;simpa using gen l [];have hi':decide ((i:Int)<(l.length:Nat))=true:=by simpa using hi
 have ap:bH s.length s.length (sub ([l[i].x0,l[i].x1]:List Int) 0 2).length 2 8=true:=bU (n:=2) (by omega) (by simp[maxLen];omega);simp only[uD,hi',aj,aO hi,aQ hi,ai,ap,dO,aH];refine⟨?_,by simp;omega⟩;rw[bB (by omega)];rfl
theorem yJ{ls:List (List ax)}(hv:∀r∈ls.flatten,d7 r=true)(hl:ls.flatten.length<10995116277)(hls:ls.length<1099511627776)(hn:2*ls.flatten.length<n)(hn2:ls.length<n):o8 n ls=some (bq ls.flatten):=by
 unfold o8;rw[OE (by omega) hls hn2];generalize ls.flatten=l at*;have he:=LK l;simp[QL (l:=l) (n:=n) (by omega) (by omega)];rw[qb (by rw[xA];omega) (by rw[xA];omega)];simp only[ai,eZ,aH,aj];rw[uR (by rw[eZ,xA];omega) (by rw[eZ,xA];omega)];simp only[ai];have hE:jf (kJ oc (l.flatMap λr=>[r.x0,r.x1]))=gX l:=rfl;rw[hE];obtain⟨p1,p2⟩:=sJ (λ a b=>(⟨a,b,dm l a⟩:bX)) (gX l);have key:iter (uE n l ((),gX l)) n (1,[])=some (bq l):=by
  have:=mZ (step:=uE n l ((),gX l)) (λ i=>((i+1:Nat),(bq l).take i)) (bq l).length (bq l) (λ i hi=>?_) ?_ n (by unfold bq;omega);simpa using this;have hi2:i+1<(gX l).length:=by unfold bq at hi;omega
  have d:decide (((i+1:Nat):Int)<((gX l).length:Nat))=true:=by simp;omega
  have wp:i64.wrap ((i+1:Nat)-1)=(i:Nat):=by rw[nD (by omega) (by omega)];rfl
  have ap:bH ((bq l).take i).length ((bq l).take i).length (sub ([(bX.mk ((gX l)[i]'(by omega)) (gX l)[i+1] (dm l ((gX l)[i]'(by omega))))]:List bX) 0 1).length 1 40=true:=by refine bU (n:=1) ?_ ?_;rw[length_take];unfold bq;omega;rw[length_take];unfold bq;simp[maxLen];omega
  have tk:(bq l).take (i+1)=(bq l).take i++[⟨(gX l)[i]'(by omega),(gX l)[i+1],dm l ((gX l)[i]'(by omega))⟩]:=by rw[jl hi];congr 2;exact p2 i hi2 hi
  simp only[uE,d,aj,wp,aO (show i<(gX l).length by omega),aQ (show i<(gX l).length by omega),ai,aO hi2,aQ hi2,dY,aH,acI (l:=l) (n:=n) hv (by omega) (by omega),ap,dO];rw[bB (by omega),tk];rfl;have d:decide ((((bq l).length+1:Nat):Int)<((gX l).length:Nat))=false:=by unfold bq;simp;omega
  simp only[uE,d,au,List.take_length,aH,aj]
 rw[key];simp
def Fu(x0 x1:Int)(c:List aK):List ax:=c.map λq=>⟨x0,q.from_,x1,q.to⟩
def Fo(x0 x1:Int)(c:List aK):List bX->List ax
 |[]=>Fu x0 x1 c
 |s::l=>if s.column=c then Fo x0 s.x1 c l else Fu x0 x1 c++Fo s.x0 s.x1 s.column l
def nK:List bX->List ax
 |[]=>[]
 |s::l=>Fo s.x0 s.x1 s.column l
theorem abg x0 c:∀(l:List bX) x1 (k:Nat) (hk:k<=l.length),(∀ j (hj:j<k),(l[j]'(by omega)).column=c)->(∀ h:k<l.length,l[k].column≠c)->
 Fo x0 x1 c l=Fu x0 (if h:0<k then(l[k-1]'(by omega)).x1 else x1) c++nK (l.drop k)
 |l,x1,0,_,_,h2=>by
  cases l with
  |nil=>simp[Fo,nK]
  |cons s l=>
   have:=h2 (by simp);simp at this;simp[Fo,nK,this]
 |[],x1,k+1,hk,_,_=>by simp at hk
 |s::l,x1,k+1,hk,h1,h2=>by
  have e0:=h1 0 (by omega);simp at e0;simp[Fo,e0];rw[abg x0 c l s.x1 k (by simpa using hk) (λ j hj=>by have:=h1 (j+1) (by omega);simpa using this) (λ h=>by have:=h2 (by simpa using h);simpa using this)];simp;congr 2;by_cases hk0:0<k;simp[hk0];obtain⟨m,rfl⟩:∃m,k=m+1:=⟨k-1,by omega⟩;simp;have:k=0:=by omega
  subst this;simp
theorem TH{l:List bX}{i k:Nat}(hi:i<l.length)(hk1:0<k)(hk:k<=l.length)(hl:l.length<10995116277)(x3:bX) out (ho:out.length<1099511627776) (hc:x3.column.length<1099511627776) (hn:x3.column.length<n):
 iter (wW l i k x3) n (0,out)=some (out++Fu l[i].x0 (l[k-1]'(by omega)).x1 x3.column):=by
 have:=fF (l:=x3.column) (step:=wW l i k x3) (λ j s=>(j,s)) (λ q s=>s++[⟨l[i].x0,q.from_,(l[k-1]'(by omega)).x1,q.to⟩]) (λ s=>s) (λ j s=>s.length<=out.length+j)
  (λ j hj s hs=>?_) (λ s hs=>by simp[wW]) n hn out (aB _)
 rw[lE]at this;rw[this];have gen:∀ys s,ys.foldl (λ s q=>s++[⟨l[i].x0,q.from_,(l[k-1]'(by omega)).x1,q.to⟩]) s=s++Fu l[i].x0 (l[k-1]'(by omega)).x1 ys:=by
  intro ys
  induction ys with
  |nil=>intro s;simp[Fu]
  |cons y ys ih=>intro s;simp[ih];simp[Fu]
 rw[gen];have hj':decide ((j:Int)<x3.column.length)=true:=by simpa using hj
 have wp:i64.wrap (k-1)=(k-1:Nat):=nD hk1 (by omega);have ap:bH s.length s.length (sub ([(ax.mk l[i].x0 (x3.column[j]).from_ (l[k-1]'(by omega)).x1 (x3.column[j]).to)]:List ax) 0 1).length 1 32=true:=bU (n:=1) (by omega) (by simp[maxLen];omega);simp only[wW,hj',aj,aN hj,aN hi,wp,aN (show k-1<l.length by omega),ai,ap,dO,aH];refine⟨?_,by simp;omega⟩;rw[bB (by omega)];rfl
theorem SK{l:List bX}{b:Nat}(hb:b<=100000)(hl:l.length<=100000)(hc:∀s∈l,s.column.length<=b)(hn:b<n)(hn2:l.length<n):IZ n l=some (nK l):=by
 unfold IZ;simp only[length_nil,aH,aj];have main:∀(m i:Nat)(out:List ax)(k:Nat),i+m=l.length->m<k->out.length<=i*b->iter (wX n l) k ((i:Int),out)=some (out++nK (l.drop i)):=by
  intro m
  induction m using Nat.strongRecOn with
  |ind m ih=>
   intro i out k him hk ho;obtain⟨k,rfl⟩:∃j,k=j+1:=⟨k-1,by omega⟩;by_cases hm:m=0;subst hm;have:i=l.length:=(by omega);subst this;refine dU ?_;simp[wX,nK];have hi:i<l.length:=(by omega);have di:decide ((i:Int)<(l.length:Int))=true:=(by simpa using hi);obtain⟨q,hq1,hq2,hq3,hq4⟩:∃q,i<q/\q<=l.length/\(∀ j,i<j->j<q->∀h:j<l.length,l[j].column=l[i].column)/\(∀ h:q<l.length,l[q].column≠l[i].column):=(by rcases LD (λ j=>if h:j<l.length then decide (l[j].column≠l[i].column)else false) (i+1) l.length with ⟨q,h1,h2,h3,h4⟩|h;simp[h2]at h3;refine⟨q,by omega,by omega,λj hj1 hj2 hj=>?_,λ_=>h3⟩;have:=h4 j (by omega) hj2;simp[hj,Decidable.not_not]at this;exact this;refine⟨l.length,hi,aB _,λj hj1 hj2 hj=>?_,λh=>by omega⟩;have:=h j (by omega) hj;simp[hj,dite_true,dW,ne_eq,Decidable.not_not]at this;exact this);have cl:∀j (hj:j<l.length),l[j].column.length<=b:=λj hj=>hc _ (getElem_mem hj);have r2:iter (sV n l (i:Int)) n (i64.wrap ((i:Int)+1))=some (q:Int):=(by rw[bB (by omega)];have:=mZ (step:=sV n l (i:Int)) (λ j=>((i+1+j:Nat):Int)) (q-(i+1)) q (λ j hj=>?_) ?_ n (by omega);simpa using this;have hjl:i+1+j<l.length:=(by omega);have dj:decide (((i+1+j:Nat):Int)<l.length)=true:=(by simp;omega);have hcc:=cl (i+1+j) hjl;simp only[sV,dj,aj,aN hjl,aN hi,ai];rw[Dw (by omega) (by omega),hq3 (i+1+j) (by omega) (by omega) hjl];simp only[decide_true,ai,aj];rw[bB (by omega)];rfl;rw[show i+1+(q-(i+1))=q by omega];by_cases z6:q<l.length;have dj:decide ((q:Nat)<l.length)=true:=(by simpa using z6);have hcc:=cl q z6;simp[sV,dj,aj,aN z6,aN hi,ai];rw[Dw (by omega) (by omega)];simp[hq4 z6];have dj:decide ((q:Int)<l.length)=false:=(by simp;omega);simp only[sV,dj,au,ai]);have ob:i*b<=100000*100000:=Nat.mul_le_mul (by omega) hb;have hci:=cl i hi;have r3:=TH (n:=n) hi (show 0<q by omega) hq2 (by omega) l[i] out (by omega) (by omega) (by omega);have step:wX n l (i,out)=some (.inl (q,out++Fu l[i].x0 (l[q-1]'(by omega)).x1 l[i].column)):=(by simp only[wX,di,aj,r2,aN hi,ai,aH,r3]);rw[fU step,ih (l.length-q) (by omega) q _ k (by omega) (by omega) (by rw[fP,Fu,length_map];have:(i+1)*b<=q*b:=Nat.mul_le_mul_right _ (by omega);rw[Nat.add_mul]at this;omega)];rw[aM];congr 2
   conv=>rhs;rw[List.drop_eq_getElem_cons hi]
   simp[nK];rw[abg l[i].x0 l[i].column (l.drop (i+1)) l[i].x1 (q-(i+1)) (by rw[length_drop];omega) (λ j hj=>by rw[getElem_drop];exact hq3 _ (by omega) (by omega) (by omega)) (λ h=>by rw[length_drop]at h;rw[getElem_drop];have:=hq4 (by omega);have hqq:i+1+(q-(i+1))=q:=(by omega);simp[hqq];exact this)];rw[List.drop_drop,show i+1+(q-(i+1))=q by omega];congr 2;by_cases h0:0<q-(i+1);simp[h0,dite_true,getElem_drop];congr 2;omega;simp[h0,dite_false];have:q-1=i:=(by omega);congr 2
 have:=main l.length 0 [] n (by omega) (by omega) (by simp);simp[Int.natCast_zero,gu,List.drop_zero]at this;rw[this];simp
def sd(l:List ax):List ax×Int:=
 if l.all d7 then(if l.length>400 then([],6)else if (nK (bq l)).length>200 then([],6)else(nK (bq l),0))else([],1)
def cQ(l:List ax):Bool:=decide ((sd l).2=0)&&decide ((sd l).1=l)
theorem ae8{l:List ax}{s:bX}(h:s∈bq l):s.column.length<=l.length:=by obtain⟨i,hi,rfl⟩:=List.getElem_of_mem h;obtain⟨p1,p2⟩:=sJ (λ a b=>(⟨a,b,dm l a⟩:bX)) (gX l);have:(bq l)[i]=⟨(gX l)[i]'(by unfold bq at hi;omega),(gX l)[i+1]'(by unfold bq at hi;omega),dm l ((gX l)[i]'(by unfold bq at hi;omega))⟩:=p2 i (by unfold bq at hi;omega) hi;rw[this];exact zB l _
theorem uS l:(bq l).length<=2*l.length:=by obtain⟨p1,_⟩:=sJ (λ a b=>(⟨a,b,dm l a⟩:bX)) (gX l);have:=LK l;unfold bq;omega
theorem anf{l:List ax}(hl:l.length<1099511627776)(hl2:l.length<n)(hn:1000<=n):Se n l=some (sd l):=by
 unfold Se;have h1:=sP (l:=l) (step:=Om l) (λ i=>i) (λ r=>!d7 r) () (λ _=>([],1)) (λ i hi=>?_) ?_ n (by omega);rw[lE]at h1;rw[h1];have h2:=ql (λ r=>!d7 r) l;cases hf:oK (λ r=>!d7 r) l with
 |some i=>
  rw[hf]at h2;have:l.all d7=false:=by rw[<- Bool.not_eq_true,all_eq_true];intro hall;have h3:=h2.symm;simp only[Option.isSome_some,any_eq_true]at h3;obtain⟨x,hx,hx2⟩:=h3;rw[hall x hx]at hx2;cases hx2
  simp[sd,this]
 |none=>
  rw[hf]at h2;have:l.all d7=true:=by
   rw[all_eq_true];intro x hx;cases h:d7 x with
   |true=>rfl
   |false=>
    have:l.any (λ r=>!d7 r)=true:=any_eq_true.2 ⟨x,hx,by rw[h];rfl⟩;rw[this]at h2;cases h2
  have hv:∀r∈l,d7 r=true:=all_eq_true.1 this;by_cases yd:l.length>400;have d4:decide ((l.length:Int)>400)=true:=by simp;omega
  simp[d4,sd,this,aX yd];have d4:decide ((l.length:Int)>400)=false:=by simp;omega
  have ls:=uS l;simp[d4];have fl:[l].flatten=l:=by simp
  rw[show (sub ([l]:List (List ax)) 0 1)=[l]from rfl,yJ (ls:=[l]) (by rw[fl];exact hv) (by rw[fl];omega) (by simp) (by rw[fl];omega) (by simp;omega),fl];simp;rw[SK (b:=400) (by omega) (by omega) (λ s hs=>Nat.le_trans (ae8 hs) (by omega)) (by omega) (by omega)];simp[zn,sd,this,aU yd];by_cases rI:(nK (bq l)).length>200;have:decide (((nK (bq l)).length:Int)>200)=true:=by simp;omega
  simp[this,rI];have:decide (((nK (bq l)).length:Int)>200)=false:=by simp;omega
  simp[this,rI]
 have hi':decide ((i:Int)<l.length)=true:=by simpa using hi
 simp only[Om,hi',aj,aN hi,ai,iU];cases d7 l[i]with
 |false=>rfl
 |true=>simp only[Bool.not_true,au];rw[bB (by omega)]
 simp[Om]
theorem kM{l:List ax}(hl:l.length<1099511627776)(hl2:l.length<n)(hn:1000<=n):oM n l=some (cQ l):=by
 unfold oM cQ;rw[anf hl hl2 hn];simp;by_cases h:(sd l).2=0;have e:((sd l).2==0)=true:=by simp[h]
 have lo:(sd l).1.length<=200:=by unfold sd;split;split;simp;split;simp;simp;omega;simp
 by_cases hlen:(sd l).1.length<n;simp only[h,decide_true,Bool.true_and];rw[Dv (by omega) hlen];rfl;have:(sd l).1.length≠l.length:=by omega
 have hne:(sd l).1≠l:=λe=>this (by rw[e]);simp[h];unfold o9;have hb:(((sd l).1.length:Int) !=l.length)=true:=by simp;omega
 rw[hb];simp[hne];have e:((sd l).2==0)=false:=by simp[h]
 simp[e,h]
theorem QM{α:Type} c (a b:α):(bif c then some a else some b)=some (bif c then a else b):=by cases c<;>rfl
theorem abh(i n:Nat):Int.tmod (i:Int) (n:Int)=(i%n:Nat):=by rw[Int.tmod_eq_emod_of_nonneg (by omega)];omega
theorem aW{i n:Nat}(h:i<n):decide ((i:Int)<(n:Nat))=true:=by simpa using h
theorem gY(n:Nat):decide ((n:Int)<(n:Nat))=false:=by simp
theorem U9{k b:Nat}(h:k*b<=140737488355328)(h2:k<=maxLen):xE k b=true:=by
 have e:((k:Int)).toNat=k:=by omega
 simp only[xE,bK,bT,e];exact⟨⟨by omega,h⟩,h2⟩
def qq(p:List bQ)(i:Nat):bQ:=p.getD i ⟨0,0⟩
def jG(p:List bQ)(i:Nat):jV:=⟨(qq p i).x,(qq p i).y,(qq p ((i+1)%p.length)).x,(qq p ((i+1)%p.length)).y⟩
def gL(p:List bQ):List jV:=(List.range p.length).map (jG p)
theorem Va{p:List bQ}{i:Nat}(h:i<p.length):qq p i=p[i]:=by simp[qq,h]
theorem eu p:(gL p).length=p.length:=by simp[gL]
theorem zC{p:List bQ}{i:Nat}(h:i<(gL p).length):(gL p)[i]=jG p i:=by simp[gL]
theorem ang{α:Type}(A B:List α)(z x:α):(A++z::B).set A.length x=A++x::B:=by rw[List.set_append_right _ _ (aB _),Nat.sub_self];rfl
theorem Bh{p:List bQ}(hl:p.length<=100000)(hn:p.length<n):pX n p=some (gL p):=by
 unfold pX;have mk:xE (p.length:Nat) 32=true:=U9 (by omega) (by show p.length<=2 ^ 63-1;omega);have main:=mZ (step:=pK p) (λ i=>((i:Nat),(List.range i).map (jG p)++List.replicate (p.length-i) (jV.mk 0 0 0 0))) p.length (gL p) (λ i hi=>?_) ?_ n hn;have z:((p.length:Int)).toNat=p.length:=by omega
 simp only[List.range_zero,List.map_nil,gu,Nat.sub_zero]at main;have d1:decide ((p.length:Int)<=(p.length:Nat))=true:=by simp
 have d2:decide ((0:Int)<=(p.length:Nat))=true:=by simp
 rw[mk,d1,d2,z];simp;rw[lE]at main;rw[main];simp;have e:sub (gL p) 0 p.length=gL p:=by rw[<- eu p];exact dY _
 rw[e,eu];simp;have nz:((p.length:Int) !=0)=true:=by simp;intro h;rw[h]at hi;simp at hi
 have md:(i+1)%p.length<p.length:=Nat.mod_lt _ (by omega);have w:i64.wrap (i+1)=(i+1:Nat):=bB (by omega);have z:((p.length:Int)).toNat=p.length:=by omega
 have rp:List.replicate (p.length-i) (jV.mk 0 0 0 0)=jV.mk 0 0 0 0::List.replicate (p.length-(i+1)) (jV.mk 0 0 0 0):=by rw[show p.length-i=(p.length-(i+1))+1 by omega,List.replicate_succ]
 have la:((List.range i).map (jG p)).length=i:=by simp
 have g:bj ((List.range i).map (jG p)++List.replicate (p.length-i) (jV.mk 0 0 0 0)) ((0:Nat)+(i:Nat))=some (jV.mk 0 0 0 0):=by rw[Kc,pJ (by omega),la,rp,Nat.sub_self];rfl
 have z2:(((0:Nat):Int)+(i:Nat)).toNat=i:=by omega
 have st:((List.range i).map (jG p)++List.replicate (p.length-i) (jV.mk 0 0 0 0)).set i (jG p i)=(List.range (i+1)).map (jG p)++List.replicate (p.length-(i+1)) (jV.mk 0 0 0 0):=by rw[rp];have:=ang ((List.range i).map (jG p)) (List.replicate (p.length-(i+1)) (jV.mk 0 0 0 0)) (jV.mk 0 0 0 0) (jG p i);rw[la]at this;rw[this,List.range_succ,map_append,aM];rfl
 simp only[pK,aW hi,aj,aN hi,ai,nz,w,abh,aN md,z,aO hi,g,z2];rw[<- Va hi,<- Va md];rw[show jV.mk (qq p i).x (qq p i).y (qq p ((i+1)%p.length)).x (qq p ((i+1)%p.length)).y=jG p i from rfl,st];simp[pK];rfl
def Vb(a:bQ):Bool:=decide (0<=a.x)&&(decide (a.x<=1048576)&&(decide (0<=a.y)&&decide (a.y<=1048576)))
def vf(s:jV):Bool:=s.mj==s.m4
def S0(s t:jV):Bool:=decide (max (min s.mj s.m4) (min t.mj t.m4)<=min (max s.mj s.m4) (max t.mj t.m4))&&decide (max (min s.qe s.uC) (min t.qe t.uC)<=min (max s.qe s.uC) (max t.qe t.uC))
def Vd(a b:bQ):Bool:=decide (a.x<b.x) || (a.x==b.x&&decide (a.y<b.y))
theorem OJ(a:bQ):uo a=some (Vb a):=by simp[uo,S3,Vb]
theorem Dx(s t:jV):lX s t=some (S0 s t):=by simp[lX,S3,S0]
theorem nL(s:jV):iB s=some (vf s):=rfl
theorem Mr(a b:Int)(hn:3<=n):vL n [a,b]=some (if a=0 then b else a):=by
 obtain⟨m,rfl⟩:∃m,n=m+3:=⟨n-3,by omega⟩;have w1:i64.wrap (0+1)=1:=by decide
 have w2:i64.wrap (1+1)=2:=by decide
 by_cases ha:a=0;by_cases hb:b=0;subst ha;subst hb;simp;rfl;have hb':(b !=0)=true:=by simpa using hb
 subst ha;simp only[vL,Ke,BL,w1];simp[bj,hb'];have ha':(a !=0)=true:=by simpa using ha
 simp[vL,Ke,BL];simp[bj,ha',ha]
theorem Ms(a b:bQ)(hn:3<=n):∃r,rQ n a b=some r/\decide (r>=0)=!Vd a b:=by
 unfold rQ;rw[jB,jB];simp;rw[show ∀u v:Int,sub [u,v] 0 2=[u,v]from λ_ _=>rfl,Mr _ _ hn];refine⟨_,rfl,?_⟩;unfold Vd;by_cases h1:a.x<b.x;simp[h1];by_cases h2:b.x<a.x;have h3:¬a.x=b.x:=by omega
 simp[h1,h2,h3];have h3:a.x=b.x:=by omega
 by_cases h4:a.y<b.y;simp[h3,h4];by_cases h5:b.y<a.y<;>simp[h3,h4,h5]
def Mp(p:List bQ)(i:Nat):Bool:=
 (!Vb (qq p i) || ((((jG p i).mj==(jG p i).m4)==((jG p i).qe==(jG p i).uC)) || (vf (jG p i)==vf (jG p ((i+1)%p.length))))) || (decide (0<i)&&!Vd (qq p 0) (qq p i))
def TJ(p:List bQ)(i k:Nat):Bool:=decide (i+p.length-k>1)&&S0 (jG p i) (jG p k)
def QN(p:List bQ):Bool:=
 decide (4<=p.length)&&(decide (p.length<=60)&&(!((List.range p.length).any (Mp p))&&(!((List.range p.length).any λi=>(List.range p.length).any λk=>decide (i+2<=k)&&TJ p i k)&&!vf (jG p 0))))
def ahH(l:List ax)(x y:Int):Bool:=l.any λr=>(decide (r.x0<=x)&&decide (x<r.x1))&&(decide (r.y0<=y)&&decide (y<r.y1))
theorem ae9 l (x y:Int):js (kF l x) y=ahH l x y:=by
 induction l with
 |nil=>rfl
 |cons r l ih=>
  unfold kF ahH at*;rw[List.filter_cons,List.any_cons,<- ih];cases h:(decide (r.x0<=x)&&decide (x<r.x1))with
  |true=>simp;rw[oV]
  |false=>simp
theorem OL{l:List ax}(h:∀r∈l,d7 r=true) x:Can (dm l x)/\∀y,js (dm l x) y=ahH l x y:=by have⟨h1,h2⟩:=abf (XH h x);exact⟨h1,λy=>by rw[dm,h2,ae9]⟩
def XI:List bX->Prop
 |[]=>True
 |[s]=>s.x0<s.x1
 |s::t::l=>s.x0<s.x1/\s.x1=t.x0/\XI (t::l)
def Je:List bX->Int->List aK
 |[],_=>[]
 |s::l,x=>bif decide (s.x0<=x)&&decide (x<s.x1)then s.column else Je l x
theorem zD(s:bX) l x:Je (s::l) x=bif decide (s.x0<=x)&&decide (x<s.x1)then s.column else Je l x:=rfl
def Runs:List bX->Prop
 |[]=>True
 |[s]=>s.x0<s.x1/\s.column≠[]
 |s::t::l=>(s.x0<s.x1/\s.column≠[])/\s.x1<=t.x0/\(s.x1=t.x0->s.column≠t.column)/\Runs (t::l)
theorem apb{s:bX}{l:List bX}{x:Int}(h1:s.x0<=x)(h2:x<s.x1):Je (s::l) x=s.column:=by rw[zD,show(decide (s.x0<=x)&&decide (x<s.x1))=true by simp[h1,h2]];rfl
theorem qD{α:Type}(f:Int->Int->α)(a b:Int) l:ig f (a::b::l)=f a b::ig f (b::l):=rfl
theorem OM(g:Int->List aK):∀es,es.Pairwise (· < ·)->XI (ig (λ a b=>(⟨a,b,g a⟩:bX)) es)
 |[],_|[_],_=>trivial
 |[a,b],h=>by have h1:=(pairwise_cons.1 h).1 b (by simp);exact h1
 |a::b::c::l,h=>by have h1:=(pairwise_cons.1 h).1 b (by simp);exact⟨h1,rfl,OM g (b::c::l) (pairwise_cons.1 h).2⟩
theorem Jf(g:Int->List aK) x:∀es,(∀ e∈es,x<e)->Je (ig (λ a b=>(⟨a,b,g a⟩:bX)) es) x=[]
 |[],_|[_],_=>rfl
 |a::b::l,h=>by have ha:=h a (by simp);rw[qD,zD,show(decide (a<=x)&&decide (x<b))=false by rw[Bool.and_eq_false_iff,dW];left;omega,au];exact Jf g x (b::l) λe he=>h e (eY _ he)
theorem Jg(g:Int->List aK) x:∀l a,(a::l).Pairwise (· < ·)->a<=x->
 (∀ e∈a::l,e<=x->(∀ e'∈a::l,e'<=e\/x<e')->g e=g x)->((∀ e∈a::l,e<=x)->g x=[])->Je (ig (λ a b=>(⟨a,b,g a⟩:bX)) (a::l)) x=g x
 |[],a,_,hx,_,h2=>(h2 (λ e he=>by have:e=a:=by simpa using he
                                  subst this;exact hx)).symm
 |b::l,a,hp,hx,h1,h2=>by have hab:=(pairwise_cons.1 hp).1 b (by simp);rw[qD,zD];by_cases hb:x<b;rw[show (decide (a<=x)&&decide (x<b))=true by simp[hx,hb],aj];refine h1 a (by simp) hx λe he=>?_;rcases aR.1 he with rfl|he;exact .inl (Int.le_refl _);right;rcases aR.1 he with rfl|he;exact hb;have:=(pairwise_cons.1 (pairwise_cons.1 hp).2).1 e he;omega;rw[show (decide (a<=x)&&decide (x<b))=false by simp[hb],au];refine Jg g x l b (pairwise_cons.1 hp).2 (by omega) (λ e he hex hc=>h1 e (eY _ he) hex λe' he'=>?_) λhall=>h2 λe he=>?_;rcases aR.1 he' with rfl|he';left;have:=(pairwise_cons.1 hp).1 e he;omega;exact hc e' he';rcases aR.1 he with rfl|he;exact hx;exact hall e he
theorem afa(g:Int->List aK) es (hp:es.Pairwise (· < ·)) x
 (h1:∀e∈es,e<=x->(∀ e'∈es,e'<=e\/x<e')->g e=g x) (h2:(∀ e∈es,e<=x)->g x=[]) (h3:(∀ e∈es,x<e)->g x=[]):Je (ig (λ a b=>(⟨a,b,g a⟩:bX)) es) x=g x:=by
 cases es with
 |nil=>exact(h3 (by simp)).symm
 |cons a l=>
  by_cases hx:a<=x;exact Jg g x l a hp hx h1 h2;have hall:∀e∈a::l,x<e:=by intro e he;rcases aR.1 he with rfl|he;omega;have:=(pairwise_cons.1 hp).1 e he;omega
  rw[Jf g x _ hall,h3 hall]
theorem XJ{l:List ax}{z:Int}:z∈gX l↔∃r∈l,z=r.x0\/z=r.x1:=by rw[gX,aeH,List.mem_flatMap];simp
theorem LM l:(gX l).Pairwise (· < ·):=IG _
theorem Zw{l:List ax}{es:List Int}(hes:∀r∈l,r.x0∈es/\r.x1∈es){e x:Int}(hex:e<=x)(hc:∀e'∈es,e'<=e\/x<e'):kF l e=kF l x:=by unfold kF;congr 1;refine List.filter_congr λr hr=>?_;have⟨h0,h1⟩:=hes r hr;have:=hc _ h0;have:=hc _ h1;rw[kQ,bK,bK,bT,bT,bT,bT];omega
theorem OO{l:List ax}{x:Int}(h:∀r∈l,x<r.x0\/r.x1<=x):kF l x=[]:=by unfold kF;rw[List.map_eq_nil_iff,List.filter_eq_nil_iff];intro r hr;have:=h r hr;rw[bK,bT,bT];omega
theorem Jh l:XI (bq l):=OM _ _ (LM l)
theorem LP l x:Je (bq l) x=dm l x:=by have hes:∀r∈l,r.x0∈gX l/\r.x1∈gX l:=λr hr=>⟨XJ.2 ⟨r,hr,.inl rfl⟩,XJ.2 ⟨r,hr,.inr rfl⟩⟩;refine afa (dm l) (gX l) (LM l) x (λ e _ hex hc=>?_) (λ hall=>?_) (λ hall=>?_);unfold dm;rw[Zw hes hex hc];unfold dm;rw[OO λr hr=>.inr (hall _ (hes r hr).2)];rfl;unfold dm;rw[OO λr hr=>.inl (hall _ (hes r hr).1)];rfl
theorem ak8{a:List ax}(h:cQ a=true):sd a=(a,0):=by unfold cQ at h;rw[bK,bT,bT]at h;obtain⟨h1,h2⟩:=h;exact Prod.ext h2 h1
theorem uT{a:List ax}(h:cQ a=true):(∀ r∈a,d7 r=true)/\a.length<=200/\nK (bq a)=a:=by have h:=ak8 h;unfold sd at h;split at h;rename_i hall;split at h;simp at h;split at h;simp at h;rename_i rI;injection h with h _;refine⟨all_eq_true.1 hall,?_,h⟩;rw[<- h];omega;simp at h
def ext(out:List aK)(p:aK):List aK:=
 match out.getLast? with
 |some q=>bif q.to==p.from_ then out.dropLast++[⟨q.from_,p.to⟩]else out++[p]
 |none=>[p]
def lv(a b:List aK):List Int:=Fk ((a++b).flatMap λs=>[s.from_,s.to])
def uU(keep:Bool->Bool->Bool)(a b:List aK):List aK:=
 ((ig aK.mk (lv a b)).filter λp=>keep (js a p.from_) (js b p.from_)).foldl ext []
theorem ahI o (q p:aK):ext (o++[q]) p=bif q.to==p.from_ then o++[⟨q.from_,p.to⟩]else o++[q]++[p]:=by simp[ext]
def rG(keep:Bool->Bool->Bool)(a b:List ax):List bX:=
 ig (λ x x'=>(⟨x,x',uU keep (dm a x) (dm b x)⟩:bX)) (gX (a++b))
def df(keep:Bool->Bool->Bool)(a b:List ax):List ax×Int:=
 if cQ a&&cQ b then(if (nK (rG keep a b)).length>200 then([],6)else(nK (rG keep a b),0))else([],1)
def XK{α:Type}(a0:List α)(a1:Int)(a2:(α×Int×Unit)->Option Int):(Int×Int)->Option ((Int×Int)⊕Int)
 |(v1,v2)=>(bif (decide (v1<v2))then(ck (decide (0<=1)&&decide (1<=IntKind.u64.bits)) ((bj a0 (i64.wrap ((IntKind.u64.wrap (i64.wrap (v1+v2)))/2 ^ (1:Int).toNat))).bind λx1=>(a2 (x1,a1,())).bind λr1=>(bif (decide (r1<0))then some (.inl ((i64.wrap ((i64.wrap ((IntKind.u64.wrap (i64.wrap (v1+v2)))/2 ^ (1:Int).toNat))+1)),v2))else some (.inl (v1,(i64.wrap ((IntKind.u64.wrap (i64.wrap (v1+v2)))/2 ^ (1:Int).toNat)))))))else some (.inr v1))
theorem afb{α:Type}{l:List α}{key:Int}{φ:(α×Int×Unit)->Option Int}(p:α->Bool)(f:α->Int)(hφ:∀x,φ (x,key,())=some (f x))(hf:∀x,decide (f x<0)=p x)
 (hm:∀i j (hj:j<l.length) (hij:i<j),p l[j]=true->p (l[i]'(by omega))=true) (hl:l.length<1099511627776):
 ∀(m i j n:Nat),j-i<=m->i<=j->j<=l.length->(∀ k (hk:k<i) (hkl:k<l.length),p l[k]=true)->(∀ k (hk:j<=k) (hkl:k<l.length),p l[k]=false)->m<n->
 ∃w:Nat,w<=l.length/\iter (XK l key φ) n (i,j)=some (w:Int)/\(∀ k (hk:k<w) (hkl:k<l.length),p l[k]=true)/\∀k (hk:w<=k) (hkl:k<l.length),p l[k]=false:=by
 intro m
 induction m with
 |zero=>
  intro i j n hm0 hij hjl h1 h2 hn;obtain⟨n,rfl⟩:∃q,n=q+1:=⟨n-1,by omega⟩;have:i=j:=by omega
  subst this;exact⟨i,hjl,dU (by simp[XK]),h1,h2⟩
 |succ m ih=>
  intro i j n hm0 hij hjl h1 h2 hn;obtain⟨n,rfl⟩:∃q,n=q+1:=⟨n-1,by omega⟩;by_cases hlt:i<j;have c:decide ((i:Int)<(j:Nat))=true:=by simpa using hlt
  have c1:(decide (0<=1)&&decide (1<=IntKind.u64.bits))=true:=rfl;have e:i64.wrap ((IntKind.u64.wrap (i64.wrap ((i:Nat)+(j:Nat))))/2 ^ (1:Int).toNat)=((i+j)/2:Nat):=by
   rw[arC (by omega),akV (by omega),show((((i+j:Nat):Int))/2 ^ (1:Int).toNat)=((i+j)/2:Nat)by
    rw[show (1:Int).toNat=1 from rfl,Int.pow_one];omega,IE (by omega)]
  have hh:(i+j)/2<l.length:=by omega
  cases hp:p l[(i+j)/2]with
  |true=>
   have s:XK l key φ (i,j)=some (.inl (((i+j)/2+1:Nat),j)):=(by simp only[XK,c,aj,c1,e,aN hh,ai,hφ,hf,hp];rw[bB (by omega)]);rw[fU s];refine ih _ _ n (by omega) (by omega) hjl (λ k hk hkl=>?_) h2 (by omega);by_cases hk2:k<(i+j)/2;exact hm k _ hh hk2 hp;have:k=(i+j)/2:=(by omega);subst this;exact hp
  |false=>
   have s:XK l key φ (i,j)=some (.inl (i,((i+j)/2:Nat))):=(by simp only[XK,c,aj,c1,e,aN hh,ai,hφ,hf,hp,au]);rw[fU s];refine ih _ _ n (by omega) (by omega) (by omega) h1 (λ k hk hkl=>?_) (by omega);by_cases hk2:(i+j)/2<k;cases hpk:p l[k]with
   |false=>rfl
   |true=>have:=hm _ k hkl hk2 hpk;rw[hp]at this;cases this
   have:k=(i+j)/2:=(by omega);subst this;exact hp
  have:i=j:=by omega
  subst this;exact⟨i,hjl,dU (by simp[XK]),h1,h2⟩
theorem ani l key (φ:(bX×Int×Unit)->Option Int):l6 l key φ=XK l key φ:=by funext ⟨a,b⟩;rfl
theorem apc l key (φ:(aK×Int×Unit)->Option Int):mY l key φ=XK l key φ:=by funext ⟨a,b⟩;rfl
theorem XL:∀{l:List bX},XI l->l.Pairwise (λ s t=>s.x1<=t.x0)/\∀s∈l,s.x0<s.x1
 |[],_=>⟨List.Pairwise.nil,by simp⟩
 |[s],h=>⟨by simp,λt ht=>by have:t=s:=by simpa using ht
                            subst this;exact h⟩
 |s::t::l,h=>by obtain⟨h1,h2,h3⟩:=h;have⟨p1,p2⟩:=XL h3;refine⟨?_,?_⟩;rw[pairwise_cons];refine⟨λ u hu=>?_,p1⟩;rcases aR.1 hu with rfl|hu;omega;have:=(pairwise_cons.1 p1).1 u hu;have:=p2 t (by simp);omega;intro u hu;rcases aR.1 hu with rfl|hu;exact h1;exact p2 u hu
theorem Mt{x:Int}:∀{l:List bX},(∀ s∈l,¬(s.x0<=x/\x<s.x1))->Je l x=[]
 |[],_=>rfl
 |s::l,h=>by have:=h s (by simp);rw[zD,show(decide (s.x0<=x)&&decide (x<s.x1))=false by rw[Bool.and_eq_false_iff,dW,dW];omega,au];exact Mt λt ht=>h t (by simp[ht])
theorem abj{x:Int}:∀{l:List bX}{w:Nat}(hw:w<l.length),(∀ k (hk:k<w),¬((l[k]'(by omega)).x0<=x/\x<(l[k]'(by omega)).x1))->l[w].x0<=x->x<l[w].x1->Je l x=l[w].column
 |[],w,hw,_,_,_=>by simp at hw
 |s::l,0,hw,_,h0,h1=>apb h0 h1
 |s::l,w+1,hw,hk,h0,h1=>by have hs:=hk 0 (by omega);simp at hs;rw[zD,show(decide (s.x0<=x)&&decide (x<s.x1))=false by rw[Bool.and_eq_false_iff,dW,dW];omega,au];exact abj (by simpa using hw) (λ k hk'=>by have:=hk (k+1) (by omega);simpa using this) h0 h1
theorem afc{l:List bX}{x:Int}(h:XI l)(hl:l.length<1099511627776)(hn:l.length<n):XD n l x=some (Je l x):=by
 have⟨a1,a2⟩:=XL h;rw[List.pairwise_iff_getElem]at a1
 have run:=afb (l:=l) (key:=x) (φ:=λ(y1:bX×Int×Unit)=>wY y1.1 y1.2.1) (λ s=>decide (s.x1<=x)) (λ s=>if s.x1<=x then -1 else 1)
  (λ s=>by show wY s x=_;unfold wY;by_cases c:s.x1<=x<;>simp[c]) (λ s=>by by_cases c:s.x1<=x<;>simp[c])
  (λ i j hj hij hp=>by rw[bT]at hp ⊢;have:=a1 i j (by omega) hj hij;have:=a2 l[j] (getElem_mem _);omega) hl l.length 0 l.length n (by omega) (by omega) (aB _) (λ k hk=>by omega) (λ k hk hkl=>by omega) hn
 obtain⟨w,hw,e,h1,h2⟩:=run;unfold XD jD;rw[ani];have e':iter (XK l x λ(y1:bX×Int×Unit)=>wY y1.1 y1.2.1) n (0,(l.length:Nat))=some (w:Int):=e;rw[e'];simp only[ai];have ao:∀b:Int,∃bb,((bif (decide (w<(l.length:Int)))then(bj l w).bind λx2=>(wY x2 x).bind λr2=>some (w,(r2==b))else some (w,false)):Option (Int×Bool))=some ((w:Int),bb):=by
  intro b;by_cases c:w<l.length;have d:decide ((w:Int)<l.length)=true:=by simpa using c
  rw[d];simp only[aj];rw[aN c,ai];unfold wY;cases decide (l[w].x1<=x)<;>exact⟨_,rfl⟩;have d:decide ((w:Int)<l.length)=false:=by simp;omega
  rw[d];exact⟨_,rfl⟩
 have⟨bb,hbb⟩:=ao 0;rw[hbb,ai];simp only[];by_cases c:w<l.length;have d:decide ((w:Int)<l.length)=true:=by simpa using c
 simp only[d,aj,aN c,ai];have hx1:=h2 w (aB _) c;rw[dW]at hx1;by_cases c2:l[w].x0<=x;simp[c2];rw[abj c (λ k hk hh=>?_) c2 (by omega)];have:=h1 k hk (by omega);rw[bT]at this;omega;simp[c2];rw[Mt λs hs hh=>?_];obtain⟨k,hk,rfl⟩:=mem_iff_getElem.1 hs;rcases Nat.lt_trichotomy k w with vl|rfl|vl;have:=h1 k vl hk;rw[bT]at this;omega;omega;have:=a1 w k c hk vl;have:=a2 l[w] (getElem_mem _);omega;have d:decide ((w:Int)<l.length)=false:=by simp;omega
 simp only[d,au,ai];rw[Mt λs hs hh=>?_];obtain⟨k,hk,rfl⟩:=mem_iff_getElem.1 hs;have:=h1 k (by omega) hk;rw[bT]at this;omega
theorem OQ{l:List aK}{y:Int}(h:Can l)(hl:l.length<1099511627776)(hn:l.length<n):Dr n l y=some (js l y):=by
 obtain⟨a1,a2⟩:=h;rw[List.pairwise_iff_getElem]at a1
 have run:=afb (l:=l) (key:=y) (φ:=λ(y1:aK×Int×Unit)=>l7 y1.1 y1.2.1) (λ s=>decide (s.to<=y)) (λ s=>if s.to<=y then -1 else 1)
  (λ s=>by show l7 s y=_;unfold l7;by_cases c:s.to<=y<;>simp[c]) (λ s=>by by_cases c:s.to<=y<;>simp[c])
  (λ i j hj hij hp=>by rw[bT]at hp ⊢;have:=a1 i j (by omega) hj hij;have:l[j].from_<l[j].to:=a2 l[j] (getElem_mem _);omega) hl l.length 0 l.length n (by omega) (by omega) (aB _) (λ k hk=>by omega) (λ k hk hkl=>by omega) hn
 obtain⟨w,hw,e,h1,h2⟩:=run;unfold Dr jQ;rw[apc];have e':iter (XK l y λ(y1:aK×Int×Unit)=>l7 y1.1 y1.2.1) n (0,(l.length:Nat))=some (w:Int):=e;rw[e'];simp only[ai];have ao:∀b:Int,∃bb,((bif (decide (w<(l.length:Int)))then(bj l w).bind λx2=>(l7 x2 y).bind λr2=>some (w,(r2==b))else some (w,false)):Option (Int×Bool))=some ((w:Int),bb):=by
  intro b;by_cases c:w<l.length;have d:decide ((w:Int)<l.length)=true:=by simpa using c
  rw[d];simp only[aj];rw[aN c,ai];unfold l7;cases decide (l[w].to<=y)<;>exact⟨_,rfl⟩;have d:decide ((w:Int)<l.length)=false:=by simp;omega
  rw[d];exact⟨_,rfl⟩
 have⟨bb,hbb⟩:=ao 0;rw[hbb,ai];simp only[];by_cases c:w<l.length;have d:decide ((w:Int)<l.length)=true:=by simpa using c
 simp only[d,aj,aN c,ai];have hx1:=h2 w (aB _) c;rw[dW]at hx1;congr 1;rw[kQ,bT,OI];constructor;exact λhf=>⟨l[w],getElem_mem _,hf,by omega⟩;rintro⟨s,hs,g1,g2⟩;obtain⟨k,hk,rfl⟩:=mem_iff_getElem.1 hs;rcases Nat.lt_trichotomy k w with vl|rfl|vl;have:=h1 k vl hk;rw[bT]at this;omega;exact g1;have:=a1 w k c hk vl;omega;have d:decide ((w:Int)<l.length)=false:=by simp;omega
 simp only[d,au];congr 1;symm;cases hh:js l y with
 |false=>rfl
 |true=>
  obtain⟨s,hs,g1,g2⟩:=(OI _ _).1 hh;obtain⟨k,hk,rfl⟩:=mem_iff_getElem.1 hs;have:=h1 k (by omega) hk;rw[bT]at this;omega
theorem OT{l:List (List aK)}(hf:l.flatten.length<1099511627776)(hl:l.length<1099511627776)(hn:l.length<n):zo n l=some l.flatten:=NT (aK.mk 0 0) (b:=16) hf (by omega) hl hn
theorem OU(l:List aK):(l.flatMap λr=>[r.from_,r.to]).length=2*l.length:=by
 induction l with
 |nil=>rfl
 |cons x l ih=>simp[ih];omega
theorem TK{l:List aK}(hl:l.length<10995116277)(hn:l.length<n):iter (wZ l) n (0,[])=some (l.flatMap λr=>[r.from_,r.to]):=by
 have:=fF (l:=l) (step:=wZ l) (λ i s=>(i,s)) (λ r s=>s++[r.from_,r.to]) (λ s=>s) (λ i s=>s.length<=2*i)
  (λ i hi s hs=>?_) (λ s hs=>by simp[wZ]) n hn [] (aB _)
 rw[lE]at this;rw[this];have gen:∀(ys:List aK) s,ys.foldl (λ s r=>s++[r.from_,r.to]) s=s++ys.flatMap λr=>[r.from_,r.to]:=by
  intro ys
  induction ys with
  |nil=>intro s;simp
  |cons y ys ih=>intro s;simp[ih]
 congr 1;simpa using gen l [];have hi':decide ((i:Int)<(l.length:Nat))=true:=by simpa using hi
 have ap:bH s.length s.length (sub ([l[i].from_,l[i].to]:List Int) 0 2).length 2 8=true:=bU (n:=2) (by omega) (by simp[maxLen];omega);simp only[wZ,hi',aj,aO hi,aQ hi,ai,ap,dO,aH];refine⟨?_,by simp;omega⟩;rw[bB (by omega)];rfl
theorem XM{α β:Type}(p:α->Bool)(f:β->α->β):∀(l:List α)(s:β),(l.filter p).foldl f s=l.foldl (λ s x=>bif p x then f s x else s) s
 |[],s=>rfl
 |x::l,s=>by
  rw[List.filter_cons,foldl_cons];cases h:p x with
  |true|false=>simp;exact XM p f l _
theorem XO out (p:aK):(ext out p).length<=out.length+1:=by
 unfold ext;cases out.getLast? with
 |none=>simp
 |some q=>simp;cases q.to==p.from_<;>simp<;>omega
theorem XP(a b:List aK):(lv a b).length<=2*(a.length+b.length):=by have h:=rX (kJ (λ a b=>decide (a<b)) ((a++b).flatMap λr=>[r.from_,r.to]));rw[eZ,OU,fP]at h;exact h
theorem Zx(keep:Bool->Bool->Bool)(a b:List aK):(uU keep a b).length<=2*(a.length+b.length):=by
 have gen:∀(ys out:List aK),(ys.foldl ext out).length<=out.length+ys.length:=by
  intro ys
  induction ys with
  |nil=>intro out;simp
  |cons y ys ih=>
   intro out;simp;have:=ih (ext out y);have:=XO out y;omega
 have h:=gen ((ig aK.mk (lv a b)).filter λp=>keep (js a p.from_) (js b p.from_)) [];have h2:=length_filter_le (λ p=>keep (js a p.from_) (js b p.from_)) (ig aK.mk (lv a b));have h3:=(sJ aK.mk (lv a b)).1;have h4:=XP a b;simp at h;unfold uU;omega
theorem afd{keep:Bool->Bool->Bool}{φ:(Bool×Bool×Unit)->Option Bool}(hφ:∀p q,φ (p,q,())=some (keep p q)){a b:List aK}(ha:Can a)(hb:Can b)(hl:a.length+b.length<1099511627)(hn:2*(a.length+b.length)+2<n):I5 n a b φ=some (uU keep a b):=by
 have fl:[a,b].flatten=a++b:=by simp
 have s2:(sub ([a,b]:List (List aK)) 0 2)=[a,b]:=rfl;have q2:aE ([a,b]:List (List aK)).length 2=true:=rfl;have hys:=XP a b;have hfl:((a++b).flatMap λr=>[r.from_,r.to]).length=2*(a.length+b.length):=by rw[OU,fP]
 unfold I5;rw[s2,q2];simp only[aj];rw[OT (by rw[fl,fP];omega) (by simp) (by simp;omega),fl];simp only[ai,length_nil,aH,aj,TK (l:=a++b) (n:=n) (by rw[fP];omega) (by rw[fP];omega)];rw[qb (by rw[hfl];omega) (by rw[hfl];omega)];simp only[ai,eZ,aH,aj];rw[uR (by rw[eZ,hfl];omega) (by rw[eZ,hfl];omega)];simp only[ai];have hE:jf (kJ oc ((a++b).flatMap λr=>[r.from_,r.to]))=lv a b:=rfl;rw[hE];have⟨p1,p2⟩:=sJ aK.mk (lv a b);have key:iter (xg n a b φ ((),lv a b)) n ((1:Int),([]:List aK))=some (uU keep a b):=by
  have:=fF (l:=ig aK.mk (lv a b)) (step:=xg n a b φ ((),lv a b)) (λ i (s:List aK)=>(((i+1:Nat):Int),s)) (λ p s=>bif keep (js a p.from_) (js b p.from_)then ext s p else s) (λ s=>s) (λ i s=>s.length<=i)
   (λ i hi s hs=>?_) (λ s hs=>?_) n (by omega) [] (aB _)
  rw[show ((0+1:Nat):Int)=1 from rfl]at this;rw[this,uU,XM];have hi2:i+1<(lv a b).length:=by omega
  have hi1:i<(lv a b).length:=by omega
  have d:decide (((i+1:Nat):Int)<(((lv a b).length:Nat):Int))=true:=by simp;omega
  have wp:i64.wrap ((i+1:Nat)-1)=(i:Nat):=by rw[nD (by omega) (by omega)];rfl
  have pe:(ig aK.mk (lv a b))[i]=aK.mk (lv a b)[i] (lv a b)[i+1]:=p2 i hi2 hi;rw[pe];have lx:=XO s (aK.mk (lv a b)[i] (lv a b)[i+1]);have ap:bH s.length s.length (sub ([(aK.mk (lv a b)[i] (lv a b)[i+1])]:List aK) 0 1).length 1 16=true:=bU (n:=1) (by omega) (by simp[maxLen];omega);have sb:(sub ([(aK.mk (lv a b)[i] (lv a b)[i+1])]:List aK) 0 1)=[aK.mk (lv a b)[i] (lv a b)[i+1]]:=rfl;refine⟨?_,by cases keep (js a (lv a b)[i]) (js b (lv a b)[i])<;>simp<;>omega⟩;simp only[xg,d,aj,wp,aO hi1,aQ hi1,ai,OQ (n:=n) ha (show a.length<1099511627776 by omega) (show a.length<n by omega),OQ (n:=n) hb (show b.length<1099511627776 by omega) (show b.length<n by omega),hφ];cases hk:keep (js a (lv a b)[i]) (js b (lv a b)[i])with
  |false=>
   simp only[Bool.not_false,aj,aH,ai,au];rw[bB (by omega)]
  |true=>
   simp only[Bool.not_true,au,aj];rcases List.eq_nil_or_concat s with rfl|⟨s0,q,I0⟩;have d0:decide ((([]:List aK).length:Nat)>0)=false:=(by simp);simp only[d0,au,ai,aO hi2,aQ hi2,aj,ap,dO,aH];rw[bB (by omega)];rfl;rw[List.concat_eq_append]at I0;subst I0;have d0:decide (((((s0++[q]).length:Nat):Int))>0)=true:=(by simp<;>omega);have B4:(s0++[q]).length=s0.length+1:=(by simp);have wq:i64.wrap (((s0++[q]).length:Nat)-1)=(s0.length:Nat):=(by rw[nD (by simp) (by omega),B4];rfl);have T3:cM (s0.length:Nat) (s0++[q]).length=true:=aO (by omega);have g:bj (s0++[q]) ((0:Nat)+(s0.length:Nat))=some q:=(by rw[Kc];simp);have z:(((0:Nat):Int)+(s0.length:Nat)).toNat=s0.length:=(by simp);have st:(s0++[q]).set s0.length (aK.mk q.from_ (lv a b)[i+1])=s0++[⟨q.from_,(lv a b)[i+1]⟩]:=(by simp);simp only[d0,aj,wq,T3,g,ai,ahI];cases hj:q.to==(lv a b)[i]with
   |true=>
    simp only[aj,aO hi2,aQ hi2,ai,z,st];have e:aE (s0++[q]).length (s0++[(⟨q.from_,(lv a b)[i+1]⟩:aK)]).length=true:=(by simp);simp only[e,aj,ai,aH];rw[bB (by omega)]
   |false=>
    rw[sb]at ap;simp only[au,aO hi2,aQ hi2,ai,aj,sb,ap,dO,aH];rw[bB (by omega)]
  have d:decide ((((ig aK.mk (lv a b)).length+1:Nat):Int)<((lv a b).length:Nat))=false:=by simp;omega
  simp only[xg,d,au,aH,aj]
 rw[key];simp
theorem Dy(keep:Bool->Bool->Bool)(a b:List ax):rG keep a b=(bq (a++b)).map λs=>⟨s.x0,s.x1,uU keep (dm a s.x0) (dm b s.x0)⟩:=by
 have gen:∀es:List Int,ig (λ x x'=>(⟨x,x',uU keep (dm a x) (dm b x)⟩:bX)) es=(ig (λ x x'=>(⟨x,x',dm (a++b) x⟩:bX)) es).map λs=>⟨s.x0,s.x1,uU keep (dm a s.x0) (dm b s.x0)⟩:=by
  intro es
  match es with
  |[]|[_]=>rfl
  |x::y::l=>
   rw[qD,qD,bE];congr 1;have:∀es:List Int,ig (λ x x'=>(⟨x,x',uU keep (dm a x) (dm b x)⟩:bX)) es=(ig (λ x x'=>(⟨x,x',dm (a++b) x⟩:bX)) es).map λs=>⟨s.x0,s.x1,uU keep (dm a s.x0) (dm b s.x0)⟩:=by
    intro es
    induction es with
    |nil=>rfl
    |cons x es ih=>
     cases es with
     |nil=>rfl
     |cons y es=>rw[qD,qD,bE,ih]
   exact this (y::l)
 exact gen (gX (a++b))
theorem Zy{keep:Bool->Bool->Bool}{φ:(Bool×Bool×Unit)->Option Bool}(hφ:∀p q,φ (p,q,())=some (keep p q)){a b:List ax}(ha:a.length<1099511627776)(hb:b.length<1099511627776)(hna:a.length<n)(hnb:b.length<n)(hn:1000<=n):ES n a b φ=some (df keep a b):=by
 unfold ES df;rw[kM ha hna hn,ai];cases hra:cQ a with
 |false=>rfl
 |true=>
  rw[kM hb hnb hn];simp;cases hrb:cQ b with
  |false=>rfl
  |true=>
   have⟨a1,a2,_⟩:=uT hra;have⟨b1,b2,_⟩:=uT hrb;have fa:[a].flatten=a:=(by simp);have fb:[b].flatten=b:=(by simp);have fab:[a,b].flatten=a++b:=(by simp);have hab:∀r∈a++b,d7 r=true:=λr hr=>(by rcases bV.1 hr with hr|hr;exact a1 r hr;exact b1 r hr);have sa:o8 n [a]=some (bq a):=by
    have:=yJ (n:=n) (ls:=[a]) (by rw[fa];exact a1) (by rw[fa];omega) (by simp) (by rw[fa];omega) (by simp;omega)
    rwa [fa]at this
   have sb:o8 n [b]=some (bq b):=by
    have:=yJ (n:=n) (ls:=[b]) (by rw[fb];exact b1) (by rw[fb];omega) (by simp) (by rw[fb];omega) (by simp;omega)
    rwa [fb]at this
   have lab:(a++b).length=a.length+b.length:=fP;have sab:o8 n [a,b]=some (bq (a++b)):=by
    have:=yJ (n:=n) (ls:=[a,b]) (by rw[fab];exact hab) (by rw[fab,lab];omega) (by simp) (by rw[fab,lab];omega) (by simp;omega)
    rwa [fab]at this
   have e1:(sub ([a]:List (List ax)) 0 1)=[a]:=rfl;have e2:(sub ([b]:List (List ax)) 0 1)=[b]:=rfl;have e3:(sub ([a,b]:List (List ax)) 0 2)=[a,b]:=rfl;have q1:aE ([a]:List (List ax)).length 1=true:=rfl;have q2:aE ([b]:List (List ax)).length 1=true:=rfl;have q3:aE ([a,b]:List (List ax)).length 2=true:=rfl;have la:=uS a;have lb:=uS b;have lS:=uS (a++b);rw[lab]at lS;have mc:∀x,(dm a x).length<=200/\(dm b x).length<=200:=λx=>⟨Nat.le_trans (zB a x) a2,Nat.le_trans (zB b x) b2⟩;have lm:∀x,(uU keep (dm a x) (dm b x)).length<=800:=λx=>(by have:=Zx keep (dm a x) (dm b x);have:=mc x;omega);have key:iter (rf n φ (bq a) (bq b) (bq (a++b))) n ((0:Int),bq (a++b))=some (rG keep a b):=by
    have:=mZ (step:=rf n φ (bq a) (bq b) (bq (a++b))) (λ i=>((i:Int),(rG keep a b).take i++(bq (a++b)).drop i)) (bq (a++b)).length (rG keep a b) (λ i hi=>?_) ?_ n (by omega);simpa using this;have d:decide ((i:Int)<(((bq (a++b)).length:Nat):Int))=true:=(by simpa using hi);have lc:(rG keep a b).length=(bq (a++b)).length:=(by rw[Dy,length_map]);have lt:((rG keep a b).take i).length=i:=(by rw[length_take];omega);have hd:(bq (a++b)).drop i=(bq (a++b))[i]::(bq (a++b)).drop (i+1):=List.drop_eq_getElem_cons hi;have g:bj ((rG keep a b).take i++(bq (a++b)).drop i) (((0:Nat):Int)+(i:Nat))=some (bq (a++b))[i]:=(by rw[Kc,pJ (by omega),lt,hd];simp);have st:∀s:bX,((rG keep a b).take i++(bq (a++b)).drop i).set i s=(rG keep a b).take i++s::(bq (a++b)).drop (i+1):=(by intro s;rw[List.set_append_right _ _ (by omega),lt,hd,Nat.sub_self];rfl);have z:(((0:Nat):Int)+(i:Nat)).toNat=i:=(by simp);have tk:(rG keep a b).take (i+1)=(rG keep a b).take i++[⟨(bq (a++b))[i].x0,(bq (a++b))[i].x1,uU keep (dm a (bq (a++b))[i].x0) (dm b (bq (a++b))[i].x0)⟩]:=(by rw[jl (by omega)];congr 2;simp[Dy]);have hm:=mc (bq (a++b))[i].x0;have mg:I5 n (dm a (bq (a++b))[i].x0) (dm b (bq (a++b))[i].x0) φ=some (uU keep (dm a (bq (a++b))[i].x0) (dm b (bq (a++b))[i].x0)):=
     afd hφ (OL a1 _).1 (OL b1 _).1 (by omega) (by omega)
    have at1:XD n (bq a) (bq (a++b))[i].x0=some (dm a (bq (a++b))[i].x0):=(by rw[afc (Jh a) (by omega) (by omega),LP]);have at2:XD n (bq b) (bq (a++b))[i].x0=some (dm b (bq (a++b))[i].x0):=(by rw[afc (Jh b) (by omega) (by omega),LP]);simp only[rf,d,aj,aO hi,g,ai,dY,at1,at2,mg,aH,z,st];rw[bB (by omega),tk,aM];rfl;have lc:(rG keep a b).length=(bq (a++b)).length:=(by rw[Dy,length_map]);have d:decide (((bq (a++b)).length:Nat)<((bq (a++b)).length:Nat))=false:=(by simp);simp[rf,d,au,List.drop_length,List.append_nil];rw[take_of_length_le (by omega)]
   have lc:(rG keep a b).length=(bq (a++b)).length:=(by rw[Dy,length_map]);have cc:∀s∈rG keep a b,s.column.length<=800:=(by intro s hs;rw[Dy,mem_map]at hs;obtain⟨t,_,rfl⟩:=hs;exact lm _);have sl:sub (rG keep a b) 0 (bq (a++b)).length=rG keep a b:=(by rw[<- lc,dY]);simp[Bool.not_true,au,e1,e2,e3,q1,q2,q3,aj,sa,sb,sab,ai,dY,aH,key,sl,lc];rw[SK (b:=800) (by omega) (by omega) cc (by omega) (by omega)];simp[ai,zn,if_true];by_cases rI:(nK (rG keep a b)).length>200;have:decide (((nK (rG keep a b)).length:Int)>200)=true:=(by simp;omega);simp[this,aj,ai,rI,if_true];have:decide (((nK (rG keep a b)).length:Int)>200)=false:=(by simp;omega);simp[this,au,ai,rI,if_false]
theorem yK{a b:List ax}(ha:a.length<1099511627776)(hb:b.length<1099511627776)(hna:a.length<n)(hnb:b.length<n)(hn:1000<=n):yT n a b=some (df (λ p q=>p&&q) a b):=by unfold yT;rw[Zy (keep:=λp q=>p&&q) (λ p q=>by show yx p q=_;unfold yx;cases p<;>rfl) ha hb hna hnb hn];rfl
theorem yL{keep:Bool->Bool->Bool}(a b:List ax):(df keep a b).1.length<=200:=by unfold df;split;split;simp;show(nK _).length<=200;omega;simp
def SL(r:ax):Int:=(r.x1-r.x0)*(r.y1-r.y0)
def ly(l:List ax):Int:=(l.map SL).sum
def OV(r:ax)(x y:Int):Bool:=(decide (r.x0<=x)&&decide (x<r.x1))&&(decide (r.y0<=y)&&decide (y<r.y1))
theorem Ji{r:ax}(h:d7 r=true):0<=SL r/\SL r<=1099511627776:=by simp at h;unfold SL;refine⟨Int.mul_nonneg (by omega) (by omega),?_⟩;have:=Int.mul_le_mul (show r.x1-r.x0<=1048576 by omega) (show r.y1-r.y0<=1048576 by omega) (by omega) (by omega);omega
theorem XQ:∀{l:List ax},(∀ r∈l,d7 r=true)->0<=ly l/\ly l<=1099511627776*l.length
 |[],_=>by simp[ly]
 |r::l,h=>by
  have h1:=Ji (h r List.mem_cons_self);have h2:=XQ (l:=l) λq hq=>h q (eY _ hq);have e:ly (r::l)=SL r+ly l:=rfl;rw[e,dX]
  push_cast
  omega
theorem Jj{l:List ax}{φ:(ax×Unit)->Option Bool}(p:ax->Bool)(h:∀x∈l,φ (x,())=some (p x))(hl:l.length<1099511627776)(hn:l.length<n):uJ n l φ=some (xH p l):=fZ p h hl hn
theorem tC{l:List ax}{φ:(ax×Unit)->Option Bool}(p:ax->Bool)(h:∀x∈l,φ (x,())=some (p x))(hl:l.length<1099511627776)(hn:l.length<n):jF n l φ=some (l.any p):=by unfold jF;rw[Jj p h hl hn,ai,xZ]
theorem abk:∀(l:List Int) x,(l++[x]).sum=l.sum+x
 |[],x=>by simp
 |a::l,x=>by rw[List.cons_append,List.sum_cons,List.sum_cons,abk l x];omega
theorem ak9{r:ax}(h:d7 r=true):pG r=some (SL r):=by have hb:=Ji h;unfold pG sS;rw[iU,h];simp;simp at h;unfold SL at*;rw[dS (x:=r.x1-r.x0),dS (x:=r.y1-r.y0),dS (by omega) (by omega)]
theorem zF{a:List ax}(ha:a.length<=900)(hn:1000<=n):Kr n a=some (bif cQ a then ly a else 0):=by
 unfold Kr;rw[kM (by omega) (by omega) hn];simp;cases hr:cQ a with
 |false=>rfl
 |true=>
  have ok:=(uT hr).1;have:=mZ (step:=EU a) (λ i=>(ly (a.take i),(i:Nat))) a.length (ly a) (λ i hi=>?_) ?_ n (by omega);have e:ly (a.take 0)=0:=rfl;rw[e,lE]at this;simp[this];have c:decide ((i:Int)<a.length)=true:=by simpa using hi
  have h1:=XQ (l:=a.take i) λr hr=>ok r (List.mem_of_mem_take hr);rw[length_take]at h1;have h2:=Ji (ok _ (getElem_mem hi));have e:ly (a.take (i+1))=ly (a.take i)+SL a[i]:=by rw[jl hi];unfold ly;rw[map_append];exact abk _ _
  simp only[EU,c,aj,aN hi,ai,ak9 (ok _ (getElem_mem hi))];rw[bB (by omega),dS (by omega) (by omega),e];simp[EU]
theorem QO{α:Type}(p:α->Bool) l:(match oK p l with|some _=>true|none=>false)=l.any p:=by have:=ql p l;rw[<- this];cases oK p l<;>rfl
def R2(p q:ax):Bool:=decide (max p.x0 q.x0<min p.x1 q.x1)&&decide (max p.y0 q.y0<min p.y1 q.y1)
def NL(a b:List ax):Bool:=a.any λp=>b.any λq=>R2 p q
theorem ahJ{a b:List ax}(ha:a.length<1099511627776)(hb:b.length<1099511627776)(hna:a.length<n)(hnb:b.length<n):U6 n a b=some (NL a b):=by
 unfold U6 NL;rw[tC (λ p=>b.any λq=>R2 p q) (λ p _=>?_) ha hna];rfl;show Fa n p b=_;unfold Fa;rw[tC (λ q=>R2 p q) (λ q _=>?_) hb hnb];rfl;show wC q p=_;unfold wC R2;have e1:max q.x0 p.x0=max p.x0 q.x0:=by omega
 have e2:min q.x1 p.x1=min p.x1 q.x1:=by omega
 have e3:max q.y0 p.y0=max p.y0 q.y0:=by omega
 have e4:min q.y1 p.y1=min p.y1 q.y1:=by omega
 first
  |(cases decide (max p.x0 q.x0<min p.x1 q.x1)<;>rfl)
  |(rw [e1,e2,e3,e4];cases decide (max p.x0 q.x0<min p.x1 q.x1)<;>rfl)
theorem ahK{a b:List ax}(hl:a.length<1099511627776)(hn:a.length<n):U5 n a b=some (decide (a=b)):=by unfold U5;rw[Dv hl hn];rfl
abbrev xc(a b:ax):Bool:=decide (a.y0<b.y0)
theorem ajK:Go.Sort.SWO xc where
 irrefl x:=by simp[xc]
 trans x y z h1 h2:=by simp only[xc,bT]at *;omega
 ntrans x y z h1 h2:=by simp only[xc,dW]at *;omega
instance:Inhabited ax:=⟨ax.mk 0 0 0 0⟩
theorem KO{l:List ax}{φ:(ax×ax×Unit)->Option Int}(f:ax->ax->Int)(hφ:∀x y,φ (x,y,())=some (f x y))(hf:∀x y,decide (f x y<0)=xc x y)(hl:l.length<1099511627776)(_:l.length<n):vP n l φ=some (lU xc l):=
 aeV f hφ hf ajK hl
structure arG(R:List bX):Prop where
 runs:Runs R
 len:R.length<=200
 col:∀s∈R,Can s.column/\∀q∈s.column,0<=q.from_/\q.from_<q.to/\q.to<=1048576
 xs:∀s∈R,0<=s.x0/\s.x0<s.x1/\s.x1<=1048576
 Ax:(R.flatMap λs=>s.column.map (·.from_)).length<=200
theorem ahL(p:Nat->Bool)(N:Nat):(oK p (List.range N)=none->(List.range N).any p=false)/\(∀ i,oK p (List.range N)=some i->(List.range N).any p=true):=by refine⟨λ h=>?_,λi h=>?_⟩;rw[<- ql,h];rfl;rw[<- ql,h];rfl
theorem Jk{W O:Type}{step:Int->Option (Int⊕(W⊕O))}(N:Nat)(p:Nat->Bool)(w:W)(o:O)
 (h:∀i,i<N->step i=some (bif p i then .inr (.inr o)else .inl (i+1:Nat)))
 (hend:step N=some (.inr (.inl w))) (n:Nat) (hn:N<n):iter step n 0=some (bif (List.range N).any p then .inr o else .inl w):=by
 have:=sP (l:=List.range N) (step:=step) (λ i=>(i:Nat)) p w (λ _=>o) (λ i hi=>by rw[List.length_range]at hi;rw[List.getElem_range];exact h i hi) (by rw[List.length_range];exact hend) n (by rw[List.length_range];exact hn);rw[lE]at this;rw[this];have⟨r1,r2⟩:=ahL p N;cases hf:oK p (List.range N)with
 |none=>rw[r1 hf];rfl
 |some i=>rw[r2 i hf];rfl
theorem Jl{p:List bQ}(hl:p.length<=1000)(hn:2000<=n):iter (qw n p (gL p)) n 0=some (bif (List.range p.length).any (Mp p)then .inr false else .inl ()):=by
 refine Jk p.length (Mp p) () false (λ i hi=>?_) ?_ n (by omega);have nz:((p.length:Int) !=0)=true:=by simp;intro h;rw[h]at hi;simp at hi
 have md:(i+1)%p.length<p.length:=Nat.mod_lt _ (by omega);have w:i64.wrap (i+1)=(i+1:Nat):=bB (by omega);have g1:bj (gL p) ((0:Nat)+(i:Nat))=some (jG p i):=by rw[aQ (by rw[eu];exact hi),zC]
 have g2:bj (gL p) ((0:Nat)+((i+1)%p.length:Nat))=some (jG p ((i+1)%p.length)):=by rw[aQ (by rw[eu];exact md),zC]
 obtain⟨r,hr1,hr2⟩:=Ms (n:=n) (qq p 0) (qq p i) (by omega);have g3:bj p 0=some (qq p 0):=by rw[pm (by omega),<- Va]
 have g4:bj p (i:Nat)=some (qq p i):=by rw[aN hi,<- Va]
 have dz:decide ((i:Int)>0)=decide (0<i):=by rw[kQ];simp
 have pt:bQ.mk (jG p i).mj (jG p i).qe=qq p i:=rfl;simp only[qw,eu,aW hi,aj,aO hi,g1,g2,ai,nz,w,abh,aO md,pt,OJ,nL,QM,g3,g4,hr1,hr2,dz,Option.map_some];unfold Mp;generalize Vb (qq p i)=b1;generalize (((jG p i).mj==(jG p i).m4)==((jG p i).qe==(jG p i).uC))=b2;generalize (vf (jG p i)==vf (jG p ((i+1)%p.length)))=b3;generalize decide (0<i)=b4;generalize Vd (qq p 0) (qq p i)=b5;cases b1<;>cases b2<;>cases b3<;>cases b4<;>cases b5<;>rfl;simp[qw,eu]
theorem Jm{p:List bQ}(hl:p.length<=1000)(hn:2000<=n){i:Nat}(hi:i<p.length):
 iter (jr (gL p) (i:Nat)) n ((i+2:Nat))=some (bif (List.range p.length).any λk=>decide (i+2<=k)&&TJ p i k then .inr (.inr (.inr false))else .inl ()):=by
 have st:∀k,k<p.length->jr (gL p) (i:Nat) (k:Nat)=some (bif TJ p i k then .inr (.inr (.inr (.inr false)))else .inl (k+1:Nat)):=by
  intro k hk;have g1:bj (gL p) ((0:Nat)+(i:Nat))=some (jG p i):=by rw[aQ (by rw[eu];exact hi),zC]
  have g2:bj (gL p) ((0:Nat)+(k:Nat))=some (jG p k):=by rw[aQ (by rw[eu];exact hk),zC]
  have w:i64.wrap (i64.wrap ((i:Nat)+(p.length:Nat))-(k:Nat))=(i+p.length-k:Nat):=by rw[dS (x:=(i:Nat)+(p.length:Nat)),dS (by omega) (by omega)];omega
  have dz:decide (((i+p.length-k:Nat):Int)>1)=decide (i+p.length-k>1):=by rw[kQ,bT,bT];omega
  simp only[jr,eu,aW hk,aj,aO hi,aO hk,g1,g2,ai,w,dz,Dx,QM,Option.map_some,aG k];unfold TJ;cases decide (i+p.length-k>1)<;>cases S0 (jG p i) (jG p k)<;>rfl
 have main:∀m k,k+m=p.length->∀f,m<f->iter (jr (gL p) (i:Nat)) f (k:Nat)=some (bif (List.range p.length).any λj=>decide (k<=j)&&TJ p i j then .inr (.inr (.inr false))else .inl ()):=by
  intro m
  induction m with
  |zero=>
   intro k hk f hf;obtain⟨f,rfl⟩:∃g,f=g+1:=⟨f-1,by omega⟩;have:k=p.length:=(by omega);subst this;have e:((List.range p.length).any λj=>decide (p.length<=j)&&TJ p i j)=false:=(by rw[Bool.eq_false_iff];intro h;rw[any_eq_true]at h;obtain⟨j,h1,h2⟩:=h;rw[List.mem_range]at h1;simp at h2;omega);rw[e];refine dU ?_;simp[jr,eu]
  |succ m ih=>
   intro k hk f hf;obtain⟨f,rfl⟩:∃g,f=g+1:=⟨f-1,by omega⟩;have hkl:k<p.length:=(by omega);have h1:=st k hkl;cases hb:TJ p i k with
   |true=>
    rw[hb]at h1;have e:((List.range p.length).any λj=>decide (k<=j)&&TJ p i j)=true:=(by rw[any_eq_true];exact⟨k,List.mem_range.2 hkl,by simp[hb]⟩);rw[e];exact dU h1
   |false=>
    rw[hb]at h1;rw[fU h1,ih (k+1) (by omega) f (by omega)];congr 2;rw[kQ,any_eq_true,any_eq_true];constructor;rintro⟨j,j1,j2⟩;simp at j2;exact⟨j,j1,by simp;exact⟨by omega,j2.2⟩⟩;rintro⟨j,j1,j2⟩;simp at j2;refine⟨j,j1,?_⟩;simp;refine⟨?_,j2.2⟩;rcases Nat.lt_or_ge k j with h|h;omega;have:j=k:=(by omega);subst this;rw[hb]at j2;simp at j2
 by_cases h2:i+2<=p.length;exact main (p.length-(i+2)) (i+2) (by omega) n (by omega);obtain⟨n,rfl⟩:∃g,n=g+1:=⟨n-1,by omega⟩;have e:((List.range p.length).any λj=>decide (i+2<=j)&&TJ p i j)=false:=by rw[Bool.eq_false_iff];intro h;rw[any_eq_true]at h;obtain⟨j,h1,h2⟩:=h;rw[List.mem_range]at h1;simp at h2;omega
 rw[e];have d:decide (((i+2:Nat):Int)<(p.length:Nat))=false:=by rw[dW];omega
 refine dU ?_;simp only[jr,eu,d,au]
theorem Jo{p:List bQ}(hl:p.length<=1000)(hn:2000<=n):iter (qx n (gL p)) n 0=some (bif (List.range p.length).any λi=>(List.range p.length).any λk=>decide (i+2<=k)&&TJ p i k then .inr false else .inl ()):=by
 refine Jk p.length _ () false (λ i hi=>?_) ?_ n (by omega);have w2:i64.wrap (i+2)=(i+2:Nat):=by rw[dS (by omega) (by omega)];omega
 simp only[qx,eu,aW hi,aj,w2,Jm hl hn hi,aG i];cases (List.range p.length).any λk=>decide (i+2<=k)&&TJ p i k<;>rfl;simp[qx,eu]
theorem QR p (hn:2000<=n):wz n p=some (QN p):=by
 unfold wz QN;by_cases h4:p.length<4;have d1:decide ((p.length:Int)<4)=true:=by simp;omega
 have d2:decide (4<=p.length)=false:=by simp;omega
 rw[d1,d2];rfl;have d1:decide ((p.length:Int)<4)=false:=by simp;omega
 have d2:decide (4<=p.length)=true:=by simp;omega
 by_cases h60:p.length>60;have d3:decide ((p.length:Int)>60)=true:=by simp;omega
 have d4:decide (p.length<=60)=false:=by simp;omega
 rw[d1,d2,d3,d4];rfl;have d3:decide ((p.length:Int)>60)=false:=by simp;omega
 have d4:decide (p.length<=60)=true:=by simp;omega
 have g:bj (gL p) ((0:Nat)+0)=some (jG p 0):=by have:=aQ (l:=gL p) (i:=0) (by rw[eu];omega);rw[zC]at this;exact this
 have i0:cM 0 (gL p).length=true:=by have:=aO (i:=0) (n:=(gL p).length) (by rw[eu];omega);simpa using this
 rw[d1,d2,d3,d4];simp only[au,ai,Bh (n:=n) (p:=p) (by omega) (by omega),Jl (n:=n) (p:=p) (by omega) hn,Bool.true_and];cases (List.range p.length).any (Mp p)with
 |true=>rfl
 |false=>
  simp only[au,dF,Jo (n:=n) (p:=p) (by omega) hn];cases (List.range p.length).any λi=>(List.range p.length).any λk=>decide (i+2<=k)&&TJ p i k with
  |true=>rfl
  |false=>
   simp only[au,dF,i0,aj,g,ai,nL];rfl
def zG(p:List bQ)(x:Int):List Int:=((gL p).filter λs=>!vf s&&(decide (min s.mj s.m4<=x)&&decide (x<max s.mj s.m4))).map (·.qe)
def qJ(x0 x1:Int):List Int->List ax
 |a::b::l=>⟨x0,a,x1,b⟩::qJ x0 x1 l
 |_=>[]
def oE(p:List bQ):List Int:=Fk (p.map (·.x))
def XR(p:List bQ):List ax:=(ig (λ a b=>qJ a b (kJ oc (zG p a))) (oE p)).flatten
def wI(p:List bQ):List ax×Int:=if QN p=true then(if (XR p).length>200 then([],6)else(XR p,0))else([],10)
theorem ahM{p:List bQ}(h:QN p=true):4<=p.length/\p.length<=60:=by unfold QN at h;simp at h;exact⟨h.1,h.2.1⟩
theorem Gr{p:List bQ}(hl:p.length<=1000)(hn:2000<=n):iter (lY p) n (0,[])=some (p.map (·.x)):=by
 have:=fF (l:=p) (step:=lY p) (λ i s=>(i,s)) (λ r s=>s++[r.x]) (λ s=>s) (λ i s=>s.length<=i)
  (λ i hi s hs=>?_) (λ s hs=>by simp[lY]) n (by omega) [] (aB _)
 rw[lE]at this;rw[this];have gen:∀(ys:List bQ) s,ys.foldl (λ s r=>s++[r.x]) s=s++ys.map (·.x):=by
  intro ys
  induction ys with
  |nil=>intro s;simp
  |cons y ys ih=>intro s;rw[foldl_cons,ih];simp
 congr 1;simpa using gen p [];have ap:bH s.length s.length (sub ([(p[i]).x]:List Int) 0 1).length 1 8=true:=bU (n:=1) (by omega) (by simp[maxLen];omega);simp only[lY,aW hi,aj,aN hi,ai,ap,dO,aH];refine⟨?_,by simp;omega⟩;rw[bB (by omega)];rfl
theorem Gs{p:List bQ}(hl:p.length<=1000)(hn:2000<=n) es (i:Nat) (hi:i<es.length):iter (lZ ((),es) (gL p) (i:Nat)) n (0,[])=some (zG p es[i]):=by
 have:=fF (l:=gL p) (step:=lZ ((),es) (gL p) (i:Nat)) (λ i s=>(i,s)) (λ r s=>bif !vf r&&(decide (min r.mj r.m4<=es[i])&&decide (es[i] <max r.mj r.m4))then s++[r.qe]else s) (λ s=>s) (λ i s=>s.length<=i)
  (λ j hj s hs=>?_) (λ s hs=>by simp[lZ]) n (by rw[eu];omega) [] (aB _)
 rw[lE]at this;rw[this];have gen:∀(ys:List jV) s,ys.foldl (λ s r=>bif !vf r&&(decide (min r.mj r.m4<=es[i])&&decide (es[i] <max r.mj r.m4))then s++[r.qe]else s) s=s++(ys.filter λs=>!vf s&&(decide (min s.mj s.m4<=es[i])&&decide (es[i] <max s.mj s.m4))).map (·.qe):=by
  intro ys
  induction ys with
  |nil=>intro s;simp
  |cons y ys ih=>
   intro s;rw[foldl_cons,ih,List.filter_cons];cases !vf y&&(decide (min y.mj y.m4<=es[i])&&decide (es[i] <max y.mj y.m4))<;>simp
 congr 1;exact gen (gL p) [];rw[eu]at hj;have g:bj (gL p) ((0:Nat)+(j:Nat))=some (gL p)[j]:=aQ (by rw[eu];exact hj);have ap:bH s.length s.length (sub ([((gL p)[j]'(by rw[eu];exact hj)).qe]:List Int) 0 1).length 1 8=true:=bU (n:=1) (by omega) (by simp[maxLen];omega);generalize hr:(gL p)[j]'(by rw[eu];exact hj)=r at*;simp only[lZ,eu,aW hj,aj,aO hj,g,ai,nL,aO hi,aQ hi,QM,ap,dO,aH,aG j];cases vf r<;>cases decide (min r.mj r.m4<=es[i])<;>cases decide (es[i] <max r.mj r.m4)<;>refine⟨rfl,?_⟩<;>simp<;>omega
theorem abl(x0 x1:Int):∀l:List Int,(qJ x0 x1 l).length<=l.length
 |[]|[_]=>by simp[qJ]
 |a::b::l=>by have:=abl x0 x1 l;simp[qJ];omega
theorem Gt es (i:Nat) (hi:i+1<es.length) (he:es.length<=10000) (w2 r8:List Int) (hw:w2.length=r8.length) (hr:r8.length<=1000) out (ho:out.length<=10000000) (hn:2000<=n):
 iter (jK ((),es) (i:Nat) w2 r8) n (0,out)=some (out++qJ (es[i]'(by omega)) es[i+1] r8):=by
 have main:∀(m k:Nat) out,k+m=r8.length->out.length<=10000000+k->∀f,m<f->iter (jK ((),es) (i:Nat) w2 r8) f ((k:Nat),out)=some (out++qJ (es[i]'(by omega)) es[i+1] (r8.drop k)):=by
  intro m
  induction m using Nat.strongRecOn with
  |ind m ih=>
   intro k out hk hko f hf;obtain⟨f,rfl⟩:∃g,f=g+1:=⟨f-1,by omega⟩;have w1:i64.wrap (k+1)=(k+1:Nat):=bB (by omega);have w3:i64.wrap (k+2)=(k+2:Nat):=(by rw[dS (by omega) (by omega)];omega);have w4:i64.wrap (i+1)=(i+1:Nat):=bB (by omega);by_cases h2:k+1<r8.length;have d:decide (((k+1:Nat):Int)<(w2.length:Nat))=true:=(by rw[hw];exact aW h2);have ap:bH out.length out.length (sub ([(ax.mk (es[i]'(by omega)) (r8[k]'(by omega)) es[i+1] r8[k+1])]:List ax) 0 1).length 1 32=true:=bU (n:=1) (by omega) (by simp[maxLen];omega);have st:jK ((),es) (i:Nat) w2 r8 ((k:Nat),out)=some (.inl ((k+2:Nat),out++[ax.mk (es[i]'(by omega)) (r8[k]'(by omega)) es[i+1] r8[k+1]])):=(by simp only[jK,w1,w3,w4,d,aj,aO (show i<es.length by omega),aQ (show i<es.length by omega),ai,aO (show k<w2.length by omega),aQ (show k<r8.length by omega),aO hi,aQ hi,aO (show k+1<w2.length by omega),aQ h2,ap,dO,aH];rfl);have dr:r8.drop k=r8[k]::r8[k+1]::r8.drop (k+2):=(by rw[List.drop_eq_getElem_cons (by omega),List.drop_eq_getElem_cons h2]);rw[fU st,ih (m-2) (by omega) (k+2) _ (by omega) (by rw[fP,List.length_singleton];omega) f (by omega),dr];simp[qJ];have d:decide (((k+1:Nat):Int)<(w2.length:Nat))=false:=(by rw[hw,dW];omega);have e:qJ (es[i]'(by omega)) es[i+1] (r8.drop k)=[]:=by
    have hl:(r8.drop k).length<=1:=by rw[length_drop];omega
    match r8.drop k,hl with
    |[],_|[_],_=>rfl
    |_::_::_,h=>simp at h
   rw[e,List.append_nil];refine dU ?_;simp only[jK,w1,d,au,aH,aj]
 have:=main r8.length 0 out (by omega) (by omega) n (by omega);rw[lE,List.drop_zero]at this;exact this
theorem apd p:(oE p).length<=p.length:=by have h:=rX (kJ oc (p.map (·.x)));rw[eZ,length_map]at h;exact h
theorem XT p x:(zG p x).length<=p.length:=by unfold zG;rw[length_map,<- eu p];exact length_filter_le _ _
theorem Jp{α:Type}(b:Nat):∀l:List (List α),(∀ x∈l,x.length<=b)->l.flatten.length<=l.length*b
 |[],_=>by simp
 |x::l,h=>by have h1:=Jp b l λy hy=>h y (eY _ hy);have h2:=h x List.mem_cons_self;rw[List.flatten_cons,fP,dX,Nat.add_mul];omega
theorem Gu{p:List bQ}(hl:p.length<=1000)(hn:2000<=n):
 iter (l5 n ((),oE p) (gL p)) n (0,[])=some (XR p):=by
 have hx:=apd p;obtain⟨p1,p2⟩:=sJ (λ a b=>qJ a b (kJ oc (zG p a))) (oE p)
 let C:=ig (λ a b=>qJ a b (kJ oc (zG p a))) (oE p)
 have hC:C.length=(oE p).length-1:=p1;have cl:∀c∈C,c.length<=1000:=by intro c hc;obtain⟨i,hi,rfl⟩:=mem_iff_getElem.1 hc;have:=p2 i (by omega) hi;show(C[i]).length<=1000;rw[show C[i]=_ from this];have h1:=abl (oE p)[i] (oE p)[i+1] (kJ oc (zG p (oE p)[i]));rw[eZ]at h1;have h2:=XT p (oE p)[i];omega
 have bl:∀i,((C.take i).flatten).length<=1000*1000:=by
  intro i;have h1:=Jp 1000 (C.take i) λx hx=>cl x (List.mem_of_mem_take hx);have h2:(C.take i).length<=1000:=by rw[length_take];omega
  exact Nat.le_trans h1 (Nat.mul_le_mul_right _ h2)
 have main:=mZ (step:=l5 n ((),oE p) (gL p)) (λ i=>((i:Nat),(C.take i).flatten)) C.length (XR p) (λ i hi=>?_) ?_ n (by omega);simpa using main;have hi2:i+1<(oE p).length:=by omega
 have hw:i64.wrap (((oE p).length:Nat)-1)=(C.length:Nat):=by rw[dS (by omega) (by omega)];omega
 have bi:=bl i;have cr:=XT p (oE p)[i];have e:C.take (i+1)=C.take i++[qJ (oE p)[i] (oE p)[i+1] (kJ oc (zG p (oE p)[i]))]:=by rw[jl hi];congr 2;exact p2 i hi2 hi
 simp only[l5,hw,aW hi,aj,length_nil,aH,Gs hl hn (oE p) i (by omega),ai];rw[qb (by omega) (by omega)];simp;rw[Gt (oE p) i hi2 (by omega) (zG p (oE p)[i]) (kJ oc (zG p (oE p)[i])) (by rw[eZ]) (by rw[eZ];omega) _ (by omega) hn];simp[e,aG i];have hw:i64.wrap (((oE p).length:Nat)-1)=((oE p).length:Nat)-1:=dS (by omega) (by omega);have d:decide ((C.length:Int)<((oE p).length:Nat)-1)=false:=by rw[dW];omega
 simp[l5,hw,d];rfl
theorem OW p (hn:2000<=n):uq n p=some (wI p):=by
 unfold uq wI;rw[QR p hn];simp;cases hr:QN p with
 |false=>rfl
 |true=>
  have⟨_,hl⟩:=ahM hr;simp[Gr (n:=n) (p:=p) (by omega) hn];rw[qb (by rw[length_map];omega) (by rw[length_map];omega)];simp[eZ];rw[uR (by rw[eZ,length_map];omega) (by rw[eZ,length_map];omega)];simp[Bh (n:=n) (p:=p) (by omega) (by omega)];have hE:jf (kJ oc (p.map (·.x)))=oE p:=rfl;rw[hE,Gu (by omega) hn];simp;by_cases rI:(XR p).length>200;have:decide ((((XR p).length:Nat):Int)>200)=true:=by simp;omega
  rw[this,aX rI];rfl;have:decide ((((XR p).length:Nat):Int)>200)=false:=by simp;omega
  rw[this,aU rI];rfl
theorem aff p:(wI p).1.length<=200:=by unfold wI;split;split;simp;simp;omega;simp
def ara(a b:ax):Int:=bif(!d7 a || !d7 b)then -1 else max (max 0 (i64.wrap ((max a.x0 b.x0)-(min a.x1 b.x1)))) (i64.wrap ((max a.y0 b.y0)-(min a.y1 b.y1)))
theorem anj(a b:ax):Sa a b=some (ara a b):=by unfold Sa ara;rw[iU,iU];simp only[ai];cases d7 a<;>cases d7 b<;>rfl
def ank:bW:=bW.mk 0 0 [] []
def kG(land:List bW)(id:Int):bW×Bool:=match land.find? λt=>t.id==id with
 |some t=>(t,true)
 |none=>(ank,false)
theorem XU{α:Type}(p:α->Bool) l:(∃ (i:Nat) (h:i<l.length),oK p l=some i/\l.find? p=some l[i])\/(oK p l=none/\l.find? p=none):=by rcases EM p l with ⟨i,hi,h1,h2,h3⟩|⟨h1,h2⟩;refine .inl ⟨i,hi,h1,?_⟩;rw[List.find?_eq_some_iff_getElem];exact⟨h2,i,hi,rfl,λj hj=>by simpa using h3 j hj⟩;refine .inr ⟨h1,?_⟩;rw[List.find?_eq_none];intro x hx;rw[h2 x hx];simp
def arb(t:dJ)(name:ByteArray):Int:=match t.rows.find? λe=>ByteArray.toList e.name==ByteArray.toList name with
 |some e=>e.n
 |none=>t.sL
theorem XV{α:Type}(p:α->Bool) l:(∃ (i:Nat) (h:i<l.length),xH p l=i/\l.find? p=some l[i])\/(xH p l=-1/\l.find? p=none):=by rcases XU p l with ⟨i,hi,h1,h2⟩|⟨h1,h2⟩;exact .inl ⟨i,hi,by simp[xH,h1],h2⟩;exact .inr ⟨by simp[xH,h1],h2⟩
def anl:List ByteArray:=[⟨#[104,111,109,101]⟩,⟨#[115,104,111,112]⟩,⟨#[119,111,114,107]⟩,⟨#[112,97,114,107]⟩,⟨#[112,108,97,110,116]⟩,⟨#[104,97,108,108]⟩]
def nameOf(use:Int):Option ByteArray:=bj anl use
theorem afg{V O:Type}{step:V->Option (V⊕O)}(R:Nat->V->Prop)(N:Nat)(Q:O->Prop)(h:∀i v,i<N->R i v->∃v',step v=some (.inl v')/\R (i+1) v')(hN:∀v,R N v->∃o,step v=some (.inr o)/\Q o):
 ∀n,N<n->∀v,R 0 v->∃o,iter step n v=some o/\Q o:=by
 have main:∀k i n v,i+k=N->k<n->R i v->∃o,iter step n v=some o/\Q o:=by
  intro k
  induction k with
  |zero=>
   intro i n v hi hn hR;obtain⟨m,rfl⟩:∃m,n=m+1:=⟨n-1,by omega⟩;have:i=N:=(by omega);subst this;have⟨o,h1,h2⟩:=hN v hR;exact⟨o,dU h1,h2⟩
  |succ k ih=>
   intro i n v hi hn hR;obtain⟨m,rfl⟩:∃m,n=m+1:=⟨n-1,by omega⟩;obtain⟨v',h1,h2⟩:=h i v (by omega) hR;obtain⟨o,h3,h4⟩:=ih (i+1) m v' (by omega) (by omega) h2;exact⟨o,by rw[fU h1,h3],h4⟩
 intro n hn v hR;exact main N 0 n v (by omega) hn hR
def gH(z:eX):List ax:=if (wI z.corners).2=0 then(wI z.corners).1 else []
theorem Mv(z:eX):(gH z).length<=200:=by unfold gH;split;exact aff _;simp
theorem xL(z:eX)(hn:2000<=n):uw n z=some (gH z):=by
 unfold uw gH;rw[OW _ hn];simp;by_cases h:(wI z.corners).2=0;have:((wI z.corners).2 !=0)=false:=by simp[h]
 rw[this,aX h];rfl;have:((wI z.corners).2 !=0)=true:=by simp[h]
 rw[this,aU h];rfl
def kN(a b:ax):ax:=⟨max a.x0 b.x0,max a.y0 b.y0,min a.x1 b.x1,min a.y1 b.y1⟩
theorem yM(a:ax):sS a=some (bif d7 a then(a,true)else(⟨0,0,0,0⟩,false)):=by unfold sS;rw[iU];simp[QM]
theorem uV(a b:ax):sU a b=some (bif d7 a&&(d7 b&&d7 (kN a b))then(kN a b,true)else(⟨0,0,0,0⟩,false)):=by unfold sU;rw[iU,iU];simp only[ai,QM];rw[show ax.mk (max a.x0 b.x0) (max a.y0 b.y0) (min a.x1 b.x1) (min a.y1 b.y1)=kN a b from rfl,yM];simp only[ai];generalize d7 (kN a b)=c;cases d7 a<;>cases d7 b<;>cases c<;>rfl
def XW(r:ax):Int:=i64.wrap (i64.wrap (r.x1-r.x0)*i64.wrap (r.y1-r.y0))
theorem yU{r:ax}(h:d7 r=true):pG r=some (XW r):=by unfold pG;rw[yM,h];rfl
def KP(x:ax)(n:Int)(y:ax):Int:=bif d7 x&&(d7 y&&d7 (kN x y))then i64.wrap (n+XW (kN x y))else n
def jd(a b:List ax):Int:=a.foldl (λ n x=>b.foldl (KP x) n) 0
theorem ape{α β:Type} c (a:α) (u v:β):(bif c then(a,u)else(a,v)).1=a:=by cases c<;>rfl
theorem Jq b (x:ax) (hb:b.length<=1000) (hn:2000<=n) (m u v:Int):∃o,iter (iC n b x) n (m,0,u,v)=some o/\o.1=b.foldl (KP x) m:=by
 refine afg (λ i (w:Int×Int×Int×Int)=>w.2.1=i/\w.1=(b.take i).foldl (KP x) m) b.length (λ (o:Int×Int×Int)=>o.1=b.foldl (KP x) m) (λ i w hi hR=>?_) (λ w hR=>?_) n (by omega) _ ⟨rfl,rfl⟩;obtain⟨w1,w2,w3,w4⟩:=w;obtain⟨h1,h2⟩:=hR;simp at h1 h2;subst h1;have e:(b.take (i+1)).foldl (KP x) m=KP x w1 b[i]:=by rw[jl hi,List.foldl_append,<- h2];rfl
 simp only[iC,aW hi,aj,aN hi,ai,uV];have e0:KP x w1 b[i]=bif d7 x&&(d7 b[i]&&d7 (kN x b[i]))then i64.wrap (w1+XW (kN x b[i]))else w1:=rfl;rw[e0]at e;cases hc:d7 x&&(d7 b[i]&&d7 (kN x b[i]))with
 |false=>
  rw[hc]at e;simp only[au,Bool.not_false,aj,ai];exact⟨_,rfl,bB (by omega),e.symm⟩
 |true=>
  rw[hc]at e;have hcc:d7 (kN x b[i])=true:=by revert hc;generalize d7 (kN x b[i])=c;cases c;cases d7 x<;>cases d7 b[i]<;>simp;simp
  simp only[aj,Bool.not_true,au,yU hcc,ai,jB];rw[show ∀u v:Int,sub [u,v] 0 2=[u,v]from λ_ _=>rfl,Mr _ _ (by omega)];simp only[ai,QM];simp only[show ∀u v:Int,aE [u,v].length 2=true from λ_ _=>rfl,aj,ai];refine⟨_,rfl,aG i,?_⟩;rw[e];exact ape _ _ _ _
 obtain⟨w1,w2,w3,w4⟩:=w;obtain⟨h1,h2⟩:=hR;simp only at h1 h2;subst h1;simp only[iC,gY,au];exact⟨_,rfl,by rw[h2,List.take_length]⟩
theorem vS(a b:List ax)(ha:a.length<=1000)(hb:b.length<=1000)(hn:2000<=n):∃q,mO n a b=some (jd a b,q):=by
 unfold mO;obtain⟨o,h1,h2⟩:=afg (step:=jv n a b) (λ i (w:Int×Int×Int×Int)=>w.2.1=i/\w.1=(a.take i).foldl (λ n x=>b.foldl (KP x) n) 0) a.length (λ (o:Int×Int×Int)=>o.1=jd a b) (λ i w hi hR=>by obtain⟨w1,w2,w3,w4⟩:=w;obtain⟨h1,h2⟩:=hR;simp at h1 h2;subst h1;have⟨o,g1,g2⟩:=Jq (n:=n) b a[i] hb hn w1 w3 w4;obtain⟨o1,o2,o3⟩:=o;simp only[jv,aW hi,aj,aN hi,ai,g1];refine⟨_,rfl,bB (by omega),?_⟩;simp at g2;rw[jl hi,List.foldl_append,<- h2,g2];rfl) (λ w hR=>by obtain⟨w1,w2,w3,w4⟩:=w;obtain⟨h1,h2⟩:=hR;simp only at h1 h2;subst h1;simp only[jv,gY,au];exact⟨_,rfl,by rw[h2,List.take_length];rfl⟩) n (by omega) (0,0,1048576,0) ⟨rfl,rfl⟩;obtain⟨o1,o2,o3⟩:=o;simp at h2;subst h2;exact⟨_,by rw[h1];rfl⟩
def wJ(zs:List eX)(area:List ax):List Int:=bif cQ area then zs.map λz=>jd area (gH z)else []
theorem Dz(p:bn) a (hz:p.zones.length<=100) (ha:a.length<=900) (hn:2000<=n):jC n p a=some (wJ p.zones a):=by
 unfold jC wJ;rw[kM (by omega) (by omega) (by omega)];simp;cases cQ a with
 |false=>rfl
 |true=>
  have:=fF (l:=p.zones) (step:=qy n p a) (λ i s=>(i,s)) (λ z s=>s++[jd a (gH z)]) (λ s=>s) (λ i s=>s.length<=i)
   (λ i hi s hs=>?_) (λ s hs=>by simp[qy]) n (by omega) [] (aB _)
  rw[lE]at this;simp only[Bool.not_true,au,length_nil,aH,aj,this,ai,dY];congr 1;have gen:∀(ys:List eX) s,ys.foldl (λ s z=>s++[jd a (gH z)]) s=s++ys.map λz=>jd a (gH z):=by
   intro ys
   induction ys with
   |nil=>intro s;simp
   |cons y ys ih=>intro s;rw[foldl_cons,ih];simp
  exact gen p.zones [];have cl:=Mv p.zones[i];obtain⟨q,hq⟩:=vS (n:=n) a (gH p.zones[i]) (by omega) (by omega) hn;have ap:bH s.length s.length (sub ([jd a (gH p.zones[i])]:List Int) 0 1).length 1 8=true:=bU (n:=1) (by omega) (by simp[maxLen];omega);simp only[qy,aW hi,aj,aN hi,ai,xL _ hn,dY,aH,hq,ap,dO];refine⟨?_,by simp;omega⟩;rw[bB (by omega)];rfl
theorem SQ zs a:(wJ zs a).length<=zs.length:=by unfold wJ;cases cQ a<;>simp
def xW(zs:List eX)(l:List Int)(m:Nat):Int:=(List.range m).foldl (λ b i=>if (!((zs.getD i ⟨⟨#[]⟩,false,[]⟩).overlay)&&(decide (l.getD i 0>0)&&(decide (b<0) || decide (l.getD i 0>l.getD b.toNat 0))))=true then i else b) (-1)
def Fv(zs:List eX)(l:List Int)(i:Nat):Bool:=decide (i=xW zs l l.length) || ((zs.getD i ⟨⟨#[]⟩,false,[]⟩).overlay&&decide (l.getD i 0>0))
def G0(zs:List eX)(area:List ax):List ByteArray:=((List.range (wJ zs area).length).filter (Fv zs (wJ zs area))).map λi=>(zs.getD i ⟨⟨#[]⟩,false,[]⟩).name
theorem SS zs l:∀m,xW zs l m=-1\/∃k:Nat,k<m/\xW zs l m=k
 | 0=>.inl rfl
 |m+1=>by have ih:=SS zs l m;unfold xW;rw[List.range_succ,List.foldl_append];simp only[foldl_cons,List.foldl_nil];split;exact .inr ⟨m,by omega,rfl⟩;rcases ih with h|⟨k,h1,h2⟩;exact .inl h;exact .inr ⟨k,by omega,h2⟩
theorem Jr{α:Type}{l:List α}{i:Nat}(d:α)(h:i<l.length):l.getD i d=l[i]:=by simp[h]
theorem QS(p:bn) l (hl:l.length<=p.zones.length) (hz:p.zones.length<=100) (hn:2000<=n):iter (qz p l) n ((-1),0)=some (xW p.zones l l.length):=by
 have main:=mZ (step:=qz p l) (λ i=>(xW p.zones l i,(i:Nat))) l.length (xW p.zones l l.length) (λ i hi=>?_) (by simp[qz]) n (by omega);exact main;have hz':i<p.zones.length:=by omega
 have e:xW p.zones l (i+1)=if (!(p.zones[i]).overlay&&(decide (l[i]>0)&&(decide (xW p.zones l i<0) || decide (l[i]>l.getD (xW p.zones l i).toNat 0))))=true then(i:Int)else xW p.zones l i:=by
  conv=>lhs;unfold xW
  rw[List.range_succ,List.foldl_append];simp only[foldl_cons,List.foldl_nil,Jr _ hz',Jr _ hi];rfl
 rw[e];rcases SS p.zones l i with h|⟨k,h1,h2⟩;rw[h];have d:decide (-1<0)=true:=rfl;simp only[qz,aW hi,aj,aO hi,aQ hi,ai,aN hz',d,QM,Bool.true_or,Bool.and_true,aG i];cases (p.zones[i]).overlay<;>cases decide (l[i]>0)<;>rfl;rw[h2];have d:decide ((k:Nat)<0)=false:=by simp
 have hk:k<l.length:=by omega
 simp only[qz,aW hi,aj,aO hi,aQ hi,ai,aN hz',d,QM,Bool.false_or,au,aO hk,aQ hk,Int.toNat_natCast,Jr _ hk,aG i];cases (p.zones[i]).overlay<;>cases decide (l[i]>0)<;>cases decide (l[i]>l[k])<;>rfl
theorem Fw(p:bn) a (hz:p.zones.length<=100) (ha:a.length<=900) (hn:2000<=n):pq n p a=some (G0 p.zones a):=by
 unfold pq;have sl:=SQ p.zones a;rw[Dz p a hz ha hn];simp;rw[QS p _ sl hz hn];simp;unfold G0;generalize hL:wJ p.zones a=l at*
 have:=fF (l:=List.range l.length) (step:=yw p l (xW p.zones l l.length)) (λ i s=>(i,s)) (λ i s=>bif Fv p.zones l i then s++[(p.zones.getD i ⟨⟨#[]⟩,false,[]⟩).name]else s) (λ s=>s) (λ i s=>s.length<=i)
  (λ i hi s hs=>?_) (λ s hs=>by rw[List.length_range];simp[yw]) n (by rw[List.length_range];omega) [] (aB _)
 rw[lE]at this;simp[this];congr 1;have gen:∀(ys:List Nat) s,ys.foldl (λ s i=>bif Fv p.zones l i then s++[(p.zones.getD i ⟨⟨#[]⟩,false,[]⟩).name]else s) s=s++(ys.filter (Fv p.zones l)).map λi=>(p.zones.getD i ⟨⟨#[]⟩,false,[]⟩).name:=by
  intro ys
  induction ys with
  |nil=>intro s;simp
  |cons y ys ih=>
   intro s;rw[foldl_cons,ih,List.filter_cons];cases Fv p.zones l y<;>simp
 exact gen (List.range l.length) [];rw[List.length_range]at hi;have hz':i<p.zones.length:=by omega
 rw[List.getElem_range];have ap:bH s.length s.length (sub ([(p.zones[i]).name]:List ByteArray) 0 1).length 1 16=true:=bU (n:=1) (by omega) (by simp[maxLen];omega);have hb:((i:Nat)==xW p.zones l l.length)=decide ((i:Nat)=xW p.zones l l.length):=by rw[kQ];simp
 simp only[yw,aW hi,aj,aO hi,aQ hi,ai,aN hz',hb,QM,ap,dO,aH,Fv,Jr _ hz',Jr _ hi,aG i];cases decide ((i:Nat)=xW p.zones l l.length)<;>cases (p.zones[i]).overlay<;>cases decide (l[i]>0)<;>refine⟨rfl,?_⟩<;>simp<;>omega
theorem apf zs a:(G0 zs a).length<=zs.length:=by unfold G0;rw[length_map];have h1:=length_filter_le (Fv zs (wJ zs a)) (List.range (wJ zs a).length);rw[List.length_range]at h1;have:=SQ zs a;omega
def gR(a b:ByteArray):Bool:=ByteArray.toList a==ByteArray.toList b
theorem vw{l:List ByteArray}{a:ByteArray}(hl:l.length<1099511627776)(hn:l.length<n):fV n l a=some (l.any (gR a)):=by
 unfold fV;have e:rR n l a=acr n (λ x=>ByteArray.toList a==ByteArray.toList x) l:=by kernel_rfl
 rw[e,Sw hl hn,ai,xZ];rfl
theorem qK{l:List ByteArray}{φ:(ByteArray×Unit)->Option Bool}(p:ByteArray->Bool)(h:∀x∈l,φ (x,())=some (p x))(hl:l.length<1099511627776)(hn:l.length<n):gF n l φ=some (l.any p):=by
 unfold gF;have e:qN n l φ=wV n l φ:=by kernel_rfl
 rw[e,fZ p h hl hn,ai,xZ]
def Ve(r:cK)(zs:List ByteArray):Bool:=(decide (r.zones=[]) || r.zones.any λz=>zs.any (gR z))&&!(r.except.any λz=>zs.any (gR z))
theorem QT(r:cK) zs (h1:r.zones.length<=100) (h2:r.except.length<=100) (h3:zs.length<=100) (hn:2000<=n):q9 n r zs=some (Ve r zs):=by
 have hf:∀x:ByteArray,kP n x zs=some (zs.any (gR x)):=λx=>by unfold kP;rw[vw (by omega) (by omega)];rfl
 unfold q9 Ve;rw[qK (λ z=>zs.any (gR z)) (λ x _=>hf x) (by omega) (by omega),qK (λ z=>zs.any (gR z)) (λ x _=>hf x) (by omega) (by omega)];simp;have e:((r.zones.length:Int)==0)=decide (r.zones=[]):=by rw[kQ,beq_iff_eq,bT];constructor;intro h;exact List.length_eq_zero_iff.1 (by omega);intro h;rw[h];rfl
 rw[e];cases decide (r.zones=[])<;>cases (r.zones.any λz=>zs.any (gR z))<;>cases (r.except.any λz=>zs.any (gR z))<;>rfl
def oW(zs:List ByteArray)(day:Int)(r:cK):Bool:=decide (r.from_<=day)&&((r.j8==0 || decide (day<r.j8))&&Ve r zs)
def qV(rules:List cK)(zs:List ByteArray)(day:Int):List Nat:=(List.range rules.length).filter λi=>(rules[i]?).any (oW zs day)
abbrev QU(r:cK):Prop:=r.zones.length<=100/\r.except.length<=100
theorem xM(p:bn) zs day (hr:∀r∈p.rules,QU r) (hl:p.rules.length<=100) (h3:zs.length<=100) (hn:2000<=n):j3 n p zs day=some ((qV p.rules zs day).map λ(i:Nat)=>(i:Int)):=by
 unfold j3 qV
 have:=fF (l:=List.range p.rules.length) (step:=rT n p zs day) (λ i s=>(i,s)) (λ i s=>bif(p.rules[i]?).any (oW zs day)then s++[(i:Int)]else s) (λ s=>s) (λ i s=>s.length<=i)
  (λ i hi s hs=>?_) (λ s hs=>by rw[List.length_range];simp[rT]) n (by rw[List.length_range];omega) [] (aB _)
 rw[lE]at this;simp[this];congr 1;have gen:∀(ys:List Nat) s,ys.foldl (λ s (i:Nat)=>bif(p.rules[i]?).any (oW zs day)then s++[(i:Int)]else s) s=s++(ys.filter λi=>(p.rules[i]?).any (oW zs day)).map λ(i:Nat)=>(i:Int):=by
  intro ys
  induction ys with
  |nil=>intro s;simp
  |cons y ys ih=>
   intro s;rw[foldl_cons,ih,List.filter_cons];cases (p.rules[y]?).any (oW zs day)<;>simp
 exact gen (List.range p.rules.length) [];rw[List.length_range]at hi;rw[List.getElem_range];obtain⟨o1,o2⟩:=hr _ (getElem_mem hi);have ap:bH s.length s.length (sub ([(i:Nat)]:List Int) 0 1).length 1 8=true:=bU (n:=1) (by omega) (by simp[maxLen];omega);have eg:(p.rules[i]?).any (oW zs day)=oW zs day p.rules[i]:=by rw[dI hi];rfl
 rw[eg];simp only[rT,aW hi,aj,aN hi,ai,QT _ zs o1 o2 h3 hn,QM,ap,dO,aH,oW,aG i];cases decide ((p.rules[i]).from_<=day)<;>cases (p.rules[i]).j8==0<;>cases decide (day<(p.rules[i]).j8)<;>cases Ve p.rules[i] zs<;>refine⟨rfl,?_⟩<;>simp<;>omega
def XY(p:eH):Bool:=decide (0<=p.side/\p.side<=3)&&(decide (0<=p.base/\p.base<=4096)&&(decide (0<=p.num/\p.num<=4096)&&decide (1<=p.den/\p.den<=4096)))
theorem anm(p:eH):XY p=true↔(0<=p.side/\p.side<=3)/\(0<=p.base/\p.base<=4096)/\(0<=p.num/\p.num<=4096)/\(1<=p.den/\p.den<=4096):=by simp[XY]
theorem TM(a b c:Int):oo a b c=some (decide (b<=a/\a<=c)):=by
 unfold oo;by_cases h1:b<=a;have d:decide (b<=a)=true:=by simpa using h1
 rw[d,aj];congr 1;rw[kQ];simp[h1];have d:decide (b<=a)=false:=by simpa using h1
 rw[d,au];congr 1;rw[kQ];simp[h1]
theorem XZ(p:eH):AY p=some (XY p):=by unfold AY XY;simp only[TM,ai,QM];generalize decide (0<=p.side/\p.side<=3)=a;generalize decide (0<=p.base/\p.base<=4096)=b;generalize decide (0<=p.num/\p.num<=4096)=c;cases a<;>cases b<;>cases c<;>rfl
theorem BQ{l:List eH}{φ:(eH×Unit)->Option Bool}(p:eH->Bool)(h:∀x∈l,φ (x,())=some (p x))(hl:l.length<1099511627776)(hn:l.length<n):lq n l φ=some (l.any p):=by
 unfold lq;have e:sG n l φ=wV n l φ:=by kernel_rfl
 rw[e,fZ p h hl hn,ai,xZ]
def Fx(b:ax)(l:List eH):Bool:=d7 b&&!(l.any λp=>!XY p)
theorem X0(b:ax) l (hl:l.length<=1000) (hn:2000<=n):AZ n b l=some (Fx b l):=by unfold AZ Fx;rw[iU,BQ (λ p=>!XY p) (λ p _=>by show uG p=_;unfold uG;rw[XZ];rfl) (by omega) (by omega)];simp only[ai,QM];cases d7 b<;>rfl
theorem ahN{a n:Int}(hn:0<n):(if Int.tmod a n<0 then Int.tdiv a n-1 else Int.tdiv a n)=a/n:=by
 have h1:=Int.mul_ediv_add_emod a n;have h2:=Int.emod_nonneg a (by omega:n≠0);have h3:=Int.emod_lt_of_pos a hn;rcases Int.le_total 0 a with h|h;have e1:Int.tmod a n=a%n:=Int.tmod_eq_emod_of_nonneg h;have e2:Int.tdiv a n=a/n:=Int.tdiv_eq_ediv_of_nonneg h;rw[e1,e2,aU (by omega)];obtain⟨b,rfl⟩:∃b,a=-b:=⟨-a,by omega⟩;have hb:0<=b:=by omega
 have e1:Int.tmod (-b) n=-(b%n):=by rw[Int.neg_tmod,Int.tmod_eq_emod_of_nonneg hb]
 have e2:Int.tdiv (-b) n=-(b/n):=by rw[Int.neg_tdiv,Int.tdiv_eq_ediv_of_nonneg hb]
 have g1:=Int.mul_ediv_add_emod b n;have g2:=Int.emod_nonneg b (by omega:n≠0);have g3:=Int.emod_lt_of_pos b hn;rw[e1,e2];by_cases hm:b%n=0;rw[aU (by omega)];have:(-b)/n=-(b/n):=by refine(Int.ediv_eq_iff_of_pos hn).2 ?_;constructor;rw[Int.neg_mul,Int.mul_comm (b/n)];omega;rw[Int.neg_mul,Int.mul_comm (b/n)];omega
 omega;rw[aX (by omega)];have:(-b)/n=-(b/n)-1:=by refine(Int.ediv_eq_iff_of_pos hn).2 ?_;constructor;rw[Int.sub_mul,Int.neg_mul,Int.mul_comm (b/n)];omega;rw[Int.sub_mul,Int.neg_mul,Int.mul_comm (b/n)];omega
 omega
theorem OX{a n:Int}(hn:0<n)(ha: -4611686018427387904<=a/\a<=4611686018427387904):uH a n=some (a/n):=by
 have nz:(n !=0)=true:=by simp;omega
 have hb: -4611686018427387904<=a/n/\a/n<=4611686018427387904:=by
  constructor;rw[Int.le_ediv_iff_mul_le hn];have: -4611686018427387904*n<=-4611686018427387904:=by omega
  omega;rcases Int.le_total 0 a with h|h;have:=Int.ediv_le_self n h;omega;have:a/n<=0:=by have:=(Int.ediv_lt_iff_lt_mul (a:=a) (b:=1) hn).2 (by omega);omega
  omega
 have hf:=ahN (a:=a) hn;have ht: -4611686018427387904<=Int.tdiv a n/\Int.tdiv a n<=4611686018427387905:=by split at hf<;>omega
 unfold uH;simp[nz];rw[dS (x:=Int.tdiv a n),dS (x:=Int.tdiv a n-1),<- hf];by_cases h:Int.tmod a n<0;have d:decide (Int.tmod a n<0)=true:=by simpa using h
 rw[d,aX h];rfl;have d:decide (Int.tmod a n<0)=false:=by simpa using h
 rw[d,aU h];rfl
def X4(b:ax)(side x y:Int):Int:=if side=0 then x-b.x0 else if side=1 then b.x1-1-x else if side=2 then y-b.y0 else b.y1-1-y
def ard(b:ax)(p:eH)(x y:Int):Int:=p.base+p.num*X4 b p.side x y/p.den
def Zz(b:ax)(l:List eH)(x y:Int):Int:=l.foldl (λ h p=>min h (ard b p x y)) 4096
abbrev InG(x y:Int):Prop:=(0<=x/\x<1048576)/\(0<=y/\y<1048576)
theorem afh{b:ax}(hb:d7 b=true){x y:Int}(h:InG x y) side: -1048576<=X4 b side x y/\X4 b side x y<=1048576:=by simp at hb;obtain⟨h1,h2⟩:=h;unfold X4;split;omega;split;omega;split<;>omega
theorem ala{a d:Int}(ha:0<=a/\a<=4096)(hd: -1048576<=d/\d<=1048576): -4294967296<=a*d/\a*d<=4294967296:=by have h1:a*d<=a*1048576:=Int.mul_le_mul_of_nonneg_left hd.2 ha.1;have h2:a*(-1048576)<=a*d:=Int.mul_le_mul_of_nonneg_left hd.1 ha.1;omega
theorem alb{a n:Int}(hn:0<n)(ha: -4294967296<=a/\a<=4294967296): -4294967296<=a/n/\a/n<=4294967296:=by constructor;rw[Int.le_ediv_iff_mul_le hn];omega;rcases Int.le_total 0 a with h|h;have:=Int.ediv_le_self n h;omega;have:=(Int.ediv_lt_iff_lt_mul (a:=a) (b:=1) hn).2 (by omega);omega
theorem acK{b:ax}{l:List eH}{x y:Int}(hb:d7 b=true)(hp:∀p∈l,XY p=true)(h:InG x y)(hl:l.length<=1000)(hn:2000<=n):Ku n b l x y=some (Zz b l x y):=by
 unfold Ku xK;have hr:=hb;simp at hr;obtain⟨h1,h2⟩:=h;rw[dS (x:=x-b.x0),dS (x:=b.x1-1),dS (x:=b.x1-1-x),dS (x:=y-b.y0),dS (x:=b.y1-1),dS (x:=b.y1-1-y)];simp;have:=lH (l:=l) (step:=yE b l x y ⟨x-b.x0,b.x1-1-x,y-b.y0,b.y1-1-y⟩) (λ i s=>(s,(i:Nat))) (λ p s=>min s (ard b p x y)) (λ s=>s) (λ i hi s=>?_) (λ s=>by simp[yE]) n (by omega) 4096;rw[lE]at this;rw[this];rfl;obtain⟨s1,s2,s3,s4⟩:=(anm _).1 (hp _ (getElem_mem hi));have ib:cM (l[i]).side 4=true:=by simp[cM];omega
 have g:bj ([x-b.x0,b.x1-1-x,y-b.y0,b.y1-1-y]:List Int) (l[i]).side=some (X4 b (l[i]).side x y):=by
  have hs:(l[i]).side=0\/(l[i]).side=1\/(l[i]).side=2\/(l[i]).side=3:=by omega
  rcases hs with e|e|e|e<;>rw[e]<;>simp[bj,X4]
 have db:=afh hb ⟨h1,h2⟩ (l[i]).side;have mb:=ala s3 db;have dv:=alb (n:=(l[i]).den) (by omega) mb;simp only[yE,aW hi,aj,aN hi,ai,ib,g];rw[dS (x:=(l[i]).num*X4 b (l[i]).side x y),OX (by omega) (by omega)];simp only[ai];rw[dS (x:=(l[i]).base+_),bB (by omega)];rfl
theorem afi(b:ax) l:Fx b l=true↔d7 b=true/\∀p∈l,XY p=true:=by unfold Fx;rw[bK,Bool.not_eq_true',List.any_eq_false];simp
def Hc(x:gQ):Bool:=decide (x.z0<0) || (decide (x.z0>=x.z1) || (decide (x.z1>4096) || (decide (x.area=[]) || !cQ x.area)))
def AK(p:Option gQ×gQ):Bool:=Hc p.2 || p.1.any λq=>decide (q.z1>p.2.z0) || (q.z1==p.2.z0&&decide (q.area=p.2.area))
def BR(s:List gQ):List (Option gQ×gQ):=(none::s.map some).zip s
def Fy(s:List gQ):Bool:=decide (s.length<=80)&&!((BR s).any AK)
theorem qc s:(BR s).length=s.length:=by simp[BR]
theorem Fz{s:List gQ}{i:Nat}(h:i<(BR s).length):(BR s)[i]=(if h0:i=0 then none else some (s[i-1]'(by rw[qc]at h;omega)),s[i]'(by rw[qc]at h;exact h)):=by
 simp[BR];cases i with
 |zero|succ i=>simp
theorem SV{s:List gQ}(ha:∀x∈s,x.area.length<=900)(hn:1000<=n):I8 n s=some (Fy s):=by
 unfold I8 Fy;by_cases h80:s.length<=80;have d:decide ((s.length:Int)>80)=false:=by simp;omega
 have d2:decide (s.length<=80)=true:=by simpa using h80
 have z:∀l:List ax,(((l.length:Int))==0)=decide (l=[]):=λl=>by cases l<;>simp<;>omega
 have:=sP (l:=BR s) (step:=A7 n s) (λ i=>(i:Nat)) AK () (λ _=>false) (λ i hi=>?_) ?_ n (by rw[qc];omega);rw[lE]at this;rw[d,d2,this,<- QO];cases oK AK (BR s)<;>rfl;rw[Fz];rw[qc]at hi;have hi':decide ((i:Int)<s.length)=true:=by simpa using hi
 have h1:=ha _ (getElem_mem hi);simp only[A7,hi',aj,aN hi,ai,z,kM (n:=n) (l:=s[i].area) (by omega) (by omega) hn,AK];rw[bB (by omega)];have b:((bif decide (s[i].z0<0)then some true else bif decide (s[i].z0>=s[i].z1)then some true else bif decide (s[i].z1>4096)then some true else bif decide (s[i].area=[])then some true else some (!cQ s[i].area)):Option Bool)=some (Hc s[i]):=by unfold Hc;cases decide (s[i].z0<0)<;>cases decide (s[i].z0>=s[i].z1)<;>cases decide (s[i].z1>4096)<;>cases decide (s[i].area=[])<;>rfl
 rw[b];simp;cases Hc s[i]with
 |true=>simp
 |false=>
  by_cases h0:i=0;subst h0;have:(((0:Nat))==0)=true:=rfl;simp;have e0:((i:Int)==0)=false:=by simp;omega
  have w:i64.wrap (i-1)=(i-1:Nat):=nD (by omega) (by omega);have h2:=ha _ (getElem_mem (show i-1<s.length by omega));simp[e0,w,aN (show i-1<s.length by omega),ahK (n:=n) (a:=s[i-1].area) (b:=s[i].area) (by omega) (by omega),h0];cases decide (s[i-1].z1>s[i].z0)with
  |true=>simp
  |false=>
   cases s[i-1].z1==s[i].z0 with
   |false=>simp
   |true=>cases decide (s[i-1].area=s[i].area)<;>simp
 rw[qc];simp[A7];have d:decide ((s.length:Int)>80)=true:=by simp;omega
 have d2:decide (s.length<=80)=false:=by simpa using h80
 rw[d,d2];rfl
structure ano(x:gQ):Prop where
 lo:0<=x.z0
 lt:x.z0<x.z1
 hi:x.z1<=4096
 ne:x.area≠[]
 rt:cQ x.area=true
def arf(s:List gQ):Prop:=∀i (h:i+1<s.length),s[i].z1<=s[i+1].z0/\¬(s[i].z1=s[i+1].z0/\s[i].area=s[i+1].area)
theorem afk(x:gQ):Hc x=false↔ano x:=by unfold Hc;simp;constructor;rintro⟨h1,h2,h3,h4,h5⟩;exact⟨by omega,by omega,by omega,h4,h5⟩;rintro⟨h1,h2,h3,h4,h5⟩;exact⟨by omega,by omega,by omega,h4,h5⟩
theorem X5 s:Fy s=true↔s.length<=80/\(∀ x∈s,ano x)/\arf s:=by
 unfold Fy;rw[bK,bT,Bool.not_eq_true',List.any_eq_false];refine and_congr_right λ_=>?_;constructor;intro h;have key:∀i (hi:i<s.length),AK ((BR s)[i]'(by rw[qc];exact hi))=false:=λi hi=>by have:=h _ (getElem_mem (show i<(BR s).length by rw[qc];exact hi));simpa using this
 refine⟨λ x hx=>?_,λi hi=>?_⟩;obtain⟨i,hi,rfl⟩:=mem_iff_getElem.1 hx;have:=key i hi;rw[Fz]at this;unfold AK at this;rw[Bool.or_eq_false_iff]at this;exact(afk _).1 this.1;have:=key (i+1) hi;rw[Fz]at this;unfold AK at this;rw[Bool.or_eq_false_iff]at this;have h2:=this.2;simp only[Nat.succ_ne_zero,dif_neg,not_false_eq_true,Option.any_some,Nat.add_sub_cancel,Bool.or_eq_false_iff,dW,Bool.and_eq_false_iff,beq_eq_false_iff_ne]at h2;refine⟨by omega,λ⟨e1,e2⟩=>?_⟩;rcases h2.2 with h3|h3;exact h3 e1;exact h3 e2;rintro⟨h1,h2⟩ p hp;obtain⟨i,hi,rfl⟩:=mem_iff_getElem.1 hp;rw[Fz];rw[qc]at hi;unfold AK;have hb:=(afk _).2 (h1 _ (getElem_mem hi));by_cases h0:i=0;simp[h0]at hb ⊢;exact hb;obtain⟨j,rfl⟩:∃j,i=j+1:=⟨i-1,by omega⟩;have⟨n1,n2⟩:=h2 j hi;simp only[Nat.succ_ne_zero,dif_neg,not_false_eq_true,Option.any_some,Nat.add_sub_cancel];rw[hb];simp only[Bool.false_or,Bool.or_eq_true,bT,bK,beq_iff_eq];rintro (h|h);omega;exact n2 h
theorem tF{l:List gQ}{φ:(gQ×Unit)->Option Bool}(p:gQ->Bool)(h:∀x∈l,φ (x,())=some (p x))(hl:l.length<1099511627776)(hn:l.length<n):jE n l φ=some (l.any p):=by
 unfold jE uI;have:=sP (l:=l) (step:=mD l φ) (λ i=>(i:Nat)) p () (λ i=>(i:Nat)) (λ i hi=>?_) (by simp[mD]) n hn;rw[lE]at this;rw[this,<- QO];cases oK p l with
 |none=>rfl
 |some i=>simp<;>omega
 have hi':decide ((i:Int)<l.length)=true:=by simpa using hi
 simp only[mD,hi',aj,aN hi,ai,h _ (getElem_mem hi)];rw[bB (by omega)];cases p l[i]<;>rfl
def PM(s:List gQ)(lot:Int)(e:nG):Bool:=e.lot==lot&&(cQ e.area&&s.any λc=>decide (c.z1>e.top)&&NL c.area e.area)
def NB(l:List nG)(lot:Int)(s:List gQ):Bool:=Fy s&&!(l.any (PM s lot))
theorem ZA{l:List nG}{lot:Int}{s:List gQ}(hl:l.length<=900)(he:∀e∈l,e.area.length<=900)(ha:∀x∈s,x.area.length<=900)(hn:1000<=n):Fb n l lot s=some (NB l lot s):=by
 unfold Fb NB;rw[SV ha hn];simp;cases hr:Fy s with
 |false=>rfl
 |true=>
 have l80:=((X5 s).1 hr).1;have:=sP (l:=l) (step:=wD n l lot s) (λ i=>(i:Nat)) (PM s lot) () (λ _=>false) (λ i hi=>?_) (by simp[wD]) n (by omega);rw[lE]at this;simp;rw[this,<- QO];cases oK (PM s lot) l<;>rfl;have hi':decide ((i:Int)<l.length)=true:=by simpa using hi
 have h1:=he _ (getElem_mem hi);have cf:=tF (n:=n) (l:=s) (φ:=λy:gQ×Unit=>ru n y.1 l[i]) (λ c=>decide (c.z1>l[i].top)&&NL c.area l[i].area) (λ c hc=>by have:=ha c hc;show ru n c l[i]=_;unfold ru;rw[ahJ (by omega) (by omega) (by omega) (by omega)];cases decide (c.z1>l[i].top)<;>rfl) (by omega) (by omega);simp only[wD,hi',aj,aN hi,ai,kM (n:=n) (l:=l[i].area) (by omega) (by omega) hn,cf];rw[bB (by omega)];unfold PM;cases h2:l[i].lot==lot with
 |false=>
  have:(l[i].lot !=lot)=true:=by simp[bne,h2]
  simp[this]
 |true=>
  have:(l[i].lot !=lot)=false:=by simp[bne,h2]
  simp[this];cases cQ l[i].area with
  |false=>simp
  |true=>cases s.any λc=>decide (c.z1>l[i].top)&&NL c.area l[i].area<;>simp
theorem afm(r:ax):d7 r=true↔(0<=r.x0/\r.x0<r.x1/\r.x1<=1048576)/\(0<=r.y0/\r.y0<r.y1/\r.y1<=1048576):=by simp;omega
theorem KQ{b:ax}{l:List eH}(r:ax) x (hb:d7 b=true) (hp:∀p∈l,XY p=true) (hr:d7 r=true) (hx:0<=x/\x<1048576) (hl:l.length<=1000) (hn:2000<=n) v:
 iter (oP n b l r x) n (v,0)=some (min (min v (Zz b l x r.y0)) (Zz b l x (r.y1-1))):=by
 have ho:=(afm r).1 hr;have w:i64.wrap (r.y1-1)=r.y1-1:=dS (by omega) (by omega);have:=lH (l:=[r.y0,r.y1-1]) (step:=oP n b l r x) (λ i s=>(s,(i:Nat))) (λ y m=>min m (Zz b l x y)) (λ s=>s) (λ i hi s=>?_) (λ s=>by simp[oP]) n (by simp;omega) v;rw[lE]at this;exact this;have h2:i<2:=by simpa using hi
 have yb:0<=([r.y0,r.y1-1]:List Int)[i]/\([r.y0,r.y1-1]:List Int)[i] <1048576:=by rcases i with _|_|i;simp;omega;simp;omega;omega
 simp only[oP,aW h2,aj,aO h2,w,aQ hi,ai,acK hb hp ⟨hx,yb⟩ hl hn,aG i]
def aqz(b:ax)(l:List eH)(v:Int)(r:ax):Int:=min (min (min (min v (Zz b l r.x0 r.y0)) (Zz b l r.x0 (r.y1-1))) (Zz b l (r.x1-1) r.y0)) (Zz b l (r.x1-1) (r.y1-1))
theorem KR{b:ax}{l:List eH}(r:ax)(hb:d7 b=true)(hp:∀p∈l,XY p=true)(hr:d7 r=true)(hl:l.length<=1000)(hn:2000<=n) v:
 iter (oQ n b l r) n (v,0)=some (aqz b l v r):=by
 have ho:=(afm r).1 hr;have w:i64.wrap (r.x1-1)=r.x1-1:=dS (by omega) (by omega);have:=lH (l:=[r.x0,r.x1-1]) (step:=oQ n b l r) (λ i s=>(s,(i:Nat))) (λ x m=>min (min m (Zz b l x r.y0)) (Zz b l x (r.y1-1))) (λ s=>s) (λ i hi s=>?_) (λ s=>by simp[oQ]) n (by simp;omega) v;rw[lE]at this;exact this;have h2:i<2:=by simpa using hi
 have xb:0<=([r.x0,r.x1-1]:List Int)[i]/\([r.x0,r.x1-1]:List Int)[i] <1048576:=by rcases i with _|_|i;simp;omega;simp;omega;omega
 simp only[oQ,aW h2,aj,aO h2,w,aQ hi,ai,KQ r _ hb hp hr xb hl hn,aG i]
def PJ(b:ax)(l:List eH)(a:List ax):Int:=a.foldl (aqz b l) 4096
theorem TN{b:ax}{l:List eH}{a:List ax}(hb:d7 b=true)(hp:∀p∈l,XY p=true)(ha:∀r∈a,d7 r=true)(hal:a.length<=1000)(hl:l.length<=1000)(hn:2000<=n):yF n b l a=some (PJ b l a):=by unfold yF;have:=lH (l:=a) (step:=rU n b l a) (λ i s=>(s,(i:Nat))) (λ r m=>aqz b l m r) (λ s=>s) (λ i hi s=>?_) (λ s=>by simp[rU]) n (by omega) 4096;rw[lE]at this;rw[this];rfl;simp only[rU,aW hi,aj,aN hi,ai,KR a[i] hb hp (ha _ (getElem_mem hi)) hl hn,aG i]
theorem FB(r:ax):d7 r=true↔(0<=r.x0/\r.x0<r.x1/\r.x1<=1048576)/\(0<=r.y0/\r.y0<r.y1/\r.y1<=1048576):=by simp;omega
abbrev Fm(t:bW):Prop:=t.area.length<=900/\t.from_.length*8<=140737488355328
theorem ahP{t:bW}(h:Fm t):Ov t=some t:=by unfold Ov;have h2:=h.2;rw[QG (by omega),ai,show EW t.from_=some t.from_ from Sy (b:=8) (by omega) (by simp[maxLen];omega),ai];simp
theorem ald{land:List bW}{id:Int}(h:∀t∈land,Fm t)(hl:land.length<1099511627776)(hn:land.length<n):Ow n land id=some (kG land id):=by
 unfold Ow;have:=sP (l:=land) (step:=EX land id) (λ i=>i) (λ t=>t.id==id) () (λ i=>(land.getD i ank,true)) (λ i hi=>?_) ?_ n hn;rw[lE]at this;rw[this];unfold kG;rcases XU (λ t:bW=>t.id==id) land with ⟨i,hi,h1,h2⟩|⟨h1,h2⟩;rw[h1,h2];simp[hi];rw[h1,h2];rfl;simp only[EX,aW hi,aj,aN hi,ai,ahP (h _ (getElem_mem hi))];cases land[i].id==id with
 |true=>simp[hi]
 |false=>simp only[au];rw[bB (by omega)]
 simp[EX]
theorem abm{land:List bW}(h:∀t∈land,Fm t) id:Fm (kG land id).1:=by unfold kG;split;rename_i t ht;exact h t (List.mem_of_find?_eq_some ht);simp[Fm,ank]
structure arH(t:bR):Prop where
 rules:t.az.length<=20
 TC:∀r∈t.az,QU r
 zones:t.aw.length<=20
 land:t.land.length<=20
 lots:∀l∈t.land,Fm l
 cC:t.cC.length<=5
 arM:∀e∈t.cC,e.area.length<=10
theorem Bj{α:Type}(p:α->Bool):∀l:List α,((List.range l.length).filter λi=>(l[i]?).any p).filterMap (λ i=>l[i]?)=l.filter p
 |[]=>rfl
 |a::l=>by
  have ih:=Bj p l;rw[dX,List.range_succ_eq_map,List.filter_cons,List.filter_cons];have e:(List.filter (λ i=>((a::l)[i]?).any p) (List.map Nat.succ (List.range l.length))).filterMap (λ i=>(a::l)[i]?)=l.filter p:=by rw[List.filter_map,List.filterMap_map];exact ih
  cases hp:p a with
  |true|false=>simp[hp];simpa using e
def HE(a r:ax):ax:=⟨min a.x0 r.x0,min a.y0 r.y0,max a.x1 r.x1,max a.y1 r.y1⟩
def ajL:List ax->ax
 |[]=>⟨0,0,0,0⟩
 |r::l=>l.foldl HE r
def qE(a:List ax):ax×Bool:=bif decide (a≠[])&&cQ a then(ajL a,true)else(⟨0,0,0,0⟩,false)
theorem afn{a:List ax}(ha:a≠[])(hv:∀r∈a,d7 r=true)(hl:a.length<=900)(hn:2000<=n):Oo n a=some (ajL a,true):=by
 unfold Oo;have:=lH (l:=a.zip (List.range a.length)) (step:=AJ a) (λ i (s:Bool×Int×Int×Int×Int)=>(s.1,(i:Nat),s.2)) (λ p s=>bif !s.1 then(true,p.1.x0,p.1.y0,p.1.x1,p.1.y1)else(s.1,min s.2.1 p.1.x0,min s.2.2.1 p.1.y0,max s.2.2.2.1 p.1.x1,max s.2.2.2.2 p.1.y1)) (λ s=>s) (λ i hi s=>?_) (λ s=>?_) n (by simp;omega) (false,0,0,0,0);rw[lE]at this;simp only at this;rw[this];cases a with
 |nil=>exact absurd rfl ha
 |cons r l=>
  have gen:∀(l:List ax)(k:List Nat)(s:ax),l.length<=k.length->(l.zip k).foldl (λ (s:Bool×Int×Int×Int×Int) p=>bif !s.1 then(true,p.1.x0,p.1.y0,p.1.x1,p.1.y1)else(s.1,min s.2.1 p.1.x0,min s.2.2.1 p.1.y0,max s.2.2.2.1 p.1.x1,max s.2.2.2.2 p.1.y1)) (true,s.x0,s.y0,s.x1,s.y1)=(true,(l.foldl HE s).x0,(l.foldl HE s).y0,(l.foldl HE s).x1,(l.foldl HE s).y1):=by
   intro l
   induction l with
   |nil=>intro k s _;rfl
   |cons r l ih=>
    intro k s hk;cases k with
    |nil=>simp at hk
    |cons j k=>
     rw[List.zip_cons_cons,foldl_cons,foldl_cons];exact ih k (HE s r) (by simpa using hk)
  rw[dX,List.range_succ_eq_map,List.zip_cons_cons,foldl_cons];simp only[Bool.not_false,aj];rw[gen l _ r (by simp)];rfl
 have hi':i<a.length:=by simpa using hi
 obtain⟨s1,s2,s3,s4,s5⟩:=s;have ok:=hv _ (getElem_mem hi');simp only[AJ,aW hi',aj,aN hi',ai,iU,ok,Bool.not_true,au,QM,List.getElem_zip,aG i];obtain⟨s1,s2,s3,s4,s5⟩:=s;have:(a.zip (List.range a.length)).length=a.length:=by simp
 simp[AJ]
theorem FD a (hl:a.length<=900) (hn:2000<=n):Dq n a=some (qE a):=by
 unfold Dq qE;cases a with
 |nil=>rfl
 |cons r l=>
  have e:((((r::l).length:Nat):Int)==0)=false:=by simp;omega
  have e2:decide (r::l≠[])=true:=by simp
  rw[kM (by omega) (by omega) (by omega),e,e2];simp;cases hr:cQ (r::l)with
  |false=>rfl
  |true=>
   simp;rw[afn (by simp) (uT hr).1 hl hn];rfl
theorem iF{V O:Type}{step:V->Option (V⊕O)}(f:Nat->V){s:V}(N:Nat)(o:O)(h0:s=f 0)
 (h1:∀i,i<N->step (f i)=some (.inl (f (i+1)))) (h2:step (f N)=some (.inr o)) (n:Nat) (hn:N<n):iter step n s=some o:=by rw[h0];exact mZ f N o h1 h2 n hn
def tb(f:Nat->Nat->Bool):List Bool:=(List.range 144).map λi=>f (i/12) (i%12)
def upd(f:Nat->Nat->Bool)(a b:Nat)(v:Bool):Nat->Nat->Bool:=λx y=>if x=a/\y=b then v else f x y
inductive Tc(e:Nat->Nat->Bool):Nat->Nat->Prop
 |one {a b:Nat}:a<12->b<12->e a b=true->Tc e a b
 |trans {a b c:Nat}:Tc e a b->Tc e b c->Tc e a c
theorem Tc.lt{e:Nat->Nat->Bool}{a b:Nat}(h:Tc e a b):a<12/\b<12:=by
 induction h with
 |one h1 h2 _=>exact⟨h1,h2⟩
 |trans _ _ i1 i2=>exact⟨i1.1,i2.2⟩
def iG(v:aF):ax:=ax.mk v.bu v.cw v.br v.ct
def okV(v:aF):Bool:=d7 (iG v)&&(decide (0<=v.fg)&&(decide (v.fg<v.ek)&&(decide (v.ek<=4096)&&((decide (v.use=0) || decide (v.units=0))&&(decide (0<=v.use)&&(decide (v.use<6)&&(decide (0<=v.units)&&decide (v.units<=1048576))))))))
theorem qd(v:aF):gJ v=some (okV v):=by
 unfold gJ okV;rw[iU];have e1:decide (v.fg<0)=!decide (0<=v.fg):=by rw[<- decide_not,decide_eq_decide];omega
 have e2:decide (v.fg>=v.ek)=!decide (v.fg<v.ek):=by rw[<- decide_not,decide_eq_decide];omega
 have e3:decide (v.ek>4096)=!decide (v.ek<=4096):=by rw[<- decide_not,decide_eq_decide];omega
 have e4:(v.use !=0)=!decide (v.use=0):=by by_cases h:v.use=0<;>simp[h]
 have e5:(v.units !=0)=!decide (v.units=0):=by by_cases h:v.units=0<;>simp[h]
 rw[e1,e2,e3,e4,e5,show ax.mk v.bu v.cw v.br v.ct=iG v from rfl];simp;generalize d7 (iG v)=a1;generalize decide (0<=v.fg)=a2;generalize decide (v.fg<v.ek)=a3;generalize decide (v.ek<=4096)=a4;generalize decide (v.use=0)=a5;generalize decide (v.units=0)=a6;generalize decide (0<=v.use)=a7;generalize decide (v.use<6)=a8;generalize decide (0<=v.units)=a9;generalize decide (v.units<=1048576)=k9;cases a1<;>cases a2<;>cases a3<;>cases a4<;>cases a5<;>cases a6<;>cases a7<;>cases a8<;>cases a9<;>rfl
theorem X6{v:aF}(h:okV v=true):d7 (iG v)=true:=by rw[okV,bK]at h;exact h.1
def lF(d:bf):List aF:=d.phases.flatMap (·.cP)
theorem eJ{l:List pF}(h:∀p∈l,p.cP.length<=1000):(l.flatMap (·.cP)).length<=l.length*1000:=by
 induction l with
 |nil=>simp
 |cons p l ih=>
  have h1:=h p (by simp);have h2:=ih λq hq=>h q (by simp[hq]);simp only[List.flatMap_cons,fP,dX];omega
def TP(d:bf):Prop:=d.phases.length<=1000/\∀p∈d.phases,p.cP.length<=1000
theorem X7{d:bf}(h:TP d)(hn:1001<=n):oN n d 0 d.phases.length=some (lF d):=by
 obtain⟨h1,h2⟩:=h;unfold oN;have key:=iF (step:=oh d 0 d.phases.length) (λ i=>(i,(d.phases.take i).flatMap (·.cP))) (s:=(0,[])) d.phases.length (lF d) rfl (λ i hi=>by
  have e2:decide (i>=0)=true:=by simp
  have hl:=eJ (l:=d.phases.take i) λp hp=>h2 p (List.mem_of_mem_take hp);rw[length_take]at hl;have hv:=h2 _ (getElem_mem hi);generalize hL:(d.phases.take i).flatMap (·.cP)=L at hl;have hap:bH L.length L.length d.phases[i].cP.length d.phases[i].cP.length 72=true:=bU (by omega) (by simp[maxLen];omega);simp only[oh,aW hi,aj,aN hi,ai,e2,hap,dO,aH,aG i];rw[jl hi,List.flatMap_append,hL];simp) (by simp[oh,lF]) n (by omega)
 have hz:aE 0 ([]:List aF).length=true:=rfl;simp[key]
def Nx(v:aF):Int:=(lJ v).getD 0
theorem X8(v:aF):lJ v=some (Nx v):=by unfold Nx lJ;rw[qd];cases v.extra<;>cases okV v<;>rfl
def QV(v:aF):Int:=(pu v).getD 0
theorem afp(v:aF):pu v=some (QV v):=by
 unfold QV pu;rw[qd,X8];cases h:okV v with
 |false=>rfl
 |true=>
  have e:=yU (X6 h);unfold iG at e;simp[e]
def Hb(f:aF->Int)(l:List aF):Int:=l.foldl (λ s v=>i64.wrap (s+f v)) 0
def PH(f:aF->Int)(l:List aF):Int:=l.foldl (λ s v=>max s (f v)) 0
theorem aqA a1 a8 {a9:List aF} (hl:a9.length<=1000) (hn:1001<=n):∀a0 a2 a3 a4 a5 a6 a7,kZ n a0 a1 a2 a3 a4 a5 a6 a7 a8 a9=some (Hb QV a9,a0,a1,a2,a3,a4,a5,a6,a7,a8,a9):=by have key:=lH (l:=a9) (step:=j4 a9) (λ i s=>(s,i)) (λ v s=>i64.wrap (s+QV v)) (λ s=>s) (λ i hi s=>by simp only[j4,aW hi,aj,aO hi,aQ hi,ai,afp,aG i]) (λ s=>by simp[j4]) n (by omega) 0;rw[lE]at key;unfold kZ qP;simp only[key,ai,aH,aj];exact λ_ _ _ _ _ _ _=>rfl
theorem aqB a1 a8 {a9:List aF} (hl:a9.length<=1000) (hn:1001<=n):∀a0 a2 a3 a4 a5 a6 a7,lg n a0 a1 a2 a3 a4 a5 a6 a7 a8 a9=some (Hb (·.units) a9,a0,a1,a2,a3,a4,a5,a6,a7,a8,a9):=by have key:=lH (l:=a9) (step:=kg a9) (λ i s=>(s,i)) (λ v s=>i64.wrap (s+v.units)) (λ s=>s) (λ i hi s=>by simp only[kg,aW hi,aj,aO hi,aQ hi,ai,pI,aG i]) (λ s=>by simp[kg]) n (by omega) 0;rw[lE]at key;unfold lg qQ;simp only[key,ai,aH,aj];exact λ_ _ _ _ _ _ _=>rfl
theorem anp a1 a8 {a9:List aF} (hl:a9.length<=1000) (hn:1001<=n):∀a0 a2 a3 a4 a5 a6 a7,j5 n a0 a1 a2 a3 a4 a5 a6 a7 a8 a9=some (PH Nx a9,a0,a1,a2,a3,a4,a5,a6,a7,a8,a9):=by have key:=lH (l:=a9) (step:=iK a9) (λ i s=>(s,i)) (λ v s=>max s (Nx v)) (λ s=>s) (λ i hi s=>by simp only[iK,aW hi,aj,aO hi,aQ hi,ai,X8,aG i]) (λ s=>by simp[iK]) n (by omega) 0;rw[lE]at key;unfold j5 mR;simp only[key,ai,aH,aj];exact λ_ _ _ _ _ _ _=>rfl
theorem anq a1 a8 {a9:List aF} (hl:a9.length<=1000) (hn:1001<=n):∀a0 a2 a3 a4 a5 a6 a7,j6 n a0 a1 a2 a3 a4 a5 a6 a7 a8 a9=some (PH (·.ek) a9,a0,a1,a2,a3,a4,a5,a6,a7,a8,a9):=by have key:=lH (l:=a9) (step:=iL a9) (λ i s=>(s,i)) (λ v s=>max s v.ek) (λ s=>s) (λ i hi s=>by simp only[iL,aW hi,aj,aO hi,aQ hi,ai,om,aG i]) (λ s=>by simp[iL]) n (by omega) 0;rw[lE]at key;unfold j6 mU;simp only[key,ai,aH,aj];exact λ_ _ _ _ _ _ _=>rfl
theorem alf(e:bS)(a:Ko){u:Int}(h0:0<=u)(h6:u<6):∃b,kU e a u=some b:=by
 obtain⟨k,rfl⟩:∃k:Nat,u=k:=⟨u.toNat,by omega⟩;have hk:k<6:=by omega
 unfold kU;rw[aO hk,aN (l:=[a.a0,a.a1,a.a2,a.a3,a.a4,a.a5]) hk];exact⟨_,rfl⟩
theorem FE{l:List bS}{φ:(bS×Unit)->Option Bool}(p:bS->Bool)(h:∀x∈l,φ (x,())=some (p x))(hl:l.length<=9223372036854775807)(hn:l.length<n):kV n l φ=some (xH p l):=F8 p h hl hn
theorem aqC(p:bn){u:Int}(h0:0<=u)(h6:u<6)(ht:p.tables.length<n)(ht2:p.tables.length<=9223372036854775807)(hr:∀t∈p.tables,t.rows.length<n/\t.rows.length<=9223372036854775807):∃r,AQ n p u=some r:=by
 have key:∃o,iter (kW n p u) n 0=some o/\True:=by
  have step:∀i (hi:i<p.tables.length),kW n p u i=some (.inl (i+1:Nat))\/∃z,kW n p u i=some (.inr (.inr z)):=by
   intro i hi;obtain⟨r1,r2⟩:=hr _ (getElem_mem hi);simp only[kW,aW hi,aj,aN hi,ai,aG i];cases ByteArray.toList p.tables[i].name==ByteArray.toList ⟨#[116,114,97,102,102,105,99]⟩with
   |false=>exact Or.inl rfl
   |true=>
    right;simp;generalize Ko.mk _ _ _ _ _ _=A;have hx:=FE (n:=n) (l:=p.tables[i].rows) (φ:=λy1=>kU y1.1 A u) (λ e=>(kU e A u).getD false) (λ e _=>by have⟨b,hb⟩:=alf e A h0 h6;simp[hb]) r2 r1;rw[hx];simp[xZ];cases hany:p.tables[i].rows.any λe=>(kU e A u).getD false with
    |false=>exact⟨_,rfl⟩
    |true=>
     have⟨j,hj,h1,_⟩:=Xl hany;rw[h1];simp only[aj,aN hj,ai];exact⟨_,rfl⟩
  have main:∀k i m,i+k=p.tables.length->k<m->∃o,iter (kW n p u) m i=some o/\True:=by
   intro k
   induction k with
   |zero=>
    intro i m hi hm;obtain⟨q,rfl⟩:∃q,m=q+1:=⟨m-1,by omega⟩;have:i=p.tables.length:=(by omega);subst this;exact⟨.inl (),dU (by simp[kW]),trivial⟩
   |succ k ih=>
    intro i m hi hm;obtain⟨q,rfl⟩:∃q,m=q+1:=⟨m-1,by omega⟩;rcases step i (by omega)with h|⟨z,h⟩;rw[fU h];exact ih (i+1) q (by omega) (by omega);exact⟨_,dU h,trivial⟩
  exact main p.tables.length 0 n (by omega) ht
 obtain⟨o,h1,_⟩:=key;unfold AQ;rw[h1];cases o with
 |inl w|inr r=>exact⟨_,rfl⟩
theorem ahQ(p:bn){v:aF}(hv:okV v=true)(ht:p.tables.length<n)(ht2:p.tables.length<=9223372036854775807)(hr:∀t∈p.tables,t.rows.length<n/\t.rows.length<=9223372036854775807):∃r,jS n p v=some r:=by
 simp[okV]at hv;have⟨r,h1⟩:=aqC (n:=n) p (u:=v.use) hv.2.2.2.2.2.1 hv.2.2.2.2.2.2.1 ht ht2 hr;unfold jS;rw[h1,afp];simp;have e100:(100 !=0)=true:=rfl;by_cases h:r>0;have e:(r !=0)=true:=by simp;omega
 have e2:decide (r>0)=true:=by simpa using h
 rw[e,e2];simp;cases decide (QV v>i64.wrap (Int.tdiv 109951162777600 r))<;>exact⟨_,rfl⟩;have e2:decide (r>0)=false:=by simpa using h
 rw[e2];exact⟨_,rfl⟩
def ap3(n:Nat)(ts:List dJ)(v:aF):Int:=(jS n (bn.mk [] ts [] [] [] [] [] 0) v).getD 0
theorem aqD a1 a8 {a9:List aF} (hl:a9.length<=1000) (hn:1001<=n) (hv:∀v∈a9,okV v=true) (ht:a1.length<n) (ht2:a1.length<=9223372036854775807) (hr:∀t∈a1,t.rows.length<n/\t.rows.length<=9223372036854775807):∀a0 a2 a3 a4 a5 a6 a7,jM n a0 a1 a2 a3 a4 a5 a6 a7 a8 a9=some (Hb (ap3 n a1) a9,a0,a1,a2,a3,a4,a5,a6,a7,a8,a9):=by have key:=λa0 a2 a3 a4 a5 a6 a7=>fF (l:=a9) (step:=kr n a9) (λ i s=>(s,i,a0,a1,a2,a3,a4,a5,a6,a7,a8,a9)) (λ v s=>i64.wrap (s+(jS n (bn.mk [] a1 [] [] [] [] [] 0) v).getD 0)) (λ s=>(s,a0,a1,a2,a3,a4,a5,a6,a7,a8,a9)) (λ _ _=>True) (λ i hi s _=>⟨by obtain⟨r,h1⟩:=ahQ (n:=n) (bn.mk [] a1 [] [] [] [] [] 0) (hv _ (getElem_mem hi)) ht ht2 hr;have h2:jS n (bn.mk a0 a1 a2 a3 a4 a5 a6 a7) a9[i]=some r:=h1;simp only[kr,aW hi,aj,aO hi,aQ hi,ai,kX,h1,h2,aH,aG i,Option.getD_some],trivial⟩) (λ s _=>by simp[kr]) n (by omega) 0 trivial;have key:=λa0 a2 a3 a4 a5 a6 a7=>(lE) ▸ key a0 a2 a3 a4 a5 a6 a7;unfold jM qR;simp only[key,ai,aH,aj];exact λ_ _ _ _ _ _ _=>rfl
theorem anr{α β:Type}(l:List α)(f:α->β)(z:β){i:Nat}(hi:i<l.length):((l.take i).map f++List.replicate (l.length-i) z).set i (f l[i])=(l.take (i+1)).map f++List.replicate (l.length-(i+1)) z:=by
 have h1:((l.take i).map f).length=i:=by simp;omega
 rw[List.set_append_right _ _ (by omega),h1,Nat.sub_self,show l.length-i=(l.length-(i+1))+1 by omega,List.replicate_succ,List.set_cons_zero,jl hi,map_append,aM];rfl
theorem ant{α β:Type}(l:List α)(f:α->β)(z:β){i:Nat}(hi:i<=l.length):((l.take i).map f++List.replicate (l.length-i) z).length=l.length:=by simp;omega
theorem anu{α β:Type}(l:List α)(f:α->β)(z:β){i:Nat}(hi:i<l.length):((l.take (i+1)).map f++List.replicate (l.length-(i+1)) z)[i]? =some (f l[i]):=by rw[List.getElem?_append_left (by simp;omega)];simp[hi]
theorem anv{l:List aF}(hl:l.length<=1000)(hn:1001<=n):iter (gU l) n (0,List.replicate l.length (ax.mk 0 0 0 0),[])=some (l.map iG,l.flatMap λv=>[v.bu,v.br]):=by
 refine iF (step:=gU l) (λ i=>(i,(l.take i).map iG++List.replicate (l.length-i) (ax.mk 0 0 0 0),(l.take i).flatMap λv=>[v.bu,v.br])) l.length _ ?_ (λ i hi=>?_) ?_ n (by omega);simp;have h1:=ant l iG (ax.mk 0 0 0 0) (Nat.le_of_lt hi);have h2:=anr l iG (ax.mk 0 0 0 0) hi;have h3:=anu l iG (ax.mk 0 0 0 0) hi;have h4:((l.take i).flatMap λv=>[v.bu,v.br]).length=2*i:=by
  have:∀m:List aF,(m.flatMap λv=>[v.bu,v.br]).length=2*m.length:=by
   intro m;induction m with
   |nil=>rfl
   |cons a m ih=>simp[ih];omega
  rw[this,length_take];omega
 generalize (l.take i).map iG++List.replicate (l.length-i) (ax.mk 0 0 0 0)=B at h1 h2;have e0:(((0:Nat):Int)+i).toNat=i:=by omega
 have et:(l.length:Int).toNat=l.length:=by omega
 have hb:ax.mk l[i].bu l[i].cw l[i].br l[i].ct=iG l[i]:=rfl;have hiB:i<B.length:=by omega
 rw[<- h2]at h3;have g3:bj (B.set i (iG l[i])) ((0:Nat)+i)=some (iG l[i]):=by rw[Kc];exact h3
 have hs:sub ([(iG l[i]).x0,(iG l[i]).x1]:List Int) 0 2=[(iG l[i]).x0,(iG l[i]).x1]:=rfl;have hap:bH (2*i) (2*i) 2 2 8=true:=bU (by omega) (by simp[maxLen];omega);have hl2:([(iG l[i]).x0,(iG l[i]).x1]:List Int).length=2:=rfl;simp only[gU,aW hi,aj,aO hi,aQ hi,ai,et,aQ hiB,e0,hb,g3,hs,hl2,h4,hap,dO,aH,aG i];rw[<- h2,jl hi,List.flatMap_append];rfl;simp only[gU,gY,au,aH,aj,List.take_length];simp
def cst(x w:Int)(s:Int×Int)(r:ax):Int×Int:=
 bif decide (r.x0<=x)&&(decide (x<r.x1)&&decide (r.y1>s.2))then(i64.wrap (s.1+i64.wrap (i64.wrap w*i64.wrap (r.y1-max s.2 r.y0))),r.y1)else s
def PF(R:List ax)(X:List Int)(n:Int)(k:Nat):Int:=(R.foldl (cst (X.getD k 0) (X.getD (k+1) 0-X.getD k 0)) (n,0)).1
def ahR(R:List ax)(X:List Int):Int:=(List.range (X.length-1)).foldl (PF R X) 0
def SZ(l:List aF):Int:=ahR (lU xc (l.map iG)) (kJ oc (l.flatMap λv=>[v.bu,v.br]))
theorem anw{l:List aF}{R:List ax}{X:List Int} w2 (hR:R.length=l.length) (hX:X.length=w2.length) (hl:l.length<=1000) (hn:1001<=n) {k:Nat} (hk:k+1<w2.length) (hw:w2.length<=10000) s:iter (gV l w2 R X k) n (s,0,0)=some (PF R X s k):=by
 have et:((l.length:Int).toNat)=l.length:=by omega
 have ew:i64.wrap (k+1)=(k+1:Nat):=bB (by omega);have g1:X.getD k 0=X[k]'(by omega):=by simp[show k<X.length by omega]
 have g2:X.getD (k+1) 0=X[k+1]'(by omega):=by simp[show k+1<X.length by omega]
 unfold PF;rw[g1,g2];refine lH (l:=R) (step:=gV l w2 R X k) (λ i (s:Int×Int)=>(s.1,s.2,i)) (λ r s=>cst (X[k]'(by omega)) (X[k+1]'(by omega)-X[k]'(by omega)) s r) (λ s=>s.1) (λ i hi v=>?_) (λ v=>?_) n (by omega) (s,0);obtain⟨a,b⟩:=v;simp only[gV,et,aW (show i<l.length by omega),aj,aO (show i<l.length by omega),aQ (show i<R.length by omega),ai,aO (show k<w2.length by omega),aQ (show k<X.length by omega),ew,aO hk,aQ (show k+1<X.length by omega),aG i,cst];cases decide ((R[i]'(by omega)).x0<=X[k]'(by omega))with
 |false=>rfl
 |true=>
  simp;cases decide (X[k]'(by omega)<(R[i]'(by omega)).x1)with
  |false=>rfl
  |true=>
   cases decide ((R[i]'(by omega)).y1>b)<;>rfl
 obtain⟨a,b⟩:=v;simp[gV,hR]
theorem anx a1 a8 {a9:List aF} (hl:a9.length<=1000) (hn:10000<=n):∀a0 a2 a3 a4 a5 a6 a7,ji n a0 a1 a2 a3 a4 a5 a6 a7 a8 a9=some (SZ a9,a0,a1,a2,a3,a4,a5,a6,a7,a8,a9):=by
 have et:((a9.length:Int).toNat)=a9.length:=by omega
 have mk:xE (a9.length:Nat) 32=true:=U9 (by omega) (by simp[maxLen];omega);have d1:decide ((a9.length:Nat)<=(a9.length:Nat))=true:=by simp
 have d2:decide (0<=(a9.length:Nat))=true:=by simp
 have hz:aE 0 ([]:List Int).length=true:=rfl;have hx:(a9.flatMap λv=>[v.bu,v.br]).length<=2000:=by
  have:∀m:List aF,(m.flatMap λv=>[v.bu,v.br]).length=2*m.length:=by
   intro m;induction m with
   |nil=>rfl
   |cons a m ih=>simp[ih];omega
  rw[this];omega
 unfold ji;rw[et,anv hl (by omega)];unfold SZ;generalize (a9.flatMap λv=>[v.bu,v.br])=W at hx;have srt:=KO (n:=n) (l:=a9.map iG) (φ:=λy1=>jh y1.1 y1.2.1) (λ x y=>if x.y0<y.y0 then -1 else if y.y0<x.y0 then 1 else 0) (λ x y=>by show jh x y=_;unfold jh;rw[jB];rfl) (λ x y=>by unfold xc;rw[decide_eq_decide];constructor;intro h;split at h;assumption;split at h<;>omega;intro h;rw[aX h];decide) (by simp;omega) (by simp;omega);have hm:aE a9.length (a9.map iG).length=true:=by simp
 have hR:(lU xc (a9.map iG)).length=a9.length:=by rw[yc ajK];simp
 have hX:(kJ oc W).length=W.length:=(EO oc W).length_eq;simp[mk,srt,qb (show W.length<1099511627776 by omega) (show W.length<n by omega)];generalize lU xc (a9.map iG)=R at hR;generalize kJ oc W=X at hX;have key:iter (gW n a9 W R X) n (0,0)=some (ahR R X):=by
  have eN:max 0 (i64.wrap ((W.length:Nat)-1))=(W.length-1:Nat):=by
   cases h:W.length with
   |zero=>rfl
   |succ k=>rw[nD (by omega) (by omega)];omega
  have hrl:(List.range (X.length-1)).length=W.length-1:=by rw[List.length_range];omega
  unfold ahR;refine lH (l:=List.range (X.length-1)) (step:=gW n a9 W R X) (λ i s=>(s,i)) (λ k s=>PF R X s k) (λ s=>s) (λ i hi s=>?_) (λ s=>?_) n (by omega) 0;have hi':i<W.length-1:=by omega
  simp only[gW,eN,aW hi',aj,anw (n:=n) (l:=a9) (R:=R) (X:=X) W hR hX hl (by omega) (k:=i) (by omega) (by omega) s,ai,aG i,List.getElem_range];simp[gW,eN,hrl]
 rw[key];exact λ_ _ _ _ _ _ _=>rfl
def No(b:ax)(k:Int):ax:=⟨b.x0-k,b.y0-k,b.x1+k,b.y1+k⟩
def FH(area:List ax)(b:ax)(k:Int):Bool:=d7 (No b k)&&decide (area.foldl (λ s y=>KP (No b k) s y) 0=XW (No b k))
theorem alg(b:ax) k a2 a3 a4 a5 a6 a7 a8 a9 {k9:List ax} tA (hb:d7 b=true) (h0:0<=k) (h1:k<=1048576) (hl:k9.length<=1000) (hn:1001<=n):
 ko n b k a2 a3 a4 a5 a6 a7 a8 a9 k9 tA=some (FH k9 b k,a2,a3,a4,a5,a6,a7,a8,a9,k9,tA):=by
 rw[FB]at hb;unfold ko BP FH;rw[dS (x:=b.x0-k),dS (x:=b.y0-k),dS (x:=b.x1+k),dS (x:=b.y1+k),show ax.mk (b.x0-k) (b.y0-k) (b.x1+k) (b.y1+k)=No b k from rfl,iU];generalize No b k=g;simp;cases hg:d7 g with
 |false=>simp
 |true=>
  have key:=lH (l:=k9) (step:=jc k9 (g,true)) (λ i s=>(s,i)) (λ y s=>KP g s y) (λ s=>s) (λ i hi s=>by
   simp only[jc,aW hi,aj,aN hi,ai,uV,aG i,KP];cases h1:d7 g with
   |false=>rfl
   |true=>
    cases h2:d7 k9[i]with
    |false=>rfl
    |true=>
     cases h3:d7 (kN g k9[i])with
     |false=>rfl
     |true=>simp[yU h3]) (λ s=>by simp[jc]) n (by omega) 0
  rw[lE]at key;simp[key,yU hg];congr 2
def QW(p:Int->Bool):Nat->Int->Int->Int
 | 0,lo,_=>lo
 |k+1,lo,hi=>bif decide (lo<hi)then(bif p ((lo+hi+1)/2)then QW p k ((lo+hi+1)/2) hi else QW p k lo ((lo+hi+1)/2-1))else lo
theorem acM(p:Int->Bool):∀k lo hi,lo<=hi->lo<=QW p k lo hi/\QW p k lo hi<=hi
 | 0,lo,hi,h=>by simp[QW];omega
 |k+1,lo,hi,h=>by
  simp[QW];by_cases h1:lo<hi;have e:decide (lo<hi)=true:=by simpa using h1
  rw[e,aj];cases p ((lo+hi+1)/2)with
  |true=>have:=acM p k ((lo+hi+1)/2) hi (by omega);simp;omega
  |false=>have:=acM p k lo ((lo+hi+1)/2-1) (by omega);simp;omega
  have e:decide (lo<hi)=false:=by simpa using h1
  rw[e,au];omega
theorem ahS{v:aF}(hv:d7 (iG v)=true) a2 a3 a4 a5 a6 a7 a8 a9 {k9:List ax} tA (hl:k9.length<=1000) (hn:1001<=n):
 ∀(k:Nat) lo hi m,0<=lo->lo<=hi->hi<=1048576->hi-lo<2 ^ k->k<m->iter (fu n v) m (lo,hi,a2,a3,a4,a5,a6,a7,a8,a9,k9,tA)=some (QW (FH k9 (iG v)) k lo hi,a2,a3,a4,a5,a6,a7,a8,a9,k9,tA):=by
 intro k
 induction k with
 |zero=>
  intro lo hi m h0 h1 h2 h3 hm;obtain⟨q,rfl⟩:∃q,m=q+1:=⟨m-1,by omega⟩;have:lo=hi:=by simp at h3;omega
  subst this;refine dU ?_;have e:decide (lo<lo)=false:=by simp
  simp[fu,QW]
 |succ k ih=>
  intro lo hi m h0 h1 h2 h3 hm;obtain⟨q,rfl⟩:∃q,m=q+1:=⟨m-1,by omega⟩;have hp:(2:Int) ^ (k+1)=2*2 ^ k:=by rw[Int.pow_succ];omega
  rw[hp]at h3;by_cases hlt:lo<hi;have e:decide (lo<hi)=true:=by simpa using hlt
  have e2:((2:Nat) !=0)=true:=rfl;have em:i64.wrap (Int.tdiv (i64.wrap (i64.wrap (lo+hi)+1)) 2)=(lo+hi+1)/2:=by rw[dS (x:=lo+hi),dS (x:=lo+hi+1),Int.tdiv_eq_ediv_of_nonneg (by omega),dS (by omega) (by omega)]
  have hi2:=alg (n:=n) (iG v) ((lo+hi+1)/2) a2 a3 a4 a5 a6 a7 a8 a9 (k9:=k9) tA hv (by omega) (by omega) hl hn;unfold iG at hi2;cases hc:FH k9 (iG v) ((lo+hi+1)/2)with
  |true=>
   rw[fU (v':=((lo+hi+1)/2,hi,a2,a3,a4,a5,a6,a7,a8,a9,k9,tA)) (by unfold iG at hc;simp[fu,e,em,hi2,hc]),ih _ _ _ (by omega) (by omega) (by omega) (by omega) (by omega)];simp[QW,e,hc]
  |false=>
   rw[fU (v':=(lo,(lo+hi+1)/2-1,a2,a3,a4,a5,a6,a7,a8,a9,k9,tA)) (by unfold iG at hc;simp[fu,e,em,hi2,hc,dS (x:=(lo+hi+1)/2-1)]),ih _ _ _ (by omega) (by omega) (by omega) (by omega) (by omega)];simp[QW,e,hc]
  have e:decide (lo<hi)=false:=by simpa using hlt
  refine dU ?_;simp[fu,e,QW]
def uW(area:List ax)(l:List aF):Int:=l.foldl (λ b v=>QW (FH area (iG v)) 21 0 b) 1048576
theorem ahT a0 a1 a2 a3 a4 a5 a6 a7 {a8:List ax} {a9:List aF} (hv:∀v∈a9,okV v=true) (hl:a9.length<=1000) (h8:a8.length<=1000) (hn:1001<=n):jL n a0 a1 a2 a3 a4 a5 a6 a7 a8 a9=some (uW a8 a9,a0,a1,a2,a3,a4,a5,a6,a7,a8,a9):=by have key:=fF (l:=a9) (step:=iT n a9) (λ i s=>(s,i,a0,a1,a2,a3,a4,a5,a6,a7,a8,a9)) (λ v s=>QW (FH a8 (iG v)) 21 0 s) (λ s=>(s,a0,a1,a2,a3,a4,a5,a6,a7,a8,a9)) (λ _ s=>0<=s/\s<=1048576) (λ i hi s hs=>by have h1:=ahS (n:=n) (X6 (hv _ (getElem_mem hi))) a0 a1 a2 a3 a4 a5 a6 a7 (k9:=a8) a9 h8 hn 21 0 s n (by omega) hs.1 hs.2 (by have:2 ^ 21=2097152:=rfl;omega) (by omega);have h2:=acM (FH a8 (iG a9[i])) 21 0 s hs.1;refine⟨?_,by omega,by omega⟩;simp only[iT,aW hi,aj,aO hi,aQ hi,ai,aH,h1,aG i]) (λ s _=>by simp[iT]) n (by omega) 1048576 (by omega);rw[lE]at key;unfold jL;simp[key];rfl
def fT(d:bf):List aF:=((lF d).take 40).filter okV
theorem acN(d:bf):∀v∈fT d,okV v=true:=λv hv=>(mem_filter.1 hv).2
theorem ZB(d:bf):(fT d).length<=40:=Nat.le_trans (length_filter_le _ _) (by rw[length_take];omega)
def pO(lot:bW):List ax:=bif cQ lot.area then lot.area else []
theorem arh{l:List aF} a0 a1 a2 a3 a4 a5 a6 a7 a8 (hl:l.length<=9223372036854775807) (hn:l.length<n):
 iter (rq l) n (0,a0,a1,a2,a3,a4,a5,a6,a7,a8,[])=some (a0,a1,a2,a3,a4,a5,a6,a7,a8,(l.take 40).filter okV):=by
 refine iF (step:=rq l) (λ i=>(i,a0,a1,a2,a3,a4,a5,a6,a7,a8,((l.take i).take 40).filter okV)) l.length _ (by simp) (λ i hi=>?_) ?_ n hn;have hlen:(((l.take i).take 40).filter okV).length<=40:=Nat.le_trans (length_filter_le _ _) (by rw[length_take];omega);have e40:decide ((i:Int)<40)=decide (i<40):=by rw[decide_eq_decide];omega
 have hs:sub ([l[i]]:List aF) 0 1=[l[i]]:=rfl;have hN:((l.take (i+1)).take 40).filter okV=((l.take i).take 40).filter okV++(bif decide (i<40)&&okV l[i]then [l[i]]else []):=by
  by_cases h:i<40;have h1:(l.take i).take 40=l.take i:=take_of_length_le (by rw[length_take];omega);have h2:(l.take (i+1)).take 40=l.take (i+1):=take_of_length_le (by rw[length_take];omega);have h3:decide (i<40)=true:=by simpa using h
  rw[h1,h2,jl hi,List.filter_append,h3];cases h4:okV l[i]<;>simp[h4];have h3:decide (i<40)=false:=by simpa using h
  rw[List.take_take,List.take_take,h3,show min 40 (i+1)=40 by omega,show min 40 i=40 by omega];simp
 rw[hN];generalize ((l.take i).take 40).filter okV=L at hlen;have hap:bH L.length L.length 1 1 72=true:=bU (by omega) (by simp[maxLen];omega);simp only[rq,aW hi,aj,aO hi,aQ hi,ai,e40,qd,aG i];cases decide (i<40)with
 |false=>simp
 |true=>
  simp;cases okV l[i]with
  |false=>simp
  |true=>simp[hs,hap]
 simp[rq]
def ahU(n:Nat)(p:bn):Prop:=p.tables.length<n/\p.tables.length<=9223372036854775807/\∀t∈p.tables,t.rows.length<n/\t.rows.length<=9223372036854775807
def yV:ByteArray:=⟨#[115,101,116,98,97,99,107]⟩
def ari(n:Nat)(ts:List dJ)(A:List ax)(l:List aF):List bS:=[⟨⟨#[97,114,101,97]⟩,bif cQ A then ly A else 0⟩,⟨⟨#[99,111,118,101,114]⟩,SZ l⟩,⟨⟨#[102,108,111,111,114]⟩,Hb QV l⟩,⟨⟨#[102,108,111,111,114,115]⟩,PH Nx l⟩,⟨⟨#[104,101,105,103,104,116]⟩,PH (·.ek) l⟩,⟨⟨#[104,111,109,101,115]⟩,Hb (·.units) l⟩,⟨⟨#[114,117,110,111,102,102]⟩,SZ l⟩,⟨yV,uW A l⟩,⟨⟨#[116,114,97,102,102,105,99]⟩,Hb (ap3 n ts) l⟩]
theorem arj{p:bn}{lot:bW}{d:bf}(hp:ahU n p)(hl:lot.area.length<=900)(hd:TP d)(hn:2000000<=n):∀D Z R C V S H,jT n (bn.mk D p.tables Z R C V S H) lot d=some (ari n p.tables (pO lot) (fT d)):=by
 have hs1:pO lot=(bif cQ lot.area then lot.area else []):=rfl;have hsl:(pO lot).length<=900:=by unfold pO;cases cQ lot.area<;>simp[hl]
 have hvl:=ZB d;have hvo:=acN d;have hfl:=eJ hd.2;have hd1:=hd.1;obtain⟨hp1,hp2,hp3⟩:=hp;have hz:aE 0 ([]:List aF).length=true:=rfl;have I3:∀D Z R C V S H,((bif cQ lot.area then some (D,p.tables,Z,R,C,V,S,H,lot.area)else some (D,p.tables,Z,R,C,V,S,H,[])):Option ((List fB)×(List dJ)×(List eX)×(List cK)×(List jP)×(List iP)×(List dN)×Int×(List ax)))=some (D,p.tables,Z,R,C,V,S,H,pO lot):=by intro D Z R C V S H;rw[hs1];cases cQ lot.area<;>rfl
 have h2:=anx (n:=n) p.tables (pO lot) (a9:=fT d) (by omega) (by omega);have h3:=aqA (n:=n) p.tables (pO lot) (a9:=fT d) (by omega) (by omega);have h4:=anp (n:=n) p.tables (pO lot) (a9:=fT d) (by omega) (by omega);have h5:=anq (n:=n) p.tables (pO lot) (a9:=fT d) (by omega) (by omega);have h6:=aqB (n:=n) p.tables (pO lot) (a9:=fT d) (by omega) (by omega);have h8:=λD Z R C V S H=>ahT (n:=n) D p.tables Z R C V S H (a8:=pO lot) (a9:=fT d) hvo (by omega) (by omega) (by omega);have h9:=aqD (n:=n) p.tables (pO lot) (a9:=fT d) (by omega) (by omega) hvo hp1 hp2 hp3;intro D Z R C V S H;unfold jT;rw[kM (by omega) (by omega) (by omega),X7 hd (by omega)];simp[I3];rw[arh (n:=n) D p.tables Z R C V S H (pO lot) (by show(lF d).length<=_;unfold lF;omega) (by show(lF d).length<_;unfold lF;omega)];have hr:((lF d).take 40).filter okV=fT d:=rfl;have s1:∀e:bS,sub ([e]:List bS) 0 1=[e]:=λ_=>rfl;have ap:∀k,k<=20->bH k k 1 1 24=true:=λk hk=>bU (by omega) (by simp[maxLen];omega);have lot:nu n D p.tables Z R C V S H (pO lot) (fT d)=some (bif cQ (pO lot)then ly (pO lot)else 0,D,p.tables,Z,R,C,V,S,H,pO lot,fT d):=by unfold nu;rw[zF (by omega) (by omega)];simp
 simp[hr,lot,h2,h3,h4,ap 4 (by omega),h5,ap 5 (by omega),h6,ap 6 (by omega),h8,ap 7 (by omega),h9,ap 8 (by omega),Nat.reduceAdd,dY];rfl
theorem anz{p:bn}{lot:bW}{d:bf}(hp:ahU n p)(hl:lot.area.length<=900)(hd:TP d)(hn:2000000<=n):∃e1 e2 e3 e4 e5 e6 e7 e8:Int,∀D Z R C V S H,jT n (bn.mk D p.tables Z R C V S H) lot d=some [⟨⟨#[97,114,101,97]⟩,e1⟩,⟨⟨#[99,111,118,101,114]⟩,e2⟩,⟨⟨#[102,108,111,111,114]⟩,e3⟩,⟨⟨#[102,108,111,111,114,115]⟩,e4⟩,⟨⟨#[104,101,105,103,104,116]⟩,e5⟩,⟨⟨#[104,111,109,101,115]⟩,e6⟩,⟨⟨#[114,117,110,111,102,102]⟩,e7⟩,⟨yV,uW (pO lot) (fT d)⟩,⟨⟨#[116,114,97,102,102,105,99]⟩,e8⟩]:=⟨_,_,_,_,_,_,_,_,arj (n:=n) hp hl hd hn⟩
theorem ark{p:bn}{lot:bW}{d:bf}(hp:ahU n p)(hl:lot.area.length<=900)(hd:TP d)(hn:2000000<=n):∃e1 e2 e3 e4 e5 e6 e7 e8:Int,∀R:List cK,jT n (bn.mk p.defs p.tables p.zones R p.caps p.views p.vh p.hours) lot d=some [⟨⟨#[97,114,101,97]⟩,e1⟩,⟨⟨#[99,111,118,101,114]⟩,e2⟩,⟨⟨#[102,108,111,111,114]⟩,e3⟩,⟨⟨#[102,108,111,111,114,115]⟩,e4⟩,⟨⟨#[104,101,105,103,104,116]⟩,e5⟩,⟨⟨#[104,111,109,101,115]⟩,e6⟩,⟨⟨#[114,117,110,111,102,102]⟩,e7⟩,⟨yV,uW (pO lot) (fT d)⟩,⟨⟨#[116,114,97,102,102,105,99]⟩,e8⟩]:=by have⟨e1,e2,e3,e4,e5,e6,e7,e8,h⟩:=anz (n:=n) hp hl hd hn;exact⟨e1,e2,e3,e4,e5,e6,e7,e8,λR=>h _ _ R _ _ _ _⟩
theorem ajM(ds:List (ByteArray×ET)) s:∀(k:Nat) i,IU ds s k=some i->0<=i/\i<k
 | 0,i,h=>by simp[IU]at h
 |k+1,i,h=>by simp[IU]at h;split at h;cases h;omega;have:=ajM ds s k i h;omega
theorem ajN{ds:List (ByteArray×ET)}(h:rS ds<=4000000):QH (jq ds) ds.length:=by have hl:=U3 ds;refine⟨by simp[jq],by omega,λl hl=>?_⟩;simp only[jq,mem_map]at hl;obtain⟨d,hd,rfl⟩:=hl;have h1:=U4 hd;have h2:=ET.ll d.2;have h3:=Xo d.2.names;refine⟨Nat.le_trans (List.length_filterMap_le _ _) (by omega),λk hk=>?_⟩;simp[iA]at hk;obtain⟨s,_,hk⟩:=hk;exact ajM ds s _ k hk
theorem SY{M:List ByteArray}(hM:M.length<=1000)(hn:1001<=n)(w0:List (ByteArray×Bool)):∃w,iter (oL M) n (0,w0)=some w:=by obtain⟨o,h,_⟩:=dw (step:=oL M) (λ i (v:Int×List (ByteArray×Bool))=>∃w,v=((i:Int),w)/\i<=M.length) (λ _=>True) M.length (λ k v ⟨_,_,h⟩=>h) (by rintro i v ⟨w,rfl,hi⟩;by_cases hlt:i<M.length;simp only[oL,show decide ((i:Int)<M.length)=true from by simp;omega,aj,aO hlt,aQ hlt,ai,aG i];exact .inl ⟨_,rfl,_,rfl,hlt⟩;simp only[oL,show decide ((i:Int)<M.length)=false from by simp;omega,au];exact .inr ⟨_,rfl,trivial⟩) n 0 (0,w0) ⟨_,rfl,Nat.zero_le _⟩ (by omega);exact⟨o,h⟩
theorem S9{p:bn}(hp:p.defs.length<=4000000)(hn:4000001<=n)(w0:List (ByteArray×Bool)):iter (lI p) n (0,w0)=some (.inl ())\/iter (lI p) n (0,w0)=some (.inr ([],[],5)):=by
 obtain⟨o,h,h2⟩:=dw (step:=lI p) (λ i (v:Int×List (ByteArray×Bool))=>∃w,v=((i:Int),w)/\i<=p.defs.length) (λ o=>o=.inl ()\/o=.inr ([],[],5)) p.defs.length (λ k v ⟨_,_,h⟩=>h) (by
  rintro i v ⟨w,rfl,hi⟩;by_cases hlt:i<p.defs.length;simp only[lI,show decide ((i:Int)<p.defs.length)=true from by simp;omega,aj,aN hlt,ai,aG i];cases (dL Gb.gR p.defs[i].name w).getD false with
  |true=>exact .inr ⟨_,rfl,.inr rfl⟩
  |false=>exact .inl ⟨_,rfl,_,rfl,hlt⟩
  simp only[lI,show decide ((i:Int)<p.defs.length)=false from by simp;omega,au];exact .inr ⟨_,rfl,.inl rfl⟩) n 0 (0,w0) ⟨_,rfl,Nat.zero_le _⟩ (by omega)
 rcases h2 with rfl|rfl;exact .inl h;exact .inr h
theorem Ta:∃M,xJ=some M/\M.length=9:=⟨_,rfl,rfl⟩
def fX(l:List fB):Prop:=rS (l.map toD)<=4000000
theorem fX.len{l:List fB}(h:fX l):l.length<=4000000:=by have:=U3 (l.map toD);rw[length_map]at this;unfold fX at h;omega
theorem fX.body{l:List fB}(h:fX l){d:fB}(hd:d∈l):(toE (bP.mk d.eW d.gp d.fW d.ep d.c8)).wt<=4000000:=by have h1:=U4 (mem_map.2 ⟨d,hd,rfl⟩:toD d∈l.map toD);unfold fX at h;simp[toD,ET.wt]at h1;simp[toE,ET.wt];omega
theorem rY{p:bn}(hp:fX p.defs)(hn:5000003<=n):∃r,fQ n p=some r/\r.1.length<=p.defs.length/\(∀ k∈r.1,0<=k/\k<p.defs.length)/\r.2.1.length<=p.defs.length+1:=by
 obtain⟨M,hM,hM9⟩:=Ta;obtain⟨w,hw⟩:=SY (n:=n) (M:=M) (by omega) (by omega) [];have hg:QH (jq (p.defs.map toD)) p.defs.length:=by have:=ajN hp;rwa [length_map]at this
 have CD:iZ p.defs=some (p.defs,jq (p.defs.map toD)):=by unfold iZ;rw[Nat.ble_eq_true_of_le hp];rfl
 simp only[fQ,hM,ai,hw];rcases S9 (n:=n) (p:=p) hp.len (by omega) w with h|h;have⟨c,hc,hc2,hc3⟩:=SH (n:=n) (a0:=p.defs) hg rfl hn;simp only[h,dF,CD,ai,hc];cases h0:(c.length==0)with
 |true=>
  have e:c=[]:=List.eq_nil_of_length_eq_zero (by simpa using h0);obtain⟨l,hl,hll,hlr⟩:=ae4 (n:=n) (a0:=nW.mk p.defs (jq (p.defs.map toD))) hg rfl (hc2 e) (by omega);simp only[aj,ai,au,hl,dY,aH];exact⟨_,rfl,by simp[hll],hlr,by simp⟩
 |false=>
  simp only[aj,ai,au,dY,aH];exact⟨_,rfl,by simp,by simp,hc3⟩
 simp only[h,iy];exact⟨_,rfl,by simp,by simp,by simp⟩
theorem DF(x:bP):bP.mk x.op x.n x.s x.key x.args=x:=by cases x;rfl
theorem OY:∀l:List bP,IY l=l.map toE
 |[]=>rfl
 |x::xs=>by simp[IY,OY xs]
theorem ajO:∀{l:List ET}{t:ET},t∈l->t.wt<=ET.tE l
 |x::l,t,h=>by simp[ET.tE];rcases aR.1 h with rfl|h;omega;have:=ajO h;omega
theorem ahV{e x:bP}(h:x∈e.args):(toE x).wt<(toE e).wt:=by have h1:(toE x).wt<=ET.tE (IY e.args):=ajO (by rw[OY];exact mem_map.2 ⟨x,h,rfl⟩);cases e;simp[toE,ET.wt]at *;omega
theorem acO(e:bP):e.args.length<(toE e).wt:=by have h1:=ET.ro (IY e.args);rw[OY,length_map]at h1;cases e;simp[toE,ET.wt,OY]at *;omega
def VR:Nat->bP->Prop
 | 0,_=>False
 |k+1,e=>zq e.op=some ((e.args.length:Int),true)/\∀x∈e.args,VR k x
theorem ahW op:∃a b,zq op=some (a,b):=by simp only[zq];cases (op==0)<;>cases (op==1)<;>cases (op==2)<;>cases (op==3)<;>cases (op==9)<;>cases (op==15)<;>cases (op==16)<;>cases (decide (op>=0))<;>exact⟨_,_,rfl⟩
theorem abo(hn:4000002<=n):∀(m:Nat)(e:bP)(a:Int),m<=9223372036854775000->0<=a->a<=12->13<=a+m->(toE e).wt<=4000000->∃r,sZ n m e a=some r/\1<=r/\r<=13+m/\(r<=12->VR m e)
 | 0,_,_,_,_,_,h,_=>absurd h (by omega)
 |m+1,e,a,hm,h0,h1,h2,h3=>by
  have⟨x,b,hx⟩:=ahW e.op;have hla:=acO e;show ∃r,AR n (sZ n m) e a=some r/\_;simp[AR,hx];have bad:∃r,some (13:Int)=some r/\1<=r/\r<=13+(m+1:Nat)/\(r<=12->VR (m+1) e):=⟨13,rfl,by omega,by omega,λh=>absurd h (by omega)⟩;cases b with
  |false=>simpa[Bool.not_false,aj,ai]using bad
  |true=>
   simp;by_cases hxl:x=e.args.length;subst hxl;simp;by_cases ha:a>=12;simpa[ha,decide_true,aj]using bad;simp[ha]
   obtain⟨o,g1,g2,g3,g4⟩:=dw (step:=yB n (sZ n m) e a) (λ i (v:Int×Int)=>v.2=i/\i<=e.args.length/\0<=v.1/\v.1<=13+m/\(v.1<=11->∀y∈e.args.take i,VR m y))
    (λ o=>0<=o/\o<=13+m/\(o<=11->∀y∈e.args,VR m y)) e.args.length (λ k v h=>h.2.1) (by rintro i ⟨v2,v3⟩ ⟨hv,hi,i1,i2,i3⟩;simp at hv i1 i2 i3;subst hv;by_cases hlt:i<e.args.length;left;have hwx:=ahV (getElem_mem hlt);obtain⟨r,r1,r2,r3,r4⟩:=abo hn m e.args[i] (a+1) (by omega) (by omega) (by omega) (by omega) (by omega);refine⟨(max v2 r,(i+1:Nat)),?_,rfl,hlt,by show 0<=max v2 r;omega,by show max v2 r<=_;omega,λh y hy=>?_⟩;simp only[yB,show decide ((i:Int)<e.args.length)=true from by simp;omega,aj,aN hlt,ai,DF,dS (show -9223372036854775808<=a+1 by omega) (show a+1<=9223372036854775807 by omega),r1,aG i];have h':max v2 r<=11:=h;rw[List.take_add_one,dI hlt]at hy;rw[bV]at hy;rcases hy with hy|hy;exact i3 (by omega) y hy;simp at hy;subst hy;exact r4 (by omega);right;refine⟨v2,?_,i1,i2,λh y hy=>i3 h y (by rw[take_of_length_le (by omega)];exact hy)⟩;simp only[yB,show decide ((i:Int)<e.args.length)=false from by simp;omega,au]) n 0 (0,0) ⟨rfl,Nat.zero_le _,by simp,by show 0<=_;omega,by simp⟩ (by omega)
   simp only[g1,ai];rw[dS (by omega) (by omega)];exact⟨o+1,rfl,by omega,by omega,λh=>⟨hx,g4 (by omega)⟩⟩;simpa[show (x !=(e.args.length:Nat))=true from by simpa using hxl,aj,ai]using bad
theorem Td(hn:4000002<=n)(hn2:n<=9223372036854775000){e:bP}(h:(toE e).wt<=4000000):∃b,I7 n e=some b/\(b=true->VR n e):=by obtain⟨r,h1,h2,h3,h4⟩:=abo hn n e 0 hn2 (by omega) (by omega) (by omega) h;refine⟨decide (r<=12),?_,λh=>h4 (by simpa using h)⟩;simp[I7,DF,QF,h1]
def arl(tables:List dJ)(s key:ByteArray):Int:=match tables.find? λt=>ByteArray.toList t.name==ByteArray.toList s with
 |some t=>arb t key
 |none=>0
def R1(ts:List dJ):Prop:=ts.length<=4000000/\∀t∈ts,t.rows.length<=4000000
theorem alh(hn:4000002<=n){a0:List fB}{ts:List dJ}{a2:List eX}{a3:List cK}{a4:List jP}{a5:List iP}{a6:List dN}{a7:Int}{zs:List ByteArray}(ht:R1 ts)(e:bP)(kn:List (ByteArray×Int)):jN n a0 ts a2 a3 a4 a5 a6 a7 zs e kn=some (arl ts e.s e.key,kn):=by
 have h1:=ht.1;simp[jN];rw[Gp (λ t=>ByteArray.toList t.name==ByteArray.toList e.s) (λ x _=>rfl) (by omega) (by omega)];simp[arl];rcases XV (λ t:dJ=>ByteArray.toList t.name==ByteArray.toList e.s) ts with ⟨i,hi,h1,h2⟩|⟨h1,h2⟩;rw[h1,h2];have d:decide ((i:Int)<0)=false:=by simp
 have hr:=ht.2 _ (getElem_mem hi);simp[d,aN hi];rw[Gq (λ x=>ByteArray.toList x.name==ByteArray.toList e.key) (λ x _=>rfl) (by omega) (by omega)];simp[arb];rcases XV (λ x:bS=>ByteArray.toList x.name==ByteArray.toList e.key) ts[i].rows with ⟨j,hj,g1,g2⟩|⟨g1,g2⟩;rw[g1,g2];have d:decide ((j:Nat)>=0)=true:=by simp
 simp[aN hj];rw[g1,g2];rfl;rw[h1,h2];rfl
theorem cu{α:Type}{c:Bool}{x y:Option α}(hx:∃r,x=some r)(hy:∃r,y=some r):∃r,(bif c then x else y)=some r:=by cases c<;>assumption
theorem ZC(a b:Int):∃r,xk a b=some r:=by
 simp[xk];cases h:(b==0)with
 |true=>exact⟨_,rfl⟩
 |false=>
  have:(b !=0)=true:=by simp[bne,h]
  simp[this];cases (Int.tmod a b !=0)<;>cases (decide (Int.tmod a b<0)==decide (b<0))<;>exact⟨_,rfl⟩
theorem X9 b:∃r,zu b=some r:=cu ⟨_,rfl⟩ ⟨_,rfl⟩
theorem tH{α β:Type}{x:Option α}{f:α->Option β}(hx:∃r,x=some r)(hf:∀r,∃s,f r=some s):∃s,x.bind f=some s:=by obtain⟨r,rfl⟩:=hx;exact hf r
theorem afr(op a b:Int):∃r,Kt op a b=some r:=by
 have q:=ZC a b;have t:=λc=>X9 c;unfold Kt
 repeat' first
  |exact⟨_,rfl⟩
  |exact q
  |exact t _
  |apply cu
  |(refine tH ?_ λr=>?_)
theorem Js(h:0<n):cM 0 n=true:=by simp[cM];omega
theorem afs(h:1<n):cM 1 n=true:=by simp[cM];omega
theorem anA(h:2<n):cM 2 n=true:=by simp[cM];omega
theorem OZ{α:Type}{l:List α}(h:0<l.length):bj l ((0:Nat)+0)=some l[0]:=aQ (i:=0) h
theorem ajQ{α:Type}{l:List α}(h:1<l.length):bj l ((0:Nat)+1)=some l[1]:=aQ (i:=1) h
theorem apl{α:Type}{l:List α}(h:2<l.length):bj l ((0:Nat)+2)=some l[2]:=aQ (i:=2) h
theorem ZE{l:List ByteArray}{s:ByteArray}(hl:l.length<=4000000)(hn:4000002<=n):∃r,fV n l s=some r:=by
 obtain⟨o,h,_⟩:=dw (step:=og l s) (λ i v=>v=i/\i<=l.length) (λ _=>True) l.length (λ k v h=>h.2) (by
  rintro i v ⟨rfl,hi⟩;by_cases hlt:i<l.length;simp only[og,show decide ((i:Int)<l.length)=true from by simp;omega,aj,aN hlt,ai,aG i];cases (ByteArray.toList s==ByteArray.toList l[i])with
  |true=>exact .inr ⟨_,rfl,trivial⟩
  |false=>exact .inl ⟨_,rfl,rfl,hlt⟩
  simp only[og,show decide ((i:Int)<l.length)=false from by simp;omega,au];exact .inr ⟨_,rfl,trivial⟩) n 0 0 ⟨rfl,Nat.zero_le _⟩ (by omega)
 simp only[fV,rR,h];cases o with
 |inl u=>cases u;simp only[dF,ai];exact⟨_,rfl⟩
 |inr r=>simp only[iy,ai];exact⟨_,rfl⟩
theorem ali{op a:Int}(h0:(op==0)=false)(h1:(op==1)=false)(h2:(op==2)=false)(h3:(op==3)=false)(h9:(op==9)=false)(Pu:(op==15)=false)(h16:(op==16)=false)(h:zq op=some (a,true)):a=2:=by
 simp[zq,h0,h1,h2,h3,h9,Pu,h16]at h;cases hd:decide (op>=0)with
 |true=>rw[hd]at h;simp at h;exact h.1.symm
 |false=>rw[hd]at h;simp at h
section
variable {n:Nat} {a0:List fB} {ts:List dJ} {a2:List eX} {a3:List cK} {a4:List jP} {a5:List iP} {a6:List dN} {a7:Int} {zs:List ByteArray}
theorem Ya(hn:4000002<=n)(ht:R1 ts)(hz:zs.length<=4000000):∀(m:Nat)(e:bP)(kn:List (ByteArray×Int)),VR m e->(toE e).wt<=4000000->∃v,bZ n m a0 ts a2 a3 a4 a5 a6 a7 zs e kn=some (v,kn)
 | 0,_,_,h,_=>h.elim
 |m+1,e,kn,⟨ha,hr⟩,hw=>by
  have hla:=acO e;have hmx:maxLen=9223372036854775807:=rfl;show ∃v,fO n (bZ n m) a0 ts a2 a3 a4 a5 a6 a7 zs e kn=some (v,kn)
  obtain⟨o,h1,l,rfl,hl⟩:=dw (step:=fG n (bZ n m) a0 ts a2 a3 a4 a5 a6 a7 zs e) (λ i (v:Int×List (ByteArray×Int)×List Int)=>∃l,v=((i:Int),kn,l)/\i<=e.args.length/\l.length=i)
   (λ o=>∃l,o=(kn,l)/\l.length=e.args.length) e.args.length (λ k v ⟨_,_,h,_⟩=>h) (by
   rintro i v ⟨l,rfl,hi,hl⟩;by_cases hlt:i<e.args.length;left;have hwx:=ahV (getElem_mem hlt);obtain⟨x,hx⟩:=Ya hn ht hz m e.args[i] kn (hr _ (getElem_mem hlt)) (by omega);have key:∃b,((bif (e.op==(16:Int))then(bif (decide ((i:Int)>(0:Int)))then(ck (cM 0 l.length) ((bj l ((0:Nat)+0:Int)).bind λx2=>some (!((x2 !=(0:Int))==((i:Int)==1)))))else some false)else some false):Option (Bool))=some b:=(by refine cu ?_ ⟨_,rfl⟩;by_cases h0:(i:Int)>0;simp only[h0,decide_true,aj,Js (show 0<l.length by omega),OZ (show 0<l.length by omega),ai];exact⟨_,rfl⟩;simp only[h0,decide_false,au];exact⟨_,rfl⟩);obtain⟨b,hb⟩:=key;have hap:∀z:Int,bH l.length l.length (sub [z] 0 1).length 1 8=true:=λz=>(by simp[bH,sub];omega);simp only[fG,show decide ((i:Int)<e.args.length)=true from by simp;omega,aj,aN hlt,ai,hb,DF,hx,hap,dO,aH,aG i];cases b with
   |true|false=>exact⟨_,rfl,_,rfl,hlt,by simp[sub,hl]⟩
   right;refine⟨(kn,l),?_,l,rfl,by omega⟩;simp only[fG,show decide ((i:Int)<e.args.length)=false from by simp;omega,au,aH,aj]) n 0 (0,kn,[]) ⟨[],rfl,Nat.zero_le _,rfl⟩ (by omega)
  simp only[fO,length_nil,aH,aj,h1,ai,DF,alh hn ht];cases h0:(e.op==0)with
  |true=>exact⟨_,rfl⟩
  |false=>
  cases h1:(e.op==1)with
  |true=>exact⟨_,rfl⟩
  |false=>
  cases h2:(e.op==2)with
  |true=>exact⟨_,rfl⟩
  |false=>
  cases h3:(e.op==3)with
  |true=>
   have⟨r,hr⟩:=ZE (n:=n) (l:=zs) (s:=e.s) hz hn;have⟨r2,hr2⟩:=X9 r;simp only[au,aj,hr,hr2,ai];exact⟨_,rfl⟩
  |false=>
  cases h9:(e.op==9)with
  |true=>
   have e9:e.op=9:=(by simpa using h9);rw[e9]at ha;have:l.length=1:=(by have h:some (1,true)=some ((e.args.length:Int),true):=ha;simp at h;omega);simp only[au,aj,Js (show 0<l.length by omega),OZ (show 0<l.length by omega),ai];exact⟨_,rfl⟩
  |false=>
  cases Pu:(e.op==15)with
  |true=>
   have e15:e.op=15:=(by simpa using Pu);rw[e15]at ha;have:l.length=1:=(by have h:some (1,true)=some ((e.args.length:Int),true):=ha;simp at h;omega);obtain⟨r2,hr2⟩:=X9 (l[0]'(by omega)==0);simp only[au,aj,Js (show 0<l.length by omega),OZ (show 0<l.length by omega),ai,hr2];exact⟨_,rfl⟩
  |false=>
  cases h16:(e.op==16)with
  |true=>
   have e16:e.op=16:=(by simpa using h16);rw[e16]at ha;have:l.length=3:=(by have h:some (3,true)=some ((e.args.length:Int),true):=ha;simp at h;omega);simp only[au,aj,Js (show 0<l.length by omega),OZ (show 0<l.length by omega),afs (show 1<l.length by omega),ajQ (show 1<l.length by omega),anA (show 2<l.length by omega),apl (show 2<l.length by omega),ai];cases (l[0]'(by omega) !=0)<;>exact⟨_,rfl⟩
  |false=>
   have:l.length=2:=(by have:=ali h0 h1 h2 h3 h9 Pu h16 ha;omega);obtain⟨r,hr⟩:=afr e.op (l[0]'(by omega)) (l[1]'(by omega));simp only[au,aj,Js (show 0<l.length by omega),OZ (show 0<l.length by omega),afs (show 1<l.length by omega),ajQ (show 1<l.length by omega),ai,hr];exact⟨_,rfl⟩
end
theorem ahX{ms:List bS}(h:ms.length<=4000000)(hn:4000002<=n):∃o,iter (jy n ms) n (0,[],[])=some o:=by obtain⟨o,h,_⟩:=dw (step:=jy n ms) (λ i (v:Int×List (ByteArray×Int)×List (ByteArray×Bool))=>∃a b,v=((i:Int),a,b)/\i<=ms.length) (λ _=>True) ms.length (λ k v ⟨_,_,_,h⟩=>h) (by rintro i v ⟨a,b,rfl,hi⟩;by_cases hlt:i<ms.length;left;simp only[jy,show decide ((i:Int)<ms.length)=true from by simp;omega,aj,aN hlt,ai,aG i];cases (!((dL Gb.gR ms[i].name b).getD false))<;>exact⟨_,rfl,_,_,rfl,hlt⟩;right;simp only[jy,show decide ((i:Int)<ms.length)=false from by simp;omega,au];exact⟨_,rfl,trivial⟩) n 0 _ ⟨[],[],rfl,Nat.zero_le _⟩ (by omega);exact⟨o,h⟩
structure ahY(p:bn):Prop where
 defs:fX p.defs
 tabs:R1 p.tables
theorem acP(a b:ByteArray):Gb.gR a b=true↔a=b:=by unfold Gb.gR;rw[beq_iff_eq,ByteArray.toList_eq,ByteArray.toList_eq];exact⟨λ h=>ByteArray.ext (Array.toList_inj.1 h),λh=>by rw[h]⟩
theorem aft{V:Type}(k k':ByteArray)(v:V)(h:k≠k'):∀l:List (ByteArray×V),dL Gb.gR k (oI Gb.gR k' v l)=dL Gb.gR k l
 |[]=>by
  have:Gb.gR k k'=false:=by rw[Bool.eq_false_iff];exact λe=>h ((acP _ _).1 e)
  simp[oI,dL,this]
 |p::l=>by
  have e:Gb.gR k k'=false:=by rw[Bool.eq_false_iff];exact λe=>h ((acP _ _).1 e)
  have ih:=aft k k' v h l;simp[oI];cases c:Gb.gR k' p.1 with
  |true=>
   have:=(acP _ _).1 c;subst this;simp[dL,e]
  |false=>simp[dL,ih]
theorem Mw{p:bn}{ms:List bS}{zs:List ByteArray}(hp:ahY p)(hm:ms.length<=4000000)(hz:zs.length<=4000000)(hn:5000003<=n)(hn2:n<=9223372036854775000):∃kn out,mV n p ms zs=some (p.defs,p.tables,p.zones,p.rules,p.caps,p.views,p.vh,p.hours,zs,kn,out)/\out.length=p.defs.length/\∀w,iter (jy n ms) n (0,[],[])=some w->∀s,(dL Gb.gR s w.2).getD false=true->dL Gb.gR s kn=dL Gb.gR s w.1:=by
 obtain⟨⟨w1,w2⟩,hs1⟩:=ahX (n:=n) hm (by omega);have⟨r,hr,hrl,hrr,_⟩:=rY (n:=n) hp.defs hn;have hl:=hp.defs.len;have hmx:maxLen=9223372036854775807:=rfl;have hmk:xE p.defs.length 8=true:=by simp[xE];omega
 simp only[mV,hs1,ai,Int.le_refl,decide_true,Bool.true_and,show decide (0<=p.defs.length)=true from by simp,hmk,aj,hr];cases hb:(r.2.2 !=0)with
 |true=>
  simp only[aj,Int.toNat_natCast,List.length_replicate,aH];exact⟨_,_,rfl,by simp,λw hw s _=>by cases hw;rfl⟩
 |false=>
  obtain⟨o,h1,kn,out,rfl,h2,h3⟩:=dw (step:=iD n p zs w2 r) (λ i (v:Int×List (ByteArray×Int)×List Int)=>∃kn out,v=((i:Int),kn,out)/\i<=r.1.length/\out.length=p.defs.length/\∀s,(dL Gb.gR s w2).getD false=true->dL Gb.gR s kn=dL Gb.gR s w1)
   (λ o=>∃kn out,o=(kn,out)/\out.length=p.defs.length/\∀s,(dL Gb.gR s w2).getD false=true->dL Gb.gR s kn=dL Gb.gR s w1) r.1.length (λ k v ⟨_,_,_,h,_⟩=>h) (by
   rintro i v ⟨kn,out,rfl,hi,hol,hK⟩;by_cases hlt:i<r.1.length;left;have hk:=hrr r.1[i] (getElem_mem hlt);obtain⟨k,hk2⟩:=Int.eq_ofNat_of_zero_le hk.1;have hkd:k<p.defs.length:=(by omega);have hko:k<out.length:=(by omega);have hbw:=hp.defs.body (getElem_mem hkd);obtain⟨b,hb1,hb2⟩:=Td (n:=n) (by omega) hn2 hbw;simp only[iD,show decide ((i:Int)<r.1.length)=true from by simp;omega,aj,aO hlt,aQ hlt,ai,hk2,aN hkd,hb1,Int.toNat_natCast,aO hkd,aQ hko,aG i,show(((0:Nat):Int)+k).toNat=k by omega];have step2:∀(O2:List (ByteArray×Int)) out',out'.length=p.defs.length->(∀ s,(dL Gb.gR s w2).getD false=true->dL Gb.gR s O2=dL Gb.gR s w1)->∃IP,((bif (!((dL Gb.gR p.defs[k].name w2).getD false))then(bj out' ((0:Nat)+k:Int)).bind λx5=>some ((oI Gb.gR p.defs[k].name x5 O2),out')else some (O2,out')):Option ((List (ByteArray×Int))×(List Int)))=some (IP,out')/\∀s,(dL Gb.gR s w2).getD false=true->dL Gb.gR s IP=dL Gb.gR s w1:=by
    intro O2 out' ho hK;cases hc:(dL Gb.gR p.defs[k].name w2).getD false with
    |false=>
     simp only[Bool.not_false,aj,aQ (show k<out'.length by omega),ai];exact⟨_,rfl,λs hs=>by rw[aft _ _ _ (λ e=>by rw[e,hc]at hs;cases hs)];exact hK s hs⟩
    |true=>exact⟨_,rfl,hK⟩
   cases b with
   |true=>
    obtain⟨v,hv⟩:=Ya (n:=n) (a0:=p.defs) (a2:=p.zones) (a3:=p.rules) (a4:=p.caps) (a5:=p.views) (a6:=p.vh) (a7:=p.hours) (by omega) hp.tabs hz n _ kn (hb2 rfl) hbw;simp only[gK,hv,aj,ai];obtain⟨kn2,h2,h3⟩:=step2 kn (out.set k v) (by simp[hol]) hK;rw[h2];exact⟨_,rfl,_,_,rfl,hlt,by simp[hol],h3⟩
   |false=>
    simp only[au,ai];have⟨kn2,h2,h3⟩:=step2 kn out hol hK;rw[h2];exact⟨_,rfl,_,_,rfl,hlt,hol,h3⟩
   right;simp only[iD,show decide ((i:Int)<r.1.length)=false from by simp;omega,au];exact⟨_,rfl,_,_,rfl,hol,hK⟩) n 0 (0,w1,List.replicate p.defs.length 0) ⟨_,_,rfl,Nat.zero_le _,by simp,λ_ _=>rfl⟩ (by omega)
  simp only[au,Int.toNat_natCast,h1,ai,h2,aH,aj];exact⟨_,_,rfl,h2,λw hw=>by cases hw;exact h3⟩
theorem all_eq{d:bf}(h:TP d)(hn:1001<=n):sW n d=some (lF d):=by simp[sW,X7 h hn]
theorem ZF(a b:ByteArray)(h:a.size<=4000000):∃r,strings_Contains a b=some r:=by simp only[strings_Contains,Nat.ble_eq_true_of_le h,aj];exact⟨_,rfl⟩
theorem Te c:∃b,EZ c=some b:=cu ⟨_,rfl⟩ ⟨_,rfl⟩
theorem ahZ c:∃b,QE c=some b:=cu ⟨_,rfl⟩ ⟨_,rfl⟩
theorem alj c:∃b,AO c=some b:=tH (Te c) λ_=>cu ⟨_,rfl⟩ (tH (ahZ c) λ_=>⟨_,rfl⟩)
theorem afu{s:ByteArray}{i:Nat}(h:i<s.size):∃c,Si s i=some c:=by simp only[Si,show decide (0<=i)=true from by simp,aj,Int.toNat_natCast];rw[getElem?_pos s i h];exact⟨_,rfl⟩
theorem alk{s:ByteArray}{φ:(Int×Unit)->Option Bool}(h:∀c,∃b,φ (c,())=some b)(hs:s.size<=4000000)(hn:4000002<=n):∃r,Ox n s φ=some r:=by
 obtain⟨o,h1,_⟩:=dw (step:=AL s φ) (λ i v=>v=i/\i<=s.size) (λ _=>True) s.size (λ k v h=>h.2) (by
  rintro i v ⟨rfl,hi⟩;by_cases hlt:i<s.size;have⟨c,hc⟩:=afu hlt;have⟨b,hb⟩:=h c;simp only[AL,show decide ((i:Int)<s.size)=true from by simp;omega,aj,hc,ai,hb,aG i];cases b with
  |true=>exact .inl ⟨_,rfl,rfl,hlt⟩
  |false=>exact .inr ⟨_,rfl,trivial⟩
  simp only[AL,show decide ((i:Int)<s.size)=false from by simp;omega,au,ai];exact .inr ⟨_,rfl,trivial⟩) n 0 0 ⟨rfl,Nat.zero_le _⟩ (by omega)
 simp only[Ox,h1,ai];exact⟨_,rfl⟩
theorem alm(s:ByteArray)(hn:4000002<=n):∃b,Oy n s=some b/\(b=true->s.size<=20):=by
 simp only[Oy];cases h0:(ByteArray.toList s==ByteArray.toList (⟨#[]⟩))with
 |true=>exact⟨false,by simp,λh=>(by cases h)⟩
 |false=>
  have hs:0<s.size:=by refine Nat.pos_of_ne_zero λh=>?_;have:s=⟨#[]⟩:=(by obtain⟨⟨l⟩⟩:=s;have:l.length=0:=h;rw[List.eq_nil_of_length_eq_zero this]);rw[this]at h0;simp at h0
  have⟨c,hc⟩:=afu hs;have hc':Si s 0=some c:=hc;have⟨b,hb⟩:=Te c;simp only[au,hc',ai,hb];cases b with
  |false=>exact⟨false,by simp,λh=>(by cases h)⟩
  |true=>
   simp only[Bool.not_true,au,ai];by_cases h20:(s.size:Int)>20;exact⟨false,by simp[h20],λh=>(by cases h)⟩;obtain⟨r,hr⟩:=alk (n:=n) (s:=s) (φ:=λ(y1:Int×Unit)=>AO y1.1) (λ c=>alj c) (by omega) hn;simp only[h20,decide_false,au,hr,ai];exact⟨_,rfl,λ_=>by omega⟩
theorem aln(s:ByteArray)(hn:4000002<=n):∃b,xh n s=some b:=by
 have⟨b,hb,h20⟩:=alm (n:=n) s hn;simp only[xh,hb,ai];cases b with
 |false=>exact⟨_,rfl⟩
 |true=>
  have hs:=h20 rfl;have hmx:maxLen=9223372036854775807:=rfl;have c1:Wh (⟨#[32]⟩) s=true:=by have:(⟨#[32]⟩:ByteArray).size=1:=rfl;simp[Wh];omega
  have c2:Wh ((⟨#[32]⟩)++s) (⟨#[32]⟩)=true:=by have h1:(⟨#[32]⟩:ByteArray).size=1:=rfl;simp[Wh];omega
  simp only[aj,c1,c2];refine tH (ZF _ _ (Nat.le_of_ble_eq_true ?_)) λ_=>⟨_,rfl⟩
  kernel_rfl
theorem alo(a b:FF):∃r,yA a b=some r:=by unfold yA;rw[uV];exact cu (cu ⟨_,rfl⟩ ⟨_,rfl⟩) ⟨_,rfl⟩
theorem fE{l:List aF}{φ:(aF×Unit)->Option Bool}(p:aF->Bool)(h:∀x∈l,φ (x,())=some (p x))(hl:l.length<1099511627776)(hn:l.length<n):gG n l φ=some (l.any p):=by have:qO n l φ=some (xH p l):=fZ p h hl hn;simp[gG,this,xZ]
theorem yN{l:List aF}{φ:(aF×Unit)->Option Bool}(h:∀x∈l,∃b,φ (x,())=some b)(hl:l.length<1099511627776)(hn:l.length<n):gG n l φ=some (l.any λx=>(φ (x,())).getD false):=
 fE _ (λ x hx=>by have⟨b,hb⟩:=h x hx;rw[hb];rfl) hl hn
def Mz(d:bf):Prop:=∀p∈d.phases,p.gives.length<=1000
theorem ah0{l:List aF}(hl:l.length<=1000000)(hn:4000002<=n):iter (gm n l) n 0=some (.inr false)\/(iter (gm n l) n 0=some (.inl ())/\∀v∈l,okV v=true):=by
 obtain⟨o,h1,h2⟩:=dw (step:=gm n l) (λ i v=>v=i/\i<=l.length/\∀x∈l.take i,okV x=true) (λ o=>o=.inr false\/(o=.inl ()/\∀v∈l,okV v=true)) l.length (λ k v h=>h.2.1) (by
  rintro i v ⟨rfl,hi,hall⟩;by_cases hlt:i<l.length;simp only[gm,show decide ((i:Int)<l.length)=true from by simp;omega,aj,aO hlt,aQ hlt,ai,qd,aG i];cases hv:okV l[i]with
  |false=>exact .inr ⟨_,by simp only[Bool.not_false,aj,ai];rfl,.inl rfl⟩
  |true=>
   have hsub:(sub l 0 i).length=i:=(by simp[sub];omega);have hc:=yN (n:=n) (l:=sub l 0 i) (φ:=λ(y1:aF×Unit)=>oO y1.1 l[i]) (λ x _=>tH (alo _ _) λ_=>⟨_,rfl⟩) (by omega) (by omega);simp[o7 (show 0<=0 by omega) (show (0:Int)<=i by omega) (show (i:Int)<=l.length by omega),EL hsub,hc];cases ((sub l 0 i).any λx=>((λ (y1:aF×Unit)=>oO y1.1 l[i]) (x,())).getD false)with
   |true=>exact .inr ⟨_,rfl,.inl rfl⟩
   |false=>
    refine .inl ⟨_,rfl,rfl,hlt,λx hx=>?_⟩;rw[List.take_add_one,dI hlt,bV]at hx;rcases hx with hx|hx;exact hall x hx;simp at hx;subst hx;exact hv
  refine .inr ⟨.inl (),?_,.inr ⟨rfl,λv hv=>hall v (by rw[take_of_length_le (by omega)];exact hv)⟩⟩;simp only[gm,show decide ((i:Int)<l.length)=false from by simp;omega,au]) n 0 0 ⟨rfl,Nat.zero_le _,by simp⟩ (by omega)
 rcases h2 with rfl|⟨rfl,h2⟩;exact .inl h1;exact .inr ⟨h1,h2⟩
theorem ah1{p:pF}(hp:p.gives.length<=1000)(hn:4000002<=n):iter (jR n p) n (0,[])=some (.inl ())\/iter (jR n p) n (0,[])=some (.inr (.inr (.inr false))):=by
 obtain⟨o,h1,h2⟩:=dw (step:=jR n p) (λ i (v:Int×List (ByteArray×Bool))=>∃m,v=((i:Int),m)/\i<=p.gives.length) (λ o=>o=.inl ()\/o=.inr (.inr (.inr false))) p.gives.length (λ k v ⟨_,_,h⟩=>h) (by
  rintro i v ⟨m,rfl,hi⟩;by_cases hlt:i<p.gives.length;have key:∃b,((bif ((dL Gb.gR p.gives[i].name m).getD false)then some true else(xh n p.gives[i].name).bind λr4=>(bif (!r4)then some true else(bif (decide (p.gives[i].n<0))then some true else some (decide (p.gives[i].n>1073741824))))):Option (Bool))=some b:=
   cu ⟨_,rfl⟩ (tH (aln _ hn) λ_=>cu ⟨_,rfl⟩ (cu ⟨_,rfl⟩ ⟨_,rfl⟩))
  obtain⟨b,hb⟩:=key;simp only[jR,show decide ((i:Int)<p.gives.length)=true from by simp;omega,aj,aN hlt,ai,hb,aG i];cases b with
  |true=>exact .inr ⟨_,rfl,.inr rfl⟩
  |false=>exact .inl ⟨_,rfl,_,rfl,hlt⟩
  simp only[jR,show decide ((i:Int)<p.gives.length)=false from by simp;omega,au];exact .inr ⟨_,rfl,.inl rfl⟩) n 0 _ ⟨[],rfl,Nat.zero_le _⟩ (by omega)
 rcases h2 with rfl|rfl;exact .inl h1;exact .inr h1
theorem ah2{d:bf}(hd:TP d)(hg:Mz d)(hn:4000002<=n):iter (gq n d) n 0=some (.inl ())\/iter (gq n d) n 0=some (.inr false):=by
 have hd1:=hd.1;obtain⟨o,h1,h2⟩:=dw (step:=gq n d) (λ i v=>v=i/\i<=d.phases.length) (λ o=>o=.inl ()\/o=.inr false) d.phases.length (λ k v h=>h.2) (by
  rintro i v ⟨rfl,hi⟩;by_cases hlt:i<d.phases.length;simp only[gq,show decide ((i:Int)<d.phases.length)=true from by simp;omega,aj,aN hlt,ai,aG i];rcases ah1 (n:=n) (hg _ (getElem_mem hlt)) hn with h|h;simp[h];cases decide ((d.phases[i].gives.length:Int)>30)with
  |true=>exact .inr ⟨_,rfl,.inr rfl⟩
  |false=>exact .inl ⟨_,rfl,rfl,hlt⟩
  simp only[h,iy];exact .inr ⟨_,rfl,.inr rfl⟩;simp only[gq,show decide ((i:Int)<d.phases.length)=false from by simp;omega,au];exact .inr ⟨_,rfl,.inl rfl⟩) n 0 0 ⟨rfl,Nat.zero_le _⟩ (by omega)
 rcases h2 with rfl|rfl;exact .inl h1;exact .inr h1
theorem KE{d:bf}(hd:TP d):(lF d).length<=1000000:=by have:=eJ hd.2;have:=hd.1;unfold lF;omega
theorem apm{d:bf}(hd:TP d)(hg:Mz d)(hn:4000002<=n):∃b,qC n d=some b/\(b=true->∀v∈lF d,okV v=true):=by
 simp only[qC,all_eq hd (show 1001<=n by omega),ai];have key:∀c1 c2 c3 c4 c5 c6:Bool,∃b,((bif c1 then some true else(bif c2 then some true else(bif c3 then some true else(bif c4 then some true else(bif c5 then some true else some c6))))):Option Bool)=some b:=by intro c1 c2 c3 c4 c5 c6;exact cu ⟨_,rfl⟩ (cu ⟨_,rfl⟩ (cu ⟨_,rfl⟩ (cu ⟨_,rfl⟩ (cu ⟨_,rfl⟩ ⟨_,rfl⟩))))
 have⟨b,hb⟩:=key (decide (d.lot<0)) (decide (d.lot>1073741824)) (decide ((d.phases.length:Int)<1)) (decide ((d.phases.length:Int)>8)) (decide (((lF d).length:Int)<1)) (decide (((lF d).length:Int)>40));rw[hb];cases b with
 |true=>exact⟨false,rfl,λh=>(by cases h)⟩
 |false=>
  simp only[ai,au];rcases ah0 (n:=n) (KE hd) hn with h|⟨h,hall⟩;simp only[h,iy];exact⟨false,rfl,λh=>(by cases h)⟩;simp only[h,dF];rcases ah2 (n:=n) hd hg hn with h2|h2;simp only[h2,dF];exact⟨true,rfl,λ_=>hall⟩;simp only[h2,iy];exact⟨false,rfl,λh=>(by cases h)⟩
theorem FI{l:List jP}{φ:(jP×Unit)->Option Bool}(p:jP->Bool)(h:∀x∈l,φ (x,())=some (p x))(hl:l.length<1099511627776)(hn:l.length<n):nk n l φ=some (l.any p):=by have:vO n l φ=some (xH p l):=fZ p h hl hn;simp[nk,this,xZ]
theorem anC{lot:bW}{l:List aF}(ha:lot.area.length<=900)(hv:∀v∈l,okV v=true)(hl:l.length<=1000000)(hn:4000002<=n):iter (fK n lot l) n 0=some (.inl ())\/iter (fK n lot l) n 0=some (.inr false):=by
 obtain⟨o,h1,h2⟩:=dw (step:=fK n lot l) (λ i v=>v=i/\i<=l.length) (λ o=>o=.inl ()\/o=.inr false) l.length (λ k v h=>h.2) (by
  rintro i v ⟨rfl,hi⟩;by_cases hlt:i<l.length;have hb:=X6 (hv _ (getElem_mem hlt));have hcl:=yL (keep:=λp q=>p&&q) lot.area [iG l[i]];have hc:=yK (n:=n) (a:=lot.area) (b:=[iG l[i]]) (by omega) (by simp) (by omega) (by simp;omega) (by omega);have hA:=zF (n:=n) (a:=(df (λ p q=>p&&q) lot.area [iG l[i]]).1) (by omega) (by omega);have hr:=yU hb;simp[iG]at hc hA hr;simp only[fK,show decide ((i:Int)<l.length)=true from by simp;omega,aj,aO hlt,aQ hlt,ai,show ∀r:ax,sub [r] 0 1=[r]from λ_=>rfl,List.length_singleton,aH,hc,hA,hr,aG i];have key:∀c x:Bool,∃b,((bif c then some true else some x):Option Bool)=some b:=λc x=>cu ⟨_,rfl⟩ ⟨_,rfl⟩;obtain⟨b,hb2⟩:=key ((df (λ p q=>p&&q) lot.area [⟨l[i].bu,l[i].cw,l[i].br,l[i].ct⟩]).2 !=0) (decide ((bif cQ (df (λ p q=>p&&q) lot.area [⟨l[i].bu,l[i].cw,l[i].br,l[i].ct⟩]).1 then ly (df (λ p q=>p&&q) lot.area [⟨l[i].bu,l[i].cw,l[i].br,l[i].ct⟩]).1 else 0)<XW ⟨l[i].bu,l[i].cw,l[i].br,l[i].ct⟩));rw[hb2];cases b with
  |true=>exact .inr ⟨_,rfl,.inr rfl⟩
  |false=>exact .inl ⟨_,rfl,rfl,hlt⟩
  simp only[fK,show decide ((i:Int)<l.length)=false from by simp;omega,au];exact .inr ⟨_,rfl,.inl rfl⟩) n 0 0 ⟨rfl,Nat.zero_le _⟩ (by omega)
 rcases h2 with rfl|rfl;exact .inl h1;exact .inr h1
theorem anD{p:bn}{ph:pF}(hc:p.caps.length<=4000000)(hp:ph.gives.length<=1000)(hn:4000002<=n):iter (jw n p ph) n 0=some (.inl ())\/iter (jw n p ph) n 0=some (.inr (.inr (.inr false))):=by
 obtain⟨o,h1,h2⟩:=dw (step:=jw n p ph) (λ i v=>v=i/\i<=ph.gives.length) (λ o=>o=.inl ()\/o=.inr (.inr (.inr false))) ph.gives.length (λ k v h=>h.2) (by
  rintro i v ⟨rfl,hi⟩;by_cases hlt:i<ph.gives.length;simp only[jw,show decide ((i:Int)<ph.gives.length)=true from by simp;omega,aj,aN hlt,ai,FI (n:=n) (l:=p.caps) (φ:=λ(y1:jP×Unit)=>vN y1.1 ph.gives[i]) (λ c=>ByteArray.toList c.name==ByteArray.toList ph.gives[i].name) (λ _ _=>rfl) (by omega) (by omega),aG i];cases (p.caps.any λc=>ByteArray.toList c.name==ByteArray.toList ph.gives[i].name)with
  |false=>exact .inr ⟨_,rfl,.inr rfl⟩
  |true=>exact .inl ⟨_,rfl,rfl,hlt⟩
  simp only[jw,show decide ((i:Int)<ph.gives.length)=false from by simp;omega,au];exact .inr ⟨_,rfl,.inl rfl⟩) n 0 0 ⟨rfl,Nat.zero_le _⟩ (by omega)
 rcases h2 with rfl|rfl;exact .inl h1;exact .inr h1
theorem anE{p:bn}{d:bf}(hc:p.caps.length<=4000000)(hd:TP d)(hg:Mz d)(hn:4000002<=n):iter (fM n p d) n 0=some (.inl ())\/iter (fM n p d) n 0=some (.inr false):=by have hd1:=hd.1;obtain⟨o,h1,h2⟩:=dw (step:=fM n p d) (λ i v=>v=i/\i<=d.phases.length) (λ o=>o=.inl ()\/o=.inr false) d.phases.length (λ k v h=>h.2) (by rintro i v ⟨rfl,hi⟩;by_cases hlt:i<d.phases.length;simp only[fM,show decide ((i:Int)<d.phases.length)=true from by simp;omega,aj,aN hlt,ai,aG i];rcases anD (n:=n) hc (hg _ (getElem_mem hlt)) hn with h|h;simp only[h,dF];exact .inl ⟨_,rfl,rfl,hlt⟩;simp only[h,iy];exact .inr ⟨_,rfl,.inr rfl⟩;simp only[fM,show decide ((i:Int)<d.phases.length)=false from by simp;omega,au];exact .inr ⟨_,rfl,.inl rfl⟩) n 0 0 ⟨rfl,Nat.zero_le _⟩ (by omega);rcases h2 with rfl|rfl;exact .inl h1;exact .inr h1
theorem alp{p:bn}{lot:bW}{d:bf}(hc:p.caps.length<=4000000)(ha:lot.area.length<=900)(hd:TP d)(hg:Mz d)(hn:4000002<=n):∃b,kK n p lot d=some b/\(b=true->∀v∈lF d,okV v=true):=by
 have⟨b,hb,hv⟩:=apm (n:=n) hd hg hn;simp only[kK,hb,ai];cases b with
 |false=>exact⟨false,by simp,λh=>(by cases h)⟩
 |true=>
  simp only[Bool.not_true,au,kM (n:=n) (l:=lot.area) (by omega) (by omega) (by omega),ai];cases (lot.id !=d.lot)with
  |true=>exact⟨false,by simp,λh=>(by cases h)⟩
  |false=>
   cases cQ lot.area with
   |false=>exact⟨false,by simp,λh=>(by cases h)⟩
   |true=>
    simp only[Bool.not_true,au,ai,all_eq hd (show 1001<=n by omega)];rcases anC (n:=n) ha (hv rfl) (KE hd) hn with h|h;simp only[h,dF];rcases anE (n:=n) hc hd hg hn with h2|h2;simp only[h2,dF];exact⟨true,rfl,λ_=>hv rfl⟩;simp only[h2,iy];exact⟨false,rfl,λh=>(by cases h)⟩;simp only[h,iy];exact⟨false,rfl,λh=>(by cases h)⟩
theorem apn{p:bn}{ms:List bS}{zs:List ByteArray}{e:bP}(hp:ahY p)(hm:ms.length<=4000000)(hz:zs.length<=4000000)(he:(toE e).wt<=4000000)(hn:5000003<=n)(hn2:n<=9223372036854775000):∃v,yC n p ms zs e=some v:=by
 obtain⟨b,hb,hv⟩:=Td (n:=n) (by omega) hn2 he;simp[yC,DF,hb];cases b with
 |false=>exact⟨_,rfl⟩
 |true=>
  have⟨kn,out,h1,_⟩:=Mw (n:=n) hp hm hz hn hn2;obtain⟨v,h2⟩:=Ya (n:=n) (a0:=p.defs) (a2:=p.zones) (a3:=p.rules) (a4:=p.caps) (a5:=p.views) (a6:=p.vh) (a7:=p.hours) (by omega) hp.tabs hz n e kn (hv rfl) he;simp only[Bool.not_true,au,h1,ai,gK,h2];exact⟨_,rfl⟩
section
variable {n:Nat} {d:List fB} {ts:List dJ} {z z':List eX} {r r':List cK} {c c':List jP} {v v':List iP} {su s6:List dN} {h h':Int} {zs:List ByteArray}
theorem Jt:∀(m:Nat)(e:bP)(kn:List (ByteArray×Int)),bZ n m d ts z r c v su h zs e kn=bZ n m d ts z' r' c' v' s6 h' zs e kn
 | 0,_,_=>rfl
 |m+1,e,kn=>by
  have ih:=Jt m;have hs:fG n (bZ n m) d ts z r c v su h zs e=fG n (bZ n m) d ts z' r' c' v' s6 h' zs e:=by funext ⟨v1,v2,v3⟩;simp only[fG,ih]
  have hr:∀w,jN n d ts z r c v su h zs e w=jN n d ts z' r' c' v' s6 h' zs e w:=λ_=>rfl;show fO n (bZ n m) d ts z r c v su h zs e kn=fO n (bZ n m) d ts z' r' c' v' s6 h' zs e kn;simp only[fO,hs,DF,hr]
theorem ah3{ms:List bS}:(mV n (bn.mk d ts z r c v su h) ms zs).map (λ q=>q.2.2.2.2.2.2.2.2.2)=(mV n (bn.mk d ts z' r' c' v' s6 h') ms zs).map (λ q=>q.2.2.2.2.2.2.2.2.2):=by
 have hs:∀w2 r1,iD n (bn.mk d ts z r c v su h) zs w2 r1=iD n (bn.mk d ts z' r' c' v' s6 h') zs w2 r1:=by intro w2 r1;funext ⟨v6,v7,v8⟩;have hv:∀e kn,gK n d ts z r c v su h zs e kn=gK n d ts z' r' c' v' s6 h' zs e kn:=λe kn=>Jt n e kn;simp only[iD,hv]
 have ho:fQ n (bn.mk d ts z r c v su h)=fQ n (bn.mk d ts z' r' c' v' s6 h'):=rfl;simp only[mV,hs,ho];cases iter (jy n ms) n (0,([]:(List (ByteArray×Int))),([]:(List (ByteArray×Bool))))with
 |none=>rfl
 |some w=>
  obtain⟨w1,w2⟩:=w;simp only[ai];cases (decide ((d.length:Int)<=d.length)&&(decide (0<=(d.length:Int))&&xE d.length 8))with
  |false=>rfl
  |true=>
   simp only[aj];cases fQ n (bn.mk d ts z' r' c' v' s6 h')with
   |none=>rfl
   |some r1=>
    simp only[ai];cases (r1.2.2 !=0)with
    |true=>
     simp only[aj];cases aE ((d.length:Int).toNat) (List.replicate (d.length:Int).toNat (0:Int)).length<;>rfl
    |false=>
     simp only[au];cases iter (iD n (bn.mk d ts z' r' c' v' s6 h') zs w2 r1) n (0,w1,(List.replicate (d.length:Int).toNat 0))with
     |none=>rfl
     |some q=>
      obtain⟨w3,w4⟩:=q;simp only[ai];cases aE ((d.length:Int).toNat) w4.length<;>rfl
theorem ah4{ms:List bS}{e:bP}(hp:fX d)(ht:R1 ts)(hm:ms.length<=4000000)(hz:zs.length<=4000000)(hn:5000003<=n)(hn2:n<=9223372036854775000):yC n (bn.mk d ts z r c v su h) ms zs e=yC n (bn.mk d ts z' r' c' v' s6 h') ms zs e:=by have⟨kn,out,h1,_⟩:=Mw (n:=n) (p:=bn.mk d ts z r c v su h) ⟨hp,ht⟩ hm hz hn hn2;have⟨kn2,out2,h2,_⟩:=Mw (n:=n) (p:=bn.mk d ts z' r' c' v' s6 h') ⟨hp,ht⟩ hm hz hn hn2;have h3:=ah3 (n:=n) (d:=d) (ts:=ts) (z:=z) (z':=z') (r:=r) (r':=r') (c:=c) (c':=c') (v:=v) (v':=v') (su:=su) (s6:=s6) (h:=h) (h':=h') (zs:=zs) (ms:=ms);rw[h1,h2]at h3;simp only[Option.map_some,aZ,Prod.mk.injEq]at h3;obtain⟨rfl,rfl⟩:=h3;simp only[yC,h1,h2,ai,gK,Jt (z:=z) (z':=z') (r:=r) (r':=r') (c:=c) (c':=c') (v:=v) (v':=v') (su:=su) (s6:=s6) (h:=h) (h':=h')]
end
theorem TQ{b:ax}{l:List eH}{s:List gQ}(ha:∀c∈s,c.area.length<=200)(hs:s.length<=1000)(hl:l.length<=1000)(hn:2000<=n):
 yG n b l s=some (Fx b l&&(Fy s&&!(s.any λc=>decide (PJ b l c.area<c.z1)))):=by
 unfold yG;rw[X0 b l hl hn];simp;cases hv:Fx b l with
 |false=>simp
 |true=>
  have⟨v1,v2⟩:=(afi b l).1 hv;simp[SV (n:=n) (s:=s) (λ x hx=>by have:=ha x hx;omega) (by omega)];cases hr:Fy s with
  |false=>simp
  |true=>
   have⟨_,sok,_⟩:=(X5 s).1 hr;simp;rw[tF (λ c=>decide (PJ b l c.area<c.z1)) (λ c hc=>by have:=ha c hc;show rV n c b l=_;unfold rV;rw[TN v1 v2 (uT (sok c hc).rt).1 (by omega) hl hn];rfl) (by omega) (by omega)];simp
def vT(v:aF):List gQ:=[⟨v.fg,v.ek,[iG v]⟩]
theorem afv(v:aF):yD v=some (vT v):=rfl
def Vf(b:ax)(p:eH)(v:aF):Bool:=Fx b [p]&&(Fy (vT v)&&!((vT v).any λc=>decide (PJ b [p] c.area<c.z1)))
def Yb(r:cK):eH:=eH.mk r.jn r.jp r.kA r.kB
theorem acQ(v:aF)(b:ax)(r:cK)(hn:2000<=n):kz n v b r=some (!Vf b (Yb r) v):=by have h:=TQ (n:=n) (b:=b) (l:=[Yb r]) (s:=vT v) (by simp[vT]) (by simp[vT]) (by simp) hn;unfold Yb at h;have hl:(vT v).length=1:=rfl;simp[kz,afv,show ∀x:eH,sub [x] 0 1=[x]from λ_=>rfl,h,Vf];rfl
def R0(r:cK)(v:aF):Bool:=bits .and .i64 r.uses (i64.wrap (1*2 ^ v.use.toNat))==0
theorem acR{v:aF}(h:okV v=true)(r:cK):kC v r=some (R0 r v):=by
 have hu:0<=v.use/\v.use<6:=by simp[okV]at h;omega
 have hb:i64.bits=64:=rfl;simp[kC,R0,show(decide (0<=v.use)&&decide (v.use<=i64.bits))=true from by simp;omega]
def SU(lot:Int)(r:cK)(v:aF)(b:jJ):Bool:=(dV b (mK.mk [] [] [] [] [] [] [] 0 [] [] [] [] [] 0 0 [] [] lot [] [] []) v r).getD false
theorem afw{b:jJ}{s:mK}{v:aF}{r:cK}:dV b s v r=some (SU s.eo r v b):=by
 have key:∃x,dV b (mK.mk [] [] [] [] [] [] [] 0 [] [] [] [] [] 0 0 [] [] s.eo [] [] []) v r=some x:=by simp only[dV,iU,anj,ai];refine tH (cu ⟨_,rfl⟩ (cu ⟨_,rfl⟩ (cu ⟨_,rfl⟩ ⟨_,rfl⟩))) λ_=>cu ⟨_,rfl⟩ (tH (cu (cu ⟨_,rfl⟩ (cu ⟨_,rfl⟩ ⟨_,rfl⟩)) (cu ⟨_,rfl⟩ ⟨_,rfl⟩)) λ_=>cu ⟨_,rfl⟩ ⟨_,rfl⟩)
 have e:dV b s v r=dV b (mK.mk [] [] [] [] [] [] [] 0 [] [] [] [] [] 0 0 [] [] s.eo [] [] []) v r:=rfl;obtain⟨x,hx⟩:=key;rw[e,SU,hx];rfl
theorem Ac{l:List jJ}{φ:(jJ×Unit)->Option Bool}(p:jJ->Bool)(h:∀x∈l,φ (x,())=some (p x))(hl:l.length<1099511627776)(hn:l.length<n):kD n l φ=some (l.any p):=by have:qU n l φ=some (xH p l):=fZ p h hl hn;simp[kD,this,xZ]
def SR(built:List jJ)(lot:Int)(r:cK)(v:aF):Bool:=built.any (SU lot r v)
theorem acU{s:mK}{v:aF}{r:cK}(hb:s.du.length<=1000)(hn:2000<=n):kE n v s r=some (SR s.du s.eo r v):=by simp[kE,sH,Ac (n:=n) (l:=s.du) (φ:=λ(y1:jJ×Unit)=>dV y1.1 s v r) (SU s.eo r v) (λ x _=>afw) (by omega) (by omega),SR]
def ld(r:cK):bP:=bP.mk r.lw r.m8 r.m7 r.ky r.gO
def j7(t:bR):bn:=bn.mk t.cj t.bp t.aw [] t.cm t.b8 t.cD t.b9
structure vU(t:bR):Prop where
 lots:∀l∈t.land,Fm l
 land:t.land.length<=1000
 E0:t.cC.length<=900/\∀e∈t.cC,e.area.length<=900
 built:t.built.length<=1000
 zones:t.aw.length<=100
 caps:t.cm.length<=4000000
 rules:t.az.length<=100
 rule:∀r∈t.az,QU r/\(toE (ld r)).wt<=4000000
 plan:ahY (j7 t)
def yv(d:bf):Prop:=TP d/\Mz d
def O1(n:Nat):Prop:=5000003<=n/\n<=9223372036854775000
def iq(t:bR)(lot:bW):List ByteArray:=G0 t.aw lot.area
def tg(t:bR)(lot:bW)(d:bf):mK:=mK.mk t.cj t.bp t.aw t.az t.cm t.b8 t.cD t.b9 t.land t.cC t.windows t.built t.base lot.id lot.owner lot.area lot.from_ d.lot d.phases (lF d) (iq t lot)
theorem anF{d:bf}(h:TP d)(hn:1001<=n):uF n d=some (lF d):=by obtain⟨h1,h2⟩:=h;unfold uF;have key:=iF (step:=pM d) (λ i=>(i,(d.phases.take i).flatMap (·.cP))) (s:=(0,[])) d.phases.length (lF d) rfl (λ i hi=>by have hl:=eJ (l:=d.phases.take i) λp hp=>h2 p (List.mem_of_mem_take hp);rw[length_take]at hl;have hv:=h2 _ (getElem_mem hi);generalize hL:(d.phases.take i).flatMap (·.cP)=L at hl;have hap:bH L.length L.length d.phases[i].cP.length d.phases[i].cP.length 72=true:=bU (by omega) (by simp[maxLen];omega);simp only[pM,aW hi,aj,aN hi,ai,hap,dO,aH,aG i];rw[jl hi,List.flatMap_append,hL];simp) (by simp[pM,lF]) n (by omega);have hz:aE 0 ([]:List aF).length=true:=rfl;simp[key]
def RW(n:Nat)(t:bR)(d:bf):Bool:=(kK n (j7 t) (kG t.land d.lot).1 d).getD false
def BU(n:Nat)(t:bR)(d:bf):Int:=bif(kG t.land d.lot).2 then(bif RW n t d then 0 else 1)else 4
def arn:mK:=mK.mk ([]) ([]) ([]) ([]) ([]) ([]) ([]) 0 ([]) ([]) ([]) ([]) ([]) 0 0 ([]) ([]) 0 ([]) ([]) ([])
theorem look_eq{t:bR}{d:bf}(ht:vU t)(hd:yv d)(hn:O1 n):AP n t d=some (bif BU n t d==0 then tg t (kG t.land d.lot).1 d else arn,BU n t d)/\(BU n t d=0->∀v∈lF d,okV v=true):=by
 obtain⟨hn1,hn2⟩:=hn;have hl:=ht.land;have e1:Ow n t.land d.lot=some (kG t.land d.lot):=ald ht.lots (by omega) (by omega);have hw:=abm ht.lots d.lot;obtain⟨b,hb,hv⟩:=alp (n:=n) (p:=j7 t) (lot:=(kG t.land d.lot).1) (d:=d) ht.caps hw.1 hd.1 hd.2 (by omega);have e2:kK n (bn.mk t.cj t.bp t.aw t.az t.cm t.b8 t.cD t.b9) (kG t.land d.lot).1 d=some b:=hb;have e3:pq n (bn.mk t.cj t.bp t.aw t.az t.cm t.b8 t.cD t.b9) (kG t.land d.lot).1.area=some (G0 t.aw (kG t.land d.lot).1.area):=Fw _ _ ht.zones hw.1 (by omega);have e4:RW n t d=b:=by unfold RW;rw[hb];rfl
 simp[AP,e1,e2,e3,anF hd.1 (show 1001<=n by omega),BU,e4];cases (kG t.land d.lot).2 with
 |false=>exact⟨rfl,λh=>absurd (show (4:Int)=0 from h) (by decide)⟩
 |true=>
  cases b with
  |false=>exact⟨rfl,λh=>absurd (show (1:Int)=0 from h) (by decide)⟩
  |true=>exact⟨rfl,λ_=>hv rfl⟩
def RR(n:Nat)(t:bR)(lot:bW)(d:bf)(r:cK):Bool:=((jT n (j7 t) lot d).bind λms=>yC n (j7 t) ms (iq t lot) (ld r)).getD 1==0
def yr(n:Nat)(t:bR)(lot:bW)(d:bf)(r:cK):Bool:=
 bif r.kind==0 then RR n t lot d r else bif r.kind==1 then(lF d).any (λ v=>!Vf (qE lot.area).1 (Yb r) v)else bif r.kind==2 then(lF d).any (R0 r)else bif r.kind==3 then(lF d).any (SR t.built d.lot r)else false
theorem FJ{t:bR}(ht:vU t)(lot:bW):(iq t lot).length<=100:=Nat.le_trans (apf _ _) ht.zones
theorem alq{t:bR}{lot:bW}{d:bf}{r:cK}(ht:vU t)(hl:lot.area.length<=900)(hd:yv d)(hv:∀v∈lF d,okV v=true)(hr:(toE (ld r)).wt<=4000000)(hn:O1 n):ny n (tg t lot d) r=some (yr n t lot d r):=by
 obtain⟨hn1,hn2⟩:=hn;have hvl:=KE hd.1;have hz:=FJ ht lot;simp only[ny,iE,yr];cases (r.kind==0)with
 |true=>
  have htb:=ht.plan.tabs;obtain⟨e1,e2,e3,e4,e5,e6,e7,e8,Lo⟩:=ark (n:=n) (p:=j7 t) (lot:=lot) (d:=d) ⟨by have:=htb.1;omega,by have:=htb.1;omega,λx hx=>by have:=htb.2 x hx;omega⟩ hl hd.1 (by omega);have h1:=Lo t.az;have h2:=Lo [];have h2':jT n (j7 t) lot d=_:=h2;have h1':jT n (bn.mk t.cj t.bp t.aw t.az t.cm t.b8 t.cD t.b9) (bW.mk lot.id lot.owner lot.area lot.from_) (bf.mk d.lot d.phases)=_:=h1;obtain⟨v,hE⟩:=apn (n:=n) (p:=j7 t) (ms:=[⟨⟨#[97,114,101,97]⟩,e1⟩,⟨⟨#[99,111,118,101,114]⟩,e2⟩,⟨⟨#[102,108,111,111,114]⟩,e3⟩,⟨⟨#[102,108,111,111,114,115]⟩,e4⟩,⟨⟨#[104,101,105,103,104,116]⟩,e5⟩,⟨⟨#[104,111,109,101,115]⟩,e6⟩,⟨⟨#[114,117,110,111,102,102]⟩,e7⟩,⟨yV,uW (pO lot) (fT d)⟩,⟨⟨#[116,114,97,102,102,105,99]⟩,e8⟩]) (zs:=iq t lot) (e:=ld r) ht.plan (by simp) (by omega) hr hn1 hn2;have hE':=(ah4 (n:=n) (d:=t.cj) (ts:=t.bp) (z:=t.aw) (r:=t.az) (r':=[]) (c:=t.cm) (v:=t.b8) (su:=t.cD) (h:=t.b9) (zs:=iq t lot) (ms:=[⟨⟨#[97,114,101,97]⟩,e1⟩,⟨⟨#[99,111,118,101,114]⟩,e2⟩,⟨⟨#[102,108,111,111,114]⟩,e3⟩,⟨⟨#[102,108,111,111,114,115]⟩,e4⟩,⟨⟨#[104,101,105,103,104,116]⟩,e5⟩,⟨⟨#[104,111,109,101,115]⟩,e6⟩,⟨⟨#[114,117,110,111,102,102]⟩,e7⟩,⟨yV,uW (pO lot) (fT d)⟩,⟨⟨#[116,114,97,102,102,105,99]⟩,e8⟩]) (e:=ld r) ht.plan.defs ht.plan.tabs (by simp) (by omega) hn1 hn2).trans hE;unfold ld at hE';simp[tg,h1',hE',RR,h2',hE]
 |false=>
  cases (r.kind==1)with
  |true=>
   simp only[aj,au,show(tg t lot d).lp=lot.area from rfl,show(tg t lot d).cP=lF d from rfl,FD (n:=n) lot.area hl (by omega),ai];rw[fE (λ v=>!Vf (qE lot.area).1 (Yb r) v) (λ v _=>acQ v _ r (by omega)) (by omega) (by omega)];rfl
  |false=>
   cases (r.kind==2)with
   |true=>
    simp only[aj,au,show(tg t lot d).cP=lF d from rfl];rw[fE (R0 r) (λ v hm=>acR (hv v hm) r) (by omega) (by omega)];rfl
   |false=>
    cases (r.kind==3)with
    |true=>
     simp only[aj,au,show(tg t lot d).cP=lF d from rfl];rw[fE (SR t.built d.lot r) (λ v _=>acU (s:=tg t lot d) ht.built (by omega)) (by omega) (by omega)];rfl
    |false=>rfl
def addN(out:List ByteArray)(name:ByteArray)(bad:Bool):List ByteArray:=bif bad&&!(out.any (gR name))then out++[name]else out
theorem Yc out (name:ByteArray) bad:(addN out name bad).length<=out.length+1:=by unfold addN;cases (bad&&!(out.any (gR name)))<;>simp
theorem afx{name:ByteArray}{bad:Bool}{out:List ByteArray}(hl:out.length<=1000)(hn:2000<=n):jW n name bad out=some (addN out name bad):=by
 have hmx:maxLen=9223372036854775807:=rfl;have hap:bH out.length out.length (sub [name] 0 1).length 1 16=true:=by simp[bH,sub];omega
 simp[jW,vw (n:=n) (l:=out) (a:=name) (by omega) (by omega),addN,hap];cases bad with
 |false=>rfl
 |true=>cases (out.any (gR name))<;>rfl
def RM(t:bR)(d:bf):Bool:=(lF d).any λv=>!NB t.cC d.lot (vT v)
def abp:ByteArray:=⟨#[101,97,115,101,109,101,110,116]⟩
def FK(n:Nat)(t:bR)(lot:bW)(d:bf)(l:List cK):List ByteArray:=l.foldl (λ out r=>addN out r.name (yr n t lot d r)) []
theorem BV(f:cK->Bool):∀(l:List cK) out,(l.foldl (λ out r=>addN out r.name (f r)) out).length<=out.length+l.length
 |[],out=>by simp
 |r::l,out=>by have h1:=BV f l (addN out r.name (f r));have h2:=Yc out r.name (f r);rw[foldl_cons,dX];omega
def applied(t:bR)(lot:bW)(day:Int):List cK:=t.az.filter (oW (iq t lot) day)
def qF(t:bR)(d:bf):bW:=(kG t.land d.lot).1
def ow(n:Nat)(t:bR)(d:bf)(day:Int):List ByteArray:=bif BU n t d==0 then addN (FK n t (qF t d) d (applied t (qF t d) day)) abp (RM t d)else []
theorem QX{t:bR}{d:bf} day (ht:vU t) (hd:yv d) (hn:O1 n):mW n t d day=some (ow n t d day,BU n t d):=by
 obtain⟨hk,hv⟩:=look_eq (n:=n) ht hd hn;have hn1:=hn.1;have hvl:=KE hd.1;simp[mW,hk,ow];by_cases h0:BU n t d=0;have Z1:(BU n t d==0)=true:=by simp[h0]
 have ZZ:(BU n t d !=0)=false:=by simp[h0]
 have hw:=abm ht.lots d.lot;have hz:=FJ ht (qF t d);have hA:j3 n (bn.mk t.cj t.bp t.aw t.az t.cm t.b8 t.cD t.b9) (iq t (qF t d)) day=some ((qV t.az (iq t (qF t d)) day).map λ(i:Nat)=>(i:Int)):=xM _ _ _ (λ r hr=>(ht.rule r hr).1) ht.rules hz (by omega);have hal:(qV t.az (iq t (qF t d)) day).length<=100:=Nat.le_trans (length_filter_le _ _) (by rw[List.length_range];exact ht.rules);have hpick:(qV t.az (iq t (qF t d)) day).filterMap (λ i=>t.az[i]?)=applied t (qF t d) day:=Bj (oW (iq t (qF t d)) day) t.az;have hloop:∀A:List Nat,A.length<=100->(∀ i∈A,i<t.az.length)->iter (nI n t (tg t (qF t d) d,BU n t d) (A.map λ(i:Nat)=>i)) n (0,[])=some (FK n t (qF t d) d (A.filterMap λi=>t.az[i]?)):=by
  intro A hA hAr
  have key:=fF (l:=A) (step:=nI n t (tg t (qF t d) d,BU n t d) (A.map λ(i:Nat)=>i)) (λ i s=>(i,s)) (λ i s=>match t.az[i]? with
   |some r=>addN s r.name (yr n t (qF t d) d r)
   |none=>s) (λ s=>s) (λ i s=>s.length<=i) (λ i hi s hs=>by have hr:=hAr _ (getElem_mem hi);have hlm:(A.map λ(i:Nat)=>(i:Int)).length=A.length:=(by simp);have hg:bj (A.map λ(i:Nat)=>(i:Int)) ((0:Nat)+i)=some ((A[i]:Nat):Int):=(by rw[aQ (by omega)];simp);have hrr:=ht.rule _ (getElem_mem hr);have hb:=alq (n:=n) (t:=t) (lot:=qF t d) (d:=d) ht hw.1 hd (hv h0) hrr.2 hn;have e:=dI hr;simp only[nI,hlm,aW hi,aj,aO hi,hg,ai,aN hr,hb,aH,afx (n:=n) (name:=t.az[A[i]].name) (bad:=yr n t (qF t d) d t.az[A[i]]) (out:=s) (by omega) (by omega),aG i,e];exact⟨trivial,Nat.le_trans (Yc _ _ _) (by omega)⟩) (λ s _=>by have hlm:(A.map λ(i:Nat)=>i).length=A.length:=(by simp);simp[nI]) n (by omega) [] (aB _)
  rw[lE]at key;rw[key];congr 1;unfold FK;generalize []=s0;clear key hA
  induction A generalizing s0 with
  |nil=>rfl
  |cons a A ih=>
   have ha:=hAr a (by simp);rw[foldl_cons,List.filterMap_cons];simp only[dI ha];rw[foldl_cons];exact ih (λ i hi=>hAr i (by simp[hi])) _
 have hlo:=hloop (qV t.az (iq t (qF t d)) day) hal (λ i hi=>by have:=(mem_filter.1 hi).1;simpa using this);rw[hpick]at hlo;have hrl:(FK n t (qF t d) d (applied t (qF t d) day)).length<=100:=by have h1:=BV (yr n t (qF t d) d) (applied t (qF t d) day) [];have h2:(applied t (qF t d) day).length<=100:=Nat.le_trans (length_filter_le _ _) ht.rules;unfold FK;simp at h1;omega
 have hany:iE n (tg t (qF t d) d) (λ (y1:aF×Unit)=>nH n y1.1 t d)=some (RM t d):=by
  have hs:∀v,nH n v t d=some (!NB t.cC d.lot (vT v)):=by intro v;have hl1:(vT v).length=1:=rfl;have h:=ZA (n:=n) (l:=t.cC) (lot:=d.lot) (s:=vT v) ht.E0.1 ht.E0.2 (by simp[vT]) (by omega);simp[nH,afv,h]
  simp[iE,show(tg t (qF t d) d).cP=lF d from rfl];rw[fE (λ v=>!NB t.cC d.lot (vT v)) (λ v _=>hs v) (by omega) (by omega)];rfl
 have hsc:tg t (kG t.land d.lot).1 d=tg t (qF t d) d:=rfl;simp only[Z1,ZZ,aj,au,hsc,show(tg t (qF t d) d).zones=iq t (qF t d)from rfl,hA,ai,length_nil,aH,hlo,hany,afx (n:=n) (name:=⟨#[101,97,115,101,109,101,110,116]⟩) (bad:=RM t d) (out:=FK n t (qF t d) d (applied t (qF t d) day)) (by omega) (by omega),dY];rw[h0];rfl;have Z1:(BU n t d==0)=false:=by simpa using h0
 have ZZ:(BU n t d !=0)=true:=by simpa using h0
 simp[Z1,ZZ]
theorem alr{t:bR}{d:bf} day (ht:vU t) (hd:yv d) (hn:O1 n):kL n t d day=some ((BU n t d==0)&&decide (ow n t d day=[])):=by
 simp[kL,QX day ht hd hn];cases (BU n t d==0)with
 |false=>rfl
 |true=>
  simp;cases ow n t d day with
  |nil=>rfl
  |cons x l=>
   have:(((x::l).length:Nat):Int)≠0:=(by simp;omega);rw[beq_eq_false_iff_ne.2 this];simp
end Go.Proofs
