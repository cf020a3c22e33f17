import Derived.Test.YtkgkglgpckgokaaGreatTD1
open Go.IntKind (i64)
open List (length_take mem_map all_eq_true getElem_mem length_map mem_iff_getElem append_nil length_drop length_nil foldl_cons take_of_length_le mem_filter any_eq_true length_singleton pairwise_cons length_filter_le map_append pairwise_append getElem_drop)
namespace Go.Proofs
open Go.Gb Go.RowKit
variable {n:Nat}
theorem kE(a b:Int):cmp_Compare_int a b=some (if a<b then -1 else if b<a then 1 else 0):=by
 by_cases h1:a<b
 .simp[cmp_Compare_int,cmp_isNaN_int,h1]
 .by_cases h2:b<a
  .simp[cmp_Compare_int,cmp_isNaN_int,h1,h2]
  .simp[cmp_Compare_int,cmp_isNaN_int,h1,h2]
theorem pq{l:U Int}(hl:l.length<1099511627776)(_:l.length<n):oV n l=some (kr oe l):=by
 show Ks l=_;unfold Ks;rw[Nat.ble_eq_true_of_le (show l.length<=1099511627775 by omega),aj]
theorem uD{l:U Int}(hl:l.length<1099511627776)(hn:l.length<n):oW n l=some ((),gJ l):=by
 rw[<- ad4];exact YV (eq:=λx y=>x==y) (ne:=λx y=>x !=y) (λ x y=>by simp[bne]) hl hn
theorem Sz{l:U Int}{a:Int}(hl:l.length<1099511627776)(hn:l.length<n):Eu n l a=some (xD (λ x=>a==x) l):=RH hl hn
theorem Le{l:U Int}{a:Int}(hl:l.length<1099511627776)(hn:l.length<n):rC n l a=some (l.any λx=>a==x):=by
 unfold rC;rw[Sz hl hn,af,xE]
theorem FM{l:U cB}{φ:(cB×Unit)->J Bool}(p:cB->Bool)(h:∀x∈l,φ (x,())=some (p x))(hl:l.length<1099511627776)(hn:l.length<n):rT n l φ=some (xD p l):=gG p h hl hn
theorem FN{l:U bR}{φ:(bR×Unit)->J Bool}(p:bR->Bool)(h:∀x∈l,φ (x,())=some (p x))(hl:l.length<1099511627776)(hn:l.length<n):kz n l φ=some (xD p l):=gG p h hl hn
theorem Qd{l:U ax}(h:l.length<1099511627776):Bd l=some l:=RI (b:=32) (by omega) (by simp only[maxLen];omega)
theorem NW{l:U (List ax)}(hf:l.flatten.length<1099511627776)(hl:l.length<1099511627776)(hn:l.length<n):yR n l=some l.flatten:=Nf (ax.mk 0 0 0 0) (b:=32) hf (by omega) hl hn
theorem CV{a b:U ax}(hl:a.length<1099511627776)(hn:a.length<n):oC n a b=some (decide (a=b)):=by
 have e:oC n a b=Uy n (λ x1 x2:ax=>!((x1.x0==(x2.x0:Int))&&((x1.y0==(x2.y0:Int))&&((x1.x1==(x2.x1:Int))&&((x1.y1==(x2.y1:Int))&&true))))) a b:=by kernel_rfl
 rw[e];refine RJ (λ x y=>?_) hl hn;obtain⟨a,b,c,d⟩:=x;obtain⟨e,f,g,h⟩:=y;simp only[ax.mk.injEq,Bool.and_true];rw[j5];simp
theorem CW{a b:U aO}(hl:a.length<1099511627776)(hn:a.length<n):vI n a b=some (decide (a=b)):=by
 have e:vI n a b=Uy n (λ x1 x2:aO=>!((x1.from_==(x2.from_:Int))&&((x1.to==(x2.to:Int))&&true))) a b:=by kernel_rfl
 rw[e];refine RJ (λ x y=>?_) hl hn;obtain⟨a,b⟩:=x;obtain⟨c,d⟩:=y;simp only[aO.mk.injEq,Bool.and_true];rw[j5];simp
abbrev s7(a b:aO):Bool:=decide (a.from_<b.from_)
theorem NY:Go.Sort.SWO s7 where
 irrefl x:=by simp[s7]
 trans x y z h1 h2:=by simp only[s7,aV]at *;omega
 ntrans x y z h1 h2:=by simp only[s7,dO]at *;omega
theorem J4{l:U aO}{φ:(aO×aO×Unit)->J Int}(f:aO->aO->Int)(hφ:∀x y,φ (x,y,())=some (f x y))(hf:∀x y,decide (f x y<0)=s7 x y)(hl:l.length<1099511627776)(_:l.length<n):ve n l φ=some (lu s7 l):=
 aee f hφ hf NY hl
theorem EK{V O:Type}{step:V->J (V⊕O)}(Inv:V->Prop)(Post:O->Prop)(μ:V->Nat)
 (h:∀v,Inv v->(∃ v',step v=some (.inl v')/\Inv v'/\μ v'< μ v)\/∃o,step v=some (.inr o)/\Post o):∀(n:Nat)(v:V),Inv v->μ v<n->∃o,iter step n v=some o/\Post o
 | 0,_,_,hn=>absurd hn (Nat.not_lt_zero _)
 |n+1,v,hi,hn=>by
  rcases h v hi with ⟨v',h1,h2,h3⟩ |⟨o,h1,h2⟩
  .rw[iO h1];exact EK Inv Post μ h n v' h2 (by omega)
  .exact⟨o,fG h1,h2⟩
theorem Ip:∀(N:Nat)(l:U Nat),l.Nodup->(∀ y∈l,y<N)->l.length<=N
 | 0,[],_,_=>aC _
 | 0,x::l,_,h=>absurd (h x (by simp)) (by omega)
 |N+1,l,hn,h=>by
  have h1:=Ip N (l.filter λy=>decide (y≠N)) (hn.filter _) (λ y hy=>by
   rw[mem_filter]at hy;have:=h y hy.1;have:=hy.2;simp only[aV]at this;omega)
  have h2:=List.length_eq_countP_add_countP (λ y=>decide (y≠N)) (l:=l);rw[List.countP_eq_length_filter]at h2;have h3:List.countP (λ a=>decide ¬(decide (a≠N)=true)) l=l.count N:=by
   rw[List.count];refine List.countP_congr λy _=>?_;simp
  have h4:=List.nodup_iff_count.1 hn N;omega
def Y1(us:U (List Int))(N:Nat):Prop:=us.length=N/\N<=4000000/\∀l∈us,l.length<=4000000/\∀k∈l,0<=k/\k<(N:Int)
structure BI(us:List (List Int))(N to h:Nat)(d:List Int)(F:List Nat):Prop where
 dl:d.length=N
 nd:F.Nodup
 rg:∀x∈F,x<N
 mem:∀i:Nat,i<N->(0<=d.getD i 0↔i∈F)
 ub:∀j x:Nat,F[j]? =some x->d.getD x 0<=(j:Int)
 pre:∀j x:Nat,F[j]? =some x->0<j->∃p y:Nat,p<j/\F[p]? =some y/\(y:Int)∈us.getD x []/\d.getD y 0=d.getD x 0 -1
 hd:F[0]? =some to/\d.getD to 0=0
 hh:h<=F.length
 cl:∀p y:Nat,p<h->F[p]? =some y->∀i:Nat,i<N->(y:Int)∈us.getD i []->0<=d.getD i 0
theorem BI.len{us:U (List Int)}{N to h:Nat}{d:U Int}{F:U Nat}(b:BI us N to h d F):F.length<=N:=by exact Ip N F b.nd b.rg
theorem BI.push{us:U (List Int)}{N to h:Nat}{d:U Int}{F:U Nat}(b:BI us N to h d F){i x p:Nat}(hi:i<N)(hd:d.getD i 0<0)(hp:F[p]? =some x)(hx:(x:Int)∈us.getD i []):
 BI us N to h (d.set i (d.getD x 0+1)) (F++[i]):=by
 have hiF:i∉F:=λhm=>by have:=(b.mem i hi).2 hm;omega
 have RE:x∈F:=dh hp;have hne:∀y,y∈F->i≠y:=λy hy e=>hiF (e ▸ hy);have hset:∀y,y∈F->(d.set i (d.getD x 0+1)).getD y 0=d.getD y 0:=λy hy=>by simp only[List.getD,List.getElem?_set_ne (hne y hy)]
 have vh:(d.set i (d.getD x 0+1)).getD i 0=d.getD x 0+1:=by
  have:i<d.length:=by rw[b.dl];exact hi
  simp[List.getD,this]
 have hx0:0<=d.getD x 0:=(b.mem x (b.rg x RE)).2 RE;have hlt:p<F.length:=(dG.1 hp).1;refine⟨by simpa using b.dl,?_,?_,?_,?_,?_,?_,?_,?_⟩
 .rw[List.nodup_append];exact⟨b.nd,by simp,λa ha c hc=>by simp at hc;subst hc;exact λe=>hiF (e ▸ ha)⟩
 .intro y hy;rw[aZ]at hy;rcases hy with hy |hy
  .exact b.rg y hy
  .simp at hy;omega
 .intro j hj;by_cases e:i=j
  .subst e;rw[vh];exact⟨λ _=>by simp,λ_=>by omega⟩
  .simp only[List.getD,List.getElem?_set_ne e];rw[aZ];have:=b.mem j hj;simp only[List.getD]at this;rw[this];simp[Ne.symm e]
 .intro j y hy;rw[List.getElem?_append]at hy;split at hy
  .rw[hset y (dh hy)];exact b.ub j y hy
  .rename_i hj;have:y=i/\j=F.length:=by
    cases h:j -F.length with
    |zero=>rw[h]at hy;simp at hy;exact⟨hy.symm,by omega⟩
    |succ z=>rw[h]at hy;simp at hy
   obtain⟨rfl,rfl⟩:=this;rw[vh];have:=b.ub p x hp;omega
 .intro j y hy hj;rw[List.getElem?_append]at hy;split at hy
  .have⟨p',y',h1,h2,h3,h4⟩:=b.pre j y hy hj;exact⟨p',y',h1,by rw[List.getElem?_append_left (by have:=(dG.1 h2).1;exact this)];exact h2,h3,by rw[hset y' (dh h2),hset y (dh hy)];exact h4⟩
  .rename_i hj';have:y=i/\j=F.length:=by
    cases h:j -F.length with
    |zero=>rw[h]at hy;simp at hy;exact⟨hy.symm,by omega⟩
    |succ z=>rw[h]at hy;simp at hy
   obtain⟨rfl,rfl⟩:=this;exact⟨p,x,hlt,by rw[List.getElem?_append_left hlt];exact hp,hx,by rw[vh,hset x RE];omega⟩
 .have h0:=(dG.1 b.hd.1).1;exact⟨by rw[List.getElem?_append_left h0];exact b.hd.1,by rw[hset _ (dh b.hd.1)];exact b.hd.2⟩
 .have:=b.hh;simp;omega
 .intro p' y hp' hy j hj hm;rw[List.getElem?_append_left (by have:=b.hh;omega)]at hy;have:=b.cl p' y hp' hy j hj hm;rw[hset j ((b.mem j hj).1 this)];exact this
theorem pn{α:Type}(o:Nat)(l:U α):VB o l=l.drop o:=by cases o<;>simp[VB]
def BS(us:U (List Int))(N to h x:Nat):(Int×Int×List Int×List Int)->Prop
 |(v4,v5,d,v7)=>∃(o i:Nat)(F:U Nat),v4=(o:Int)/\v5=(i:Int)/\o<=v7.length/\v7.drop o=(F.drop (h+1)).map (λ k:Nat=>(k:Int))/\i<=N/\BI us N to h d F/\F[h]? =some x/\∀i',i'<i->(x:Int)∈us.getD i' []->0<=d.getD i' 0
theorem anB{n N to h x:Nat}{a0:oU}{r1:U Int}(hg:Y1 a0.uses N)(hr:r1.length=N)(hn:4000001<=n)(v:Int×Int×List Int×List Int)(hv:BS a0.uses N to h x v):
 (∃ v',fU n a0 r1 x v=some (.inl v')/\BS a0.uses N to h x v'/\N -v'.2.1.toNat<N -v.2.1.toNat)\/
 ∃q,fU n a0 r1 x v=some (.inr q)/\∃(o:Nat)(F:U Nat),q.1=(o:Int)/\o<=q.2.2.length/\q.2.2.drop o=(F.drop (h+1)).map (λ k:Nat=>(k:Int))/\BI a0.uses N to (h+1) q.2.1 F:=by
 obtain⟨v4,v5,d,v7⟩:=v;obtain⟨o,i,F,rfl,rfl,ho,hq,hi,hb,hx,hc⟩:=hv;have hx':x<N:=hb.rg x (dh hx);have E3:=hg.1;have hdl:=hb.dl;by_cases hlt:i<N
 .left;have wd:i<a0.uses.length:=by omega
  have hl:=hg.2.2 a0.uses[i] (getElem_mem wd);have hcon:=Le (n:=n) (l:=a0.uses[i]) (a:=(x:Int)) (by omega) (by omega);have hud:a0.uses.getD i []=a0.uses[i]:=by simp[List.getD,wd]
  have hdi:d[i]'(by omega)=d.getD i 0:=by simp[List.getD,show i<d.length by omega]
  have E4:d[x]'(by omega)=d.getD x 0:=by simp[List.getD,show x<d.length by omega]
  simp only[fU,show decide ((i:Int)<((a0.uses.length:Int)))=true from by simp;omega,aj,bf wd,af,aU (show i<r1.length by omega),aU (show x<r1.length by omega),
   aX (show i<d.length by omega),aX (show x<d.length by omega),hcon,hdi,E4]
  have hFl:=hb.len;have hN:=hg.2.1;have hlen:v7.length -o=F.length -(h+1):=by have:=congrArg List.length hq;simpa using this
  have hmx:maxLen=9223372036854775807:=rfl;by_cases hA:d.getD i 0<0/\(x:Int)∈a0.uses[i]
  .have h1:(a0.uses[i].any λy=>(x:Int)==y)=true:=any_eq_true.2 ⟨_,hA.2,by simp⟩;have hx0:0<=d.getD x 0:=(hb.mem x hx').2 (dh hx);have hxu:=hb.ub h x hx;have S8:h<F.length:=(dG.1 hx).1;have hap:bP (v7.drop o).length (v7.length -o) (sub [(i:Int)] 0 1).length 1 8=true:=(by simp[bP,sub];omega);have hw:i64.wrap (d.getD x 0+1)=d.getD x 0+1:=dQ (by omega) (by omega);refine⟨(((0:Nat):Int),((i+1:Nat):Int),d.set i (d.getD x 0+1),v7.drop o++[(i:Int)]),?_,?_,by show N -((i+1:Nat):Int).toNat<N -(i:Int).toNat;omega⟩
   .simp only[hA.1,decide_true,aj,af,h1,Int.toNat_natCast,pn,hap,dR,hw,aK i];simp[az,sub]
   .refine⟨0,i+1,F++[i],rfl,rfl,Nat.zero_le _,?_,by omega,hb.push hlt hA.1 hx (by rw[hud];exact hA.2),by rw[List.getElem?_append_left S8];exact hx,?_⟩
    .rw[List.drop_zero,hq,List.drop_append_of_le_length (by omega)];simp
    .intro i' hi' hm;have hpush:=hb.push hlt hA.1 hx (by rw[hud];exact hA.2);by_cases e:i'=i
     .subst e;exact(hpush.mem i' hlt).2 (by simp)
     .have:=hc i' (by omega) hm;exact(hpush.mem i' (by omega)).2 (List.mem_append_left _ ((hb.mem i' (by omega)).1 this))
  .have hB:(bif decide (d.getD i 0<0)then some (a0.uses[i].any λy=>(x:Int)==y)else some false)=some false:=by
    by_cases h2:d.getD i 0<0
    .simp only[h2,decide_true,aj,aA];cases hc:(a0.uses[i].any λy=>(x:Int)==y)with
     |false=>rfl
     |true=>
      obtain⟨y,hy,e⟩:=any_eq_true.1 hc;obtain rfl:(x:Int)=y:=(by simpa using e);exact absurd ⟨h2,hy⟩ hA
    .simp only[h2,decide_false,ak]
   refine⟨((o:Int),((i+1:Nat):Int),d,v7),?_,?_,by show N -((i+1:Nat):Int).toNat<N -(i:Int).toNat;omega⟩
   .rw[hB];simp only[af,ak,Int.toNat_natCast,Ed (show o+(v7.length -o)=v7.length by omega),aj,aK i]
   .refine⟨o,i+1,F,rfl,rfl,ho,hq,by omega,hb,hx,λi' hi' hm=>?_⟩;by_cases e:i'=i
    .subst e;rw[hud]at hm;exact Int.not_lt.1 λh2=>hA ⟨h2,hm⟩
    .exact hc i' (by omega) hm
 .right;have hiN:i=N:=by omega
  have S8:h<F.length:=(dG.1 hx).1;refine⟨((o:Int),d,v7),?_,o,F,rfl,ho,hq,?_⟩
  .simp only[fU,show decide ((i:Int)<((a0.uses.length:Int)))=false from by simp;omega,ak,Int.toNat_natCast,Ed (show o+(v7.length -o)=v7.length by omega),aj]
  .refine⟨hb.dl,hb.nd,hb.rg,hb.mem,hb.ub,hb.pre,hb.hd,S8,λp y hp hy j hj hm=>?_⟩;by_cases e:p=h
   .subst e;rw[hx]at hy;cases hy;exact hc j (by omega) hm
   .exact hb.cl p y (by omega) hy j hj hm
def BO(us:U (List Int))(N to h:Nat):(Int×List Int×List Int)->Prop
 |(v1,d,v3)=>∃(o:Nat)(F:U Nat),v1=(o:Int)/\o<=v3.length/\v3.drop o=(F.drop h).map (λ k:Nat=>(k:Int))/\BI us N to h d F
theorem anC{n N to h:Nat}{a0:oU}{r1:U Int}(hg:Y1 a0.uses N)(hr:r1.length=N)(hn:4000001<=n)(v:Int×List Int×List Int)(hv:BO a0.uses N to h v):
 (∃ v',dZ n a0 r1 v=some (.inl v')/\BO a0.uses N to (h+1) v')\/∃d,dZ n a0 r1 v=some (.inr d)/\∃F,BI a0.uses N to F.length d F:=by
 obtain⟨v1,d,v3⟩:=v;obtain⟨o,F,rfl,ho,hq,hb⟩:=hv;have hlen:v3.length -o=F.length -h:=by have:=congrArg List.length hq;simpa using this
 by_cases hlt:h<F.length
 .left;obtain⟨x,hx⟩:∃x,F[h]? =some x:=⟨_,dL hlt⟩;have hox:v3[o]? =some (x:Int):=by
   have:=congrArg (λ l=>l[0]?) hq;simpa[hx]using this
  have hdr:v3.drop (o+1)=(F.drop (h+1)).map (λ k:Nat=>(k:Int)):=by
   have:=congrArg (λ l=>l.drop 1) hq;simpa using this
  obtain⟨q,hq1,o2,F2,hq2,hq3,hq4,hq5⟩:=EK (BS a0.uses N to h x) (λ q:Int×List Int×List Int=>∃(o:Nat)(F:U Nat),q.1=(o:Int)/\o<=q.2.2.length/\q.2.2.drop o=(F.drop (h+1)).map (λ k:Nat=>(k:Int))/\BI a0.uses N to (h+1) q.2.1 F)
   (λ v=>N -v.2.1.toNat) (anB (r1:=r1) hg hr hn) n (((o+1:Nat):Int),0,d,v3) ⟨o+1,0,F,rfl,rfl,by omega,hdr,Nat.zero_le _,hb,hx,λi' hi'=>absurd hi' (Nat.not_lt_zero _)⟩ (by have:=hg.2.1;simp;omega)
  obtain⟨w1,w2,w3⟩:=q;simp only at hq2 hq3 hq4 hq5;subst hq2;refine⟨((o2:Int),w2,w3),?_,o2,F2,rfl,hq3,hq4,hq5⟩;have hat:bp v3 ((o:Int)+0)=some (x:Int):=by rw[Int.add_zero,XS];exact hox
  simp only[dZ,Int.toNat_natCast,show decide (((v3.length -o:Nat):Int)>0)=true from by simp;omega,aj,show cC 0 (v3.length -o)=true from by simp[cC];omega,hat,af,
   yx (show (0:Int)<=1 by omega) (show (1:Int)<=((v3.length -o:Nat):Int)by omega) (Int.le_refl _),Ed (show o+1+(v3.length -o -1)=v3.length by omega),hq1,Ed (show o2+(w3.length -o2)=w3.length by omega)]
 .right;have hhF:h=F.length:=by have:=hb.hh;omega
  refine⟨d,?_,F,hhF ▸ hb⟩;simp only[dZ,Int.toNat_natCast,show decide (((v3.length -o:Nat):Int)>0)=false from by simp;omega,ak]
theorem dH{V O:Type}{step:V->J (V⊕O)}(Inv:Nat->V->Prop)(Post:O->Prop)(K:Nat)(hK:∀k v,Inv k v->k<=K)
 (h:∀k v,Inv k v->(∃ v',step v=some (.inl v')/\Inv (k+1) v')\/∃o,step v=some (.inr o)/\Post o):∀(n k:Nat)(v:V),Inv k v->K<n+k->∃o,iter step n v=some o/\Post o
 | 0,k,v,hi,hn=>absurd (hK k v hi) (by omega)
 |n+1,k,v,hi,hn=>by
  rcases h k v hi with ⟨v',h1,h2⟩ |⟨o,h1,h2⟩
  .rw[iO h1];exact dH Inv Post K hK h n (k+1) v' h2 (by omega)
  .exact⟨o,fG h1,h2⟩
theorem abZ{n N to:Nat}{a0:oU}(hg:Y1 a0.uses N)(hd:a0.defs.length=N)(hn:4000002<=n)(ht:to<N):∃d F,jO n a0 to=some d/\BI a0.uses N to F.length d F:=by
 have hN:=hg.2.1;have hr:qK (sub ([(-1)]:U Int) 0 1) (N:Int)=some (List.replicate N (-1)):=by
  show(ck (decide (0<=(N:Int))&&decide ((N:Int)<=1000000000000)) (some (List.replicate (N:Int).toNat (-1))))=_;rw[show decide (0<=(N:Int))=true by simp,show decide ((N:Int)<=1000000000000)=true by simp;omega];rfl
 have hlr:(List.replicate N (-1:Int)).length=N:=List.length_replicate;have hb0:BI a0.uses N to 0 ((List.replicate N (-1:Int)).set to 0) [to]:=by
  have hto:((List.replicate N (-1:Int)).set to 0).getD to 0=0:=by simp[List.getD,ht]
  refine⟨by simp,by simp,λx hx=>by simp at hx;omega,λi hi=>?_,λj x hx=>?_,λj x hx hj=>?_,⟨rfl,hto⟩,by simp,λp y hp=>absurd hp (Nat.not_lt_zero _)⟩
  .by_cases e:to=i
   .subst e;rw[hto];simp
   .simp only[List.getD,List.getElem?_set_ne e];simp[hi,Ne.symm e]
  .cases j with
   |zero=>simp at hx;subst hx;rw[hto];simp
   |succ j=>simp at hx
  .cases j with
   |zero=>omega
   |succ j=>simp at hx
 obtain⟨d,h1,F,h2⟩:=dH (step:=dZ n a0 (List.replicate N (-1))) (λ h v=>BO a0.uses N to h v) (λ d=>∃F,BI a0.uses N to F.length d F) N (λ h v ⟨_,_,_,_,_,hb⟩=>Nat.le_trans hb.hh hb.len) (λ h v hv=>anC (n:=n) (r1:=List.replicate N (-1)) hg hlr (by omega) v hv) n 0
  (((0:Nat):Int),(List.replicate N (-1:Int)).set to 0,[(to:Int)]) ⟨0,[to],rfl,Nat.zero_le _,rfl,hb0⟩ (by omega)
 refine⟨d,F,?_,h2⟩;have hdl:d.length=N:=h2.dl;have h1':iter (dZ n a0 (List.replicate N (-1))) n ((0:Int),(List.replicate N (-1:Int)).set to 0,[(to:Int)])=some d:=h1;simp only[jO,hd,hr,af,hlr,aU ht,aX (show to<(List.replicate N (-1:Int)).length by omega),aj,show(((0:Nat):Int)+(to:Int)).toNat=to by omega,h1,h1'];simp[az,sub,hdl];exact take_of_length_le (Nat.le_of_eq hdl)
def Nr(d:U Int)(l:U Int)(w:Int):Prop:=
 (w= -1/\∀k∈l,d.getD k.toNat 0<0)\/(w∈l/\0<=d.getD w.toNat 0/\∀k∈l,0<=d.getD k.toNat 0->d.getD w.toNat 0<=d.getD k.toNat 0)
theorem Nr.snoc{d l:U Int}{w k:Int}(h:Nr d l w)(hk:0<=k)(hl:∀x∈l,0<=x):Nr d (l++[k]) (if 0<=d.getD k.toNat 0/\(w<0\/d.getD k.toNat 0<d.getD w.toNat 0)then k else w):=by
 split
 .rename_i h1;refine .inr ⟨by simp,h1.1,λz hz h0=>?_⟩;rw[aZ]at hz;rcases hz with hz |hz
  .rcases h with ⟨rfl,h⟩ |⟨hw,hw0,h⟩
   .have:=h z hz;omega
   .have h2:=h z hz h0;have:=hl w hw;rcases h1.2 with h3 |h3<;>omega
  .simp at hz;subst hz;exact Int.le_refl _
 .rename_i h1;rcases h with ⟨rfl,h⟩ |⟨hw,hw0,h⟩
  .refine .inl ⟨rfl,λz hz=>?_⟩;rw[aZ]at hz;rcases hz with hz |hz
   .exact h z hz
   .simp at hz;subst hz;exact Int.not_le.1 λh2=>h1 ⟨h2,.inl (by omega)⟩
  .refine .inr ⟨List.mem_append_left _ hw,hw0,λz hz h0=>?_⟩;rw[aZ]at hz;rcases hz with hz |hz
   .exact h z hz h0
   .simp at hz;subst hz;exact Int.not_lt.1 λh2=>h1 ⟨h0,.inr h2⟩
theorem anD{n N:Nat}{d l:U Int}(hd:d.length=N)(hl:l.length<=4000000)(hr:∀k∈l,0<=k/\k<(N:Int))(hn:4000001<=n):∃w,iter (iK d l) n ((-1:Int),(0:Int))=some w/\Nr d l w:=by
 refine dH (λ i (v:Int×Int)=>i<=l.length/\v.2=(i:Int)/\Nr d (l.take i) v.1) (λ w=>Nr d l w) l.length (λ k v h=>h.1) ?_ n 0 _ ⟨Nat.zero_le _,rfl,.inl ⟨rfl,by simp⟩⟩ (by omega);rintro i ⟨v3,v4⟩ ⟨hi,rfl,hN⟩;by_cases hlt:i<l.length
 .left;have hk:=hr l[i] (getElem_mem hlt);obtain⟨k,hk2⟩:=Int.eq_ofNat_of_zero_le hk.1;have hkN:k<d.length:=by omega
  have HG:d[k]=d.getD k 0:=by simp[List.getD,hkN]
  have htk:l.take (i+1)=l.take i++[l[i]]:=by rw[List.take_add_one,dL hlt];rfl
  have hlk:∀x∈l.take i,0<=x:=λx hx=>(hr x (List.mem_of_mem_take hx)).1;have hsn:=hN.snoc hk.1 hlk;refine⟨(if 0<=d.getD (l[i]).toNat 0/\(v3<0\/d.getD (l[i]).toNat 0<d.getD v3.toNat 0)then l[i]else v3,((i+1:Nat):Int)),?_,hlt,rfl,by rw[htk];exact hsn⟩;simp only[iK,show decide ((i:Int)<(l.length:Int))=true from by simp;omega,aj,bf hlt,af,hk2,aU hkN,aX hkN,HG,Int.toNat_natCast,aK i];by_cases h0:0<=d.getD k 0
  .by_cases h1:v3<0
   .simp only[h0,h1,ge_iff_le,decide_true,aj,af,true_and,true_or,if_true]
   .have hv:v3∈l.take i:=by
     rcases hN with ⟨rfl,_⟩ |⟨h,_⟩
     .omega
     .exact h
    have A0:=hr v3 (List.mem_of_mem_take hv);obtain⟨z,hz⟩:=Int.eq_ofNat_of_zero_le A0.1;subst hz;have E1:z<d.length:=(by omega);have hgz:d[z]=d.getD z 0:=(by simp[List.getD,E1]);simp only[h0,ge_iff_le,decide_true,aj,h1,decide_false,ak,aU E1,aX E1,af,hgz,Int.toNat_natCast,true_and,false_or];by_cases h2:d.getD k 0<d.getD z 0
    .simp only[h2,decide_true,aj,if_true,af]
    .simp only[h2,decide_false,ak,if_false,af]
  .simp only[h0,ge_iff_le,decide_false,ak,af,false_and,if_false]
 .right;refine⟨v3,?_,?_⟩
  .simp only[iK,show decide ((i:Int)<(l.length:Int))=false from by simp;omega,ak]
  .rw[take_of_length_le (by omega)]at hN;exact hN
theorem BI.step{us:U (List Int)}{N to h:Nat}{d:U Int}{F:U Nat}(b:BI us N to h d F){x:Nat}(hx:x<N)(hne:x≠to)(h0:0<=d.getD x 0):∃y:Nat,(y:Int)∈us.getD x []/\d.getD y 0=d.getD x 0 -1/\0<=d.getD y 0:=by
 obtain⟨j,hj,hjx⟩:=mem_iff_getElem.1 ((b.mem x hx).1 h0);have hj':F[j]? =some x:=by rw[dL hj,hjx]
 have hj0:0<j:=by
  cases j with
  |zero=>rw[b.hd.1]at hj';cases hj';exact absurd rfl hne
  |succ j=>exact Nat.succ_pos _
 have⟨p,y,_,h2,h3,h4⟩:=b.pre j x hj' hj0;have hyF:=dh h2;exact⟨y,h3,h4,(b.mem y (b.rg y hyF)).2 hyF⟩
theorem ajO{n N fr:Nat}{a1:U fw}{us:U (List Int)}(hg:Y1 us N)(hd:a1.length=N)(hn:4000003<=n)(hf:fr<N):∃d F c,BI us N fr F.length d F/\jQ n fr a1 us=some (a1,us,c)/\c.length<=N+1/\(c=[]->∀k∈us.getD fr [],d.getD k.toNat 0<0):=by
 obtain⟨d,F,hdi,hb⟩:=abZ (n:=n) (a0:=oU.mk a1 us) hg hd (by omega) hf;have hN:=hg.2.1;have E3:=hg.1;have hmx:maxLen=9223372036854775807:=rfl;have hloop:∃o,iter (kL n fr a1 us d) n ((fr:Int),([]:U ByteArray))=some o/\∃c,o= .inr (a1,us,c)/\c.length<=N+1/\(c=[]->∀k∈us.getD fr [],d.getD k.toNat 0<0):=by
  refine dH (λ k (v:Int×List ByteArray)=>∃at_:Nat,v.1=(at_:Int)/\at_<N/\v.2.length=k/\k<=N/\((k=0/\at_=fr)\/(0<k/\at_≠fr/\0<=d.getD at_ 0/\d.getD at_ 0+k<=N))) _ N (λ k v ⟨_,_,_,_,h,_⟩=>h) ?_ n 0 _ ⟨fr,rfl,hf,rfl,Nat.zero_le _,.inl ⟨rfl,rfl⟩⟩ (by omega);rintro k ⟨v1,v2⟩ ⟨x,rfl,hx,hv2,hkN,hst⟩;simp only at hv2;have hxa:x<a1.length:=by omega
  have hxu:x<us.length:=by omega
  have hl:=hg.2.2 us[x] (getElem_mem hxu);obtain⟨w,hw,hnr⟩:=anD (n:=n) (d:=d) (l:=us[x]) hb.dl hl.1 hl.2 (by omega);have hgu:us.getD x []=us[x]:=by simp[List.getD,hxu]
  have hap:bP v2.length v2.length (sub [a1[x].name] 0 1).length 1 16=true:=by simp[bP,sub];omega
  simp only[kL,bf hxa,bf hxu,af,hap,aj,dR,hw];have hsl:(v2++sub [a1[x].name] 0 1).length=k+1:=by simp[sub,hv2]
  have hne:((v2++sub [a1[x].name] 0 1).length==0)=false:=by rw[hsl];simp
  rcases hnr with ⟨rfl,hno⟩ |⟨hwm,hw0,hmin⟩
  .right;refine⟨.inr (a1,us,[]),by simp[az],[],rfl,by simp,λ_=>?_⟩;rcases hst with ⟨_,rfl⟩ |⟨_,Rr,hx0,_⟩
   .rw[hgu];exact hno
   .have⟨y,hy,_,hy0⟩:=hb.step hx Rr hx0;have hy':(y:Int)∈us[x]:=(by rw[<- hgu];exact hy);have:=hno _ hy';simp only[Int.toNat_natCast]at this;omega
  .have hwr:=hl.2 w hwm;obtain⟨z,rfl⟩:=Int.eq_ofNat_of_zero_le hwr.1;simp only[Int.toNat_natCast]at hw0 hmin;by_cases hzf:z=fr
   .right;subst hzf;refine⟨.inr (a1,us,v2++sub [a1[x].name] 0 1),?_,_,rfl,by omega,λh=>by rw[h]at hsl;simp at hsl⟩;simp only[show decide ((z:Int)<0)=false from by simp,ak,beq_self_eq_true,aj,hne,Bool.not_false,Bool.true_and,aD,Option.map_some]
   .left;have E1:z<N:=(by omega);have hb1:d.getD z 0+((k+1:Nat):Int)<=N:=by
     rcases hst with ⟨hk0,rfl⟩ |⟨_,Rr,hx0,hle⟩
     .have hzF:=(hb.mem z E1).1 hw0;obtain⟨j,hj,hjz⟩:=mem_iff_getElem.1 hzF;have h3:=hb.ub j z (by rw[dL hj,hjz]);have:=hb.len;omega
     .have⟨y,hy,hyd,hy0⟩:=hb.step hx Rr hx0;have:=hmin y (by rw[<- hgu];exact hy) (by simpa using hy0);simp only[Int.toNat_natCast]at this;omega
    refine⟨((z:Int),v2++sub [a1[x].name] 0 1),?_,z,rfl,E1,hsl,by omega,.inr ⟨Nat.succ_pos _,hzf,hw0,hb1⟩⟩;simp only[show decide ((z:Int)<0)=false from by simp,ak,show((z:Int)==(fr:Int))=false from by simp;omega,aD,aj]
 obtain⟨o,h1,c,rfl,h2⟩:=hloop;refine⟨d,F,c,hb,?_,h2⟩;simp only[jQ,hdi,af,h1];simp[az]
theorem ab0(a b:ByteArray):∃r,nK a b=some r:=by
 simp only[nK,cmp_isNaN_string,af];cases (!a.toList==a.toList)<;>cases (!b.toList==b.toList)<;>cases Vx a b<;>cases (a.toList==b.toList)<;>exact⟨_,rfl⟩
theorem ab1{a b:U ByteArray}(ha:a.length<=5000000)(hn:5000001<=n):∃r,lT n a b=some r:=by
 obtain⟨o,h,_⟩:=dH (step:=lQ a b) (λ i (v:Int)=>v=(i:Int)/\i<=a.length) (λ _=>True) a.length (λ k v h=>h.2) (by
  rintro i v ⟨rfl,hi⟩;by_cases hlt:i<a.length
  .simp only[lQ,show decide ((i:Int)<(a.length:Int))=true from by simp;omega,aj,bf hlt,af];by_cases hb:i<b.length
   .have⟨r,hr⟩:=ab0 a[i] b[i];simp only[show decide ((i:Int)>=(b.length:Int))=false from by simp;omega,ak,bf hb,af,hr];cases hr0:(r !=(0:Int))with
    |true=>exact .inr ⟨_,rfl,trivial⟩
    |false=>exact .inl ⟨_,rfl,by rw[bL (by omega)],by omega⟩
   .simp only[show decide ((i:Int)>=(b.length:Int))=true from by simp;omega,aj];exact .inr ⟨_,rfl,trivial⟩
  .simp only[lQ,show decide ((i:Int)<(a.length:Int))=false from by simp;omega,ak];exact .inr ⟨_,rfl,trivial⟩) n 0 0 ⟨rfl,Nat.zero_le _⟩ (by omega)
 simp only[lT,h];cases o with
 |inl u=>cases u;simp only[dW];cases decide ((a.length:Int)<(b.length:Int))<;>exact⟨_,rfl⟩
 |inr r=>exact⟨r,by simp⟩
def te(us:U (List Int))(N j:Nat):Prop:=∃d F,BI us N j F.length d F/\∀k∈us.getD j [],d.getD k.toNat 0<0
theorem ael{n N:Nat}{a0:U fw}{us:U (List Int)}(hg:Y1 us N)(hd:a0.length=N)(hn:5000003<=n):∃c,jb n a0 us=some (a0,us,c)/\(c=[]->∀j,j<N->te us N j)/\c.length<=N+1:=by
 have hN:=hg.2.1
 obtain⟨o,h1,c,rfl,h2⟩:=dH (step:=gX n a0) (λ i (v:Int×List fw×List (List Int)×List ByteArray)=>∃c,v=((i:Int),a0,us,c)/\i<=N/\c.length<=N+1/\(c=[]->∀j,j<i->te us N j))
  (λ o=>∃c,o=(a0,us,c)/\(c=[]->∀j,j<N->te us N j)/\c.length<=N+1) N (λ k v ⟨_,_,h,_⟩=>h) (by
  rintro i v ⟨c,rfl,hi,hcl,hc⟩;by_cases hlt:i<N
  .left;obtain⟨d,F,c2,hb,hci,SU,hc2⟩:=ajO (n:=n) (a1:=a0) hg hd (by omega) hlt;simp only[gX,show decide ((i:Int)<(a0.length:Int))=true from by simp;omega,aj,hci,af,aK i,bZ,aD];have hfin:∀c':U ByteArray,c'.length<=N+1->(c'=[]->c=[]/\c2=[])->∃c'',(((i+1:Nat):Int),a0,us,c')=(((i+1:Nat):Int),a0,us,c'')/\i+1<=N/\c''.length<=N+1/\(c''=[]->∀j,j<i+1->te us N j):=λc' hl' he=>
    ⟨c',rfl,hlt,hl',λe j hj=>by
     have⟨e1,e2⟩:=he e;by_cases h:j=i
     .subst h;exact⟨d,F,hb,hc2 e2⟩
     .exact hc e1 j (by omega)⟩
   obtain⟨r,hr⟩:=ab1 (n:=n) (a:=c2) (b:=c) (by omega) (by omega);cases h0:(c2.length==0)with
   |true=>
    have e2:c2=[]:=List.eq_nil_of_length_eq_zero (by simpa using h0);exact⟨_,by simp only[aj,af],hfin c hcl λe=>⟨e,e2⟩⟩
   |false=>
    have hne:c2≠[]:=λe=>(by rw[e]at h0;simp at h0);simp only[ak,af];have key:∃b,(bif c.length==0 then some true else bif decide ((c2.length:Int)<(c.length:Int))then some true else bif(c2.length:Int)==(c.length:Int)then(lT n c2 c).bind λr2=>some (decide (r2<0))else some false)=some b/\(c.length=0->b=true):=by
     cases h3:(c.length==0)with
     |true=>exact⟨true,rfl,λ_=>rfl⟩
     |false=>
      have hcn:c.length≠0:=(by simpa using h3);simp only[ak,hr,af];cases decide ((c2.length:Int)<(c.length:Int))<;>cases ((c2.length:Int)==(c.length:Int))<;>exact⟨_,rfl,λe=>absurd e hcn⟩
    obtain⟨b,hb1,hb2⟩:=key;rw[hb1];cases b with
    |true=>exact⟨_,by simp only[aj,af],hfin c2 SU λe=>absurd e hne⟩
    |false=>exact⟨_,by simp only[ak,af],hfin c hcl λe=>by rw[e]at hb2;exact absurd (hb2 rfl) (by simp)⟩
  .right;refine⟨(a0,us,c),?_,c,rfl,λe j hj=>hc e j (by omega),hcl⟩;simp only[gX,show decide ((i:Int)<(a0.length:Int))=false from by simp;omega,ak,aD,aj]) n 0 ((0:Int),a0,us,[]) ⟨[],rfl,Nat.zero_le _,by simp,λ_ j hj=>absurd hj (Nat.not_lt_zero _)⟩ (by omega)
 exact⟨c,by simp[jb,h1,az],h2⟩
theorem BI.back{us:U (List Int)}{N to:Nat}{d:U Int}{F:U Nat}(b:BI us N to F.length d F){i y:Nat}(hi:i<N)(hy:y<N)(h:(y:Int)∈us.getD i [])(h0:0<=d.getD y 0):0<=d.getD i 0:=by
 obtain⟨j,hj,hjy⟩:=mem_iff_getElem.1 ((b.mem y hy).1 h0);exact b.cl j y hj (by rw[dL hj,hjy]) i hi h
theorem anE{us:U (List Int)}{N:Nat}(hg:Y1 us N)(hf:∀j,j<N->te us N j)(done:Nat->Prop){i0:Nat}(h0:i0<N)(hd0:¬done i0):∃i,i<N/\¬done i/\∀k∈us.getD i [],done k.toNat:=by
 refine uT λhno=>?_;have hstep:∀i:{i:Nat // i<N/\¬done i},∃k:{k:Nat // k<N/\¬done k},(k.1:Int)∈us.getD i.1 []:=by
  rintro⟨i,hi,hnd⟩;refine uT λh=>hno ⟨i,hi,hnd,λk hk=>uT λhkd=>h ?_⟩;have hl:us.getD i []∈us:=by
   have:i<us.length:=(by rw[hg.1];exact hi);simp[List.getD,this]
  have hr:=(hg.2.2 _ hl).2 k hk;exact⟨⟨k.toNat,by omega,hkd⟩,by show(k.toNat:Int)∈_;rw[Int.toNat_of_nonneg hr.1];exact hk⟩
 obtain⟨f,hfs⟩:=Classical.axiomOfChoice hstep
 let g:Nat->{i:Nat // i<N/\¬done i}:=λj=>Nat.rec ⟨i0,h0,hd0⟩ (λ _ x=>f x) j
 have hgs:∀j,((g (j+1)).1:Int)∈us.getD (g j).1 []:=λj=>hfs (g j);have hnd:¬((List.range (N+1)).map λj=>(g j).1).Nodup:=λh=>by
  have:=Ip N _ h λy hy=>by
   obtain⟨j,_,rfl⟩:=mem_map.1 hy;exact(g j).2.1
  rw[length_map,List.length_range]at this;omega
 obtain⟨a,b,hab,he⟩:∃a b,a<b/\(g a).1=(g b).1:=by
  refine uT λh=>hnd ?_;rw[List.nodup_iff_pairwise_ne,List.pairwise_map];exact List.pairwise_lt_range.imp λ{x y} hxy e=>h ⟨x,y,hxy,e⟩
 obtain⟨d,F,hb,hneg⟩:=hf _ (g a).2.1;have hall:∀c,a<b -c->c<b -a->0<=d.getD (g (b -c)).1 0:=by
  intro c
  induction c with
  |zero=>intro _ _;rw[Nat.sub_zero,<- he,hb.hd.2];exact Int.le_refl _
  |succ c ih=>
   intro h1 h2;have:=ih (by omega) (by omega);have e:b -c=b -(c+1)+1:=(by omega);rw[e]at this;exact hb.back (g (b -(c+1))).2.1 (g (b -(c+1)+1)).2.1 (hgs (b -(c+1))) this
 have h1:=hall (b -a -1) (by omega) (by omega);have e:b -(b -a -1)=a+1:=by omega
 rw[e]at h1;have h2:=hneg _ (hgs a);simp only[Int.toNat_natCast]at h2;omega
theorem aem{n N:Nat}{l:U Int}{done:U Bool}(hd:done.length=N)(hl:l.length<=4000000)(hr:∀k∈l,0<=k/\k<(N:Int))(hn:4000001<=n):
 ∃r,iy n l done=some (r,done)/\(r=false↔∀k∈l,done.getD k.toNat false=true):=by
 obtain⟨o,h1,h2⟩:=dH (step:=jP l) (λ i (v:Int×List Bool)=>v=((i:Int),done)/\i<=l.length/\∀k∈l.take i,done.getD k.toNat false=true)
  (λ o=>(o= .inl done/\∀k∈l,done.getD k.toNat false=true)\/∃i:Nat,o= .inr ((i:Int),done)/\∃k∈l,done.getD k.toNat false=false) l.length (λ k v h=>h.2.1) (by
  rintro i v ⟨rfl,hi,hall⟩;by_cases hlt:i<l.length
  .have hk:=hr l[i] (getElem_mem hlt);obtain⟨k,hk2⟩:=Int.eq_ofNat_of_zero_le hk.1;have hkN:k<done.length:=(by omega);have HG:done[k]=done.getD k false:=(by simp[List.getD,hkN]);have htk:l.take (i+1)=l.take i++[l[i]]:=(by rw[List.take_add_one,dL hlt];rfl);simp only[jP,show decide ((i:Int)<(l.length:Int))=true from by simp;omega,aj,bf hlt,af,aD,hk2,l9,aU hkN,aX hkN,HG];cases hdk:done.getD k false with
   |true=>
    refine .inl ⟨_,by simp only[Bool.not_true,ak];rfl,by rw[bL (by omega)],hlt,λz hz=>?_⟩;rw[htk,aZ]at hz;rcases hz with hz |hz
    .exact hall z hz
    .simp only[aQ]at hz;rw[hz,hk2];simpa using hdk
   |false=>exact .inr ⟨_,by simp only[Bool.not_false,aj,Option.map_some],.inr ⟨i,rfl,l[i],getElem_mem hlt,by rw[hk2];simpa using hdk⟩⟩
  .refine .inr ⟨.inl done,?_,.inl ⟨rfl,by rw[take_of_length_le (by omega)]at hall;exact hall⟩⟩;simp only[jP,show decide ((i:Int)<(l.length:Int))=false from by simp;omega,ak,aD,aj]) n 0 ((0:Int),done) ⟨rfl,Nat.zero_le _,by simp⟩ (by omega)
 rcases h2 with ⟨rfl,h2⟩ |⟨i,rfl,k,hk,hkd⟩
 .exact⟨false,by simp[iy,mI,h1],λ_=>h2,λ_=>rfl⟩
 .refine⟨true,by simp[iy,mI,h1],λh=>(by cases h),λh=>?_⟩;rw[h k hk]at hkd;cases hkd
def Lt(us:U (List Int))(N:Nat)(done:U Bool)(i:Nat)(w:Int):Prop:=
 (w= -1/\∀j,j<i->¬(done.getD j false=false/\∀k∈us.getD j [],done.getD k.toNat false=true))\/∃j:Nat,w=(j:Int)/\j<i/\done.getD j false=false
theorem alS{n N:Nat}{a0:oU}{done:U Bool}(hg:Y1 a0.uses N)(hd:a0.defs.length=N)(hl:done.length=N)(hn:4000002<=n):∃w,iter (iR n a0) n ((-1:Int),(0:Int),done)=some (w,done)/\Lt a0.uses N done N w:=by
 have hN:=hg.2.1;have E3:=hg.1;obtain⟨o,h1,w,rfl,h2⟩:=dH (step:=iR n a0) (λ i (v:Int×Int×List Bool)=>∃w,v=(w,(i:Int),done)/\i<=N/\Lt a0.uses N done i w) (λ o=>∃w,o=(w,done)/\Lt a0.uses N done N w) N (λ k v ⟨_,_,h,_⟩=>h) (by
  rintro i v ⟨w,rfl,hi,hw⟩;by_cases hlt:i<N
  .left;have hiu:i<a0.uses.length:=(by omega);have hid:i<a0.defs.length:=(by omega);have hib:i<done.length:=(by omega);have hl2:=hg.2.2 a0.uses[i] (getElem_mem hiu);obtain⟨r,hr1,hr2⟩:=aem (n:=n) hl hl2.1 hl2.2 (by omega);have hgi:a0.uses.getD i []=a0.uses[i]:=(by simp[List.getD,hiu]);have hdi:done[i]=done.getD i false:=(by simp[List.getD,hib]);simp only[iR,show decide ((i:Int)<(a0.uses.length:Int))=true from by simp;omega,aj,bf hiu,af,aD,hr1,aU hib,aX hib,hdi,aK i];have keep:(done.getD i false=true\/r=true)->Lt a0.uses N done (i+1) w:=by
    intro hno;rcases hw with ⟨rfl,hw⟩ |⟨j,rfl,hj,hw⟩
    .refine .inl ⟨rfl,λj hj h=>?_⟩;by_cases e:j=i
     .subst e;rw[hgi]at h;rcases hno with h3 |h3
      .rw[h3]at h;exact absurd h.1 (by simp)
      .have:=hr2.2 h.2;rw[h3]at this;cases this
     .exact hw j (by omega) h
    .exact .inr ⟨j,rfl,by omega,hw⟩
   cases hdn:done.getD i false with
   |true=>exact⟨_,by simp only[Bool.not_true,ak,af],w,rfl,hlt,keep (.inl hdn)⟩
   |false=>
    cases r with
    |true=>exact⟨_,by simp only[Bool.not_false,Bool.not_true,aj,ak,af],w,rfl,hlt,keep (.inr rfl)⟩
    |false=>
     have an:Lt a0.uses N done (i+1) i:= .inr ⟨i,rfl,by omega,hdn⟩;rcases hw with ⟨rfl,hw⟩ |⟨j,rfl,hj,hw⟩
     .exact⟨_,by simp only[Bool.not_false,aj,show decide ((-1:Int)<0)=true from rfl,af],_,rfl,hlt,an⟩
     .have hjd:j<a0.defs.length:=(by omega);simp only[Bool.not_false,aj,show decide ((j:Int)<0)=false from by simp,ak,bf hid,bf hjd,af];cases Vx a0.defs[i].name a0.defs[j].name with
      |true=>exact⟨_,rfl,_,rfl,hlt,an⟩
      |false=>exact⟨_,rfl,_,rfl,hlt,.inr ⟨j,rfl,by omega,hw⟩⟩
  .right;have hiN:i=N:=(by omega);refine⟨(w,done),?_,w,rfl,hiN ▸ hw⟩;simp only[iR,show decide ((i:Int)<(a0.uses.length:Int))=false from by simp;omega,ak,aD,aj]) n 0 ((-1:Int),(0:Int),done) ⟨_,rfl,Nat.zero_le _,.inl ⟨rfl,λj hj=>absurd hj (Nat.not_lt_zero _)⟩⟩ (by omega)
 exact⟨w,h1,h2⟩
theorem alT{n N:Nat}{a0:oU}(hg:Y1 a0.uses N)(hd:a0.defs.length=N)(hf:∀j,j<N->te a0.uses N j)(hn:4000002<=n):∃l,nL n a0=some l/\l.length=N/\∀k∈l,0<=k/\k<(N:Int):=by
 have hN:=hg.2.1;have hmx:maxLen=9223372036854775807:=rfl
 obtain⟨o,h1,h2⟩:=dH (step:=kH n a0) (λ c (v:Int×List Int×List Bool)=>∃ab done,v=((c:Int),ab,done)/\c<=N/\ab.length=c/\(∀ k∈ab,0<=k/\k<(N:Int))/\done.length=N/\done.count false=N -c)
  (λ o=>o.length=N/\∀k∈o,0<=k/\k<(N:Int)) N (λ k v ⟨_,_,_,h,_⟩=>h) (by
  rintro c v ⟨ab,done,rfl,hc,hol,hor,hdl,hcf⟩;by_cases hlt:c<N
  .left;have⟨w,hw1,hw2⟩:=alS (n:=n) hg hd hdl hn;have hopen:∃i0,i0<N/\done.getD i0 false=false:=by
    have hm:false∈done:=List.count_pos_iff.1 (by omega);obtain⟨i0,h0,e⟩:=mem_iff_getElem.1 hm;exact⟨i0,by omega,by simp[List.getD,h0,e]⟩
   obtain⟨i0,h0,h0d⟩:=hopen;obtain⟨i,hi,hid,hia⟩:=anE hg hf (λ j=>done.getD j false=true) h0 (by rw[h0d];simp);rcases hw2 with ⟨rfl,hw2⟩ |⟨j,rfl,hj,hjd⟩
   .exact absurd ⟨Bool.eq_false_iff.2 hid,hia⟩ (hw2 i hi)
   .have hjl:j<done.length:=(by omega);have hap:bP ab.length ab.length (sub [(j:Int)] 0 1).length 1 8=true:=(by simp[bP,sub];omega);have hset:(done.set j true).length=done.length:=(by simp);refine⟨(((c+1:Nat):Int),ab++[(j:Int)],done.set j true),?_,_,_,rfl,hlt,by simp[hol],?_,by simp[hdl],?_⟩
    .simp only[kH,show decide ((c:Int)<(a0.defs.length:Int))=true from by simp;omega,aj,aD,hw1,af,aU hjl,aX hjl,hap,dR,aK c,show(((0:Nat):Int)+(j:Int)).toNat=j by omega,Ed hset.symm];simp[sub]
    .intro k hk;rw[aZ]at hk;rcases hk with hk |hk
     .exact hor k hk
     .simp at hk;subst hk;omega
    .have hjf:done[j]=false:=(by simpa[List.getD,hjl]using hjd);rw[List.count_set hjl,hcf,hjf];simp;omega
  .right;have:c=N:=(by omega);refine⟨ab,?_,by omega,hor⟩;simp only[kH,show decide ((c:Int)<(a0.defs.length:Int))=false from by simp;omega,ak,aD,aj]) n 0 ((0:Int),[],List.replicate N false) ⟨[],_,rfl,Nat.zero_le _,rfl,by simp,by simp,by simp⟩ (by omega)
 refine⟨o,?_,h2⟩;have hmk:zH (N:Int) 1=true:=by simp[zH];omega
 simp only[nL,hd,Int.le_refl,decide_true,Bool.true_and,show decide ((0:Int)<=(N:Int))=true from by simp,hmk,aj,Int.toNat_natCast,h1,af,bZ,aD];simp[az]
def pb(ab:U aO)(s:aO):U aO:=
 match ab.getLast? with
 |some q=>bif decide (s.from_<=q.to)then ab.dropLast++[⟨q.from_,max q.to s.to⟩]else ab++[s]
 |none=>[s]
theorem WY(ab:U aO)(s:aO):(pb ab s).length<=ab.length+1:=by
 unfold pb;cases ab.getLast? with
 |none=>simp
 |some q=>simp only;cases decide (s.from_<=q.to)<;>simp<;>omega
theorem agL(o:U aO)(q s:aO):pb (o++[q]) s=bif decide (s.from_<=q.to)then o++[⟨q.from_,max q.to s.to⟩]else o++[q]++[s]:=by simp[pb]
abbrev D2(s:aO):Prop:=s.from_<s.to
def ie(l:U aO)(y:Int):Bool:=l.any λs=>decide (s.from_<=y)&&decide (y<s.to)
def Can(l:U aO):Prop:=l.Pairwise (λ a b=>a.to<b.from_)/\∀s∈l,D2 s
theorem NZ(l:U aO)(y:Int):ie l y=true↔∃s∈l,s.from_<=y/\y<s.to:=by simp[ie]
theorem EL(l m:U aO)(y:Int):ie (l++m) y=(ie l y || ie m y):=by simp[ie]
theorem JO(y:Int):ie [] y=false:=rfl
theorem oh(s:aO)(l:U aO)(y:Int):ie (s::l) y=((decide (s.from_<=y)&&decide (y<s.to)) || ie l y):=by simp[ie]
theorem aen{l m:U aO}(h:l.Perm m)(y:Int):ie l y=ie m y:=by
 rw[j5,NZ,NZ];exact⟨λ ⟨s,hs,h1⟩=>⟨s,h.mem_iff.1 hs,h1⟩,λ⟨s,hs,h1⟩=>⟨s,h.mem_iff.2 hs,h1⟩⟩
theorem aiA:Can []:=⟨List.Pairwise.nil,by simp⟩
theorem alU{ab:U aO}{s:aO}(hc:Can ab)(hs:D2 s)(hb:∀o∈ab,o.from_<=s.from_):
 Can (pb ab s)/\(∀ o∈pb ab s,o.from_<=s.from_)/\∀y,ie (pb ab s) y=(ie ab y || ie [s] y):=by
 rcases List.eq_nil_or_concat ab with rfl |⟨o,q,rfl⟩
 .refine⟨⟨by simp[pb],by simp[pb];exact hs⟩,by simp[pb],λy=>by simp[pb,ie]⟩
 .rw[List.concat_eq_append]at*;obtain⟨h1,h2⟩:=hc;rw[pairwise_append]at h1;obtain⟨p1,_,p3⟩:=h1;have hq:D2 q:=h2 q (by simp);have hqs:q.from_<=s.from_:=hb q (by simp);rw[agL];by_cases hj:s.from_<=q.to
  .simp only[hj,decide_true,aj];refine⟨⟨?_,?_⟩,?_,?_⟩
   .rw[pairwise_append];refine⟨p1,by simp,λa ha b hb'=>?_⟩;rw[aQ]at hb';subst hb';exact p3 a ha q (by simp)
   .intro a ha;rcases aZ.1 ha with ha |ha
    .exact h2 a (by simp[ha])
    .rw[aQ]at ha;subst ha;show q.from_<max q.to s.to;have:q.from_<q.to:=hq;omega
   .intro a ha;rcases aZ.1 ha with ha |ha
    .exact hb a (by simp[ha])
    .rw[aQ]at ha;subst ha;exact hqs
   .intro y;rw[EL,EL,Bool.or_assoc];congr 1;simp only[oh,JO,Bool.or_false];rw[j5];simp only[aL,Bool.or_eq_true,aV];have:q.from_<q.to:=hq;have:s.from_<s.to:=hs;omega
  .simp only[hj,decide_false,ak];refine⟨⟨?_,?_⟩,?_,?_⟩
   .rw[pairwise_append];refine⟨?_,by simp,λa ha b hb'=>?_⟩
    .rw[pairwise_append];exact⟨p1,by simp,p3⟩
    .rw[aQ]at hb';subst hb';rcases aZ.1 ha with ha |ha
     .have:=p3 a ha q (by simp);have:q.from_<q.to:=hq;omega
     .rw[aQ]at ha;subst ha;omega
   .intro a ha;rcases aZ.1 ha with ha |ha
    .exact h2 a ha
    .rw[aQ]at ha;subst ha;exact hs
   .intro a ha;rcases aZ.1 ha with ha |ha
    .exact hb a ha
    .rw[aQ]at ha;subst ha;exact Int.le_refl _
   .intro y;rw[EL]
theorem Qe:∀(l ab:U aO),Can ab->(∀ s∈l,D2 s)->l.Pairwise (λ x y=>x.from_<=y.from_)->(∀ o∈ab,∀s∈l,o.from_<=s.from_)->Can (l.foldl pb ab)/\∀y,ie (l.foldl pb ab) y=(ie ab y || ie l y)
 |[],ab,hc,_,_,_=>⟨hc,λy=>by simp[JO]⟩
 |s::l,ab,hc,hv,hp,hb=>by
  rw[pairwise_cons]at hp;obtain⟨m1,m2,m3⟩:=alU hc (hv s (by simp)) (λ o ho=>hb o ho s (by simp));obtain⟨f1,f2⟩:=Qe l (pb ab s) m1 (λ t ht=>hv t (by simp[ht])) hp.2 (λ o ho t ht=>Int.le_trans (m2 o ho) (hp.1 t ht));refine⟨f1,λy=>?_⟩;rw[foldl_cons,f2,m3,Bool.or_assoc,<- EL];rfl
theorem aeo{a:aO}{l:U aO}(h:Can (a::l)):Can l:=⟨(pairwise_cons.1 h.1).2,λs hs=>h.2 s (by simp[hs])⟩
theorem JP{a:aO}{l:U aO}(h:Can (a::l)){y:Int}(hy:ie l y=true):a.to<y:=by
 obtain⟨s,hs,h1,_⟩:=(NZ _ _).1 hy;have:=(pairwise_cons.1 h.1).1 s hs;omega
theorem aaD{a:aO}{l:U aO}(h:Can (a::l)){y:Int}(hy:ie (a::l) y=true):a.from_<=y:=by
 rw[oh,Bool.or_eq_true]at hy;rcases hy with hy |hy
 .simp only[aL,aV]at hy;exact hy.1
 .have:=JP h hy;have:a.from_<a.to:=h.2 a (by simp);omega
theorem WZ:∀{l m:U aO},Can l->Can m->(∀ y,ie l y=ie m y)->l=m
 |[],[],_,_,_=>rfl
 |[],b::m,_,hm,h=>by
  have:=h b.from_;have hb:b.from_<b.to:=hm.2 b (by simp);rw[JO,oh]at this;simp[hb]at this
 |a::l,[],hl,_,h=>by
  have:=h a.from_;have ha:a.from_<a.to:=hl.2 a (by simp);rw[JO,oh]at this;simp[ha]at this
 |a::l,b::m,hl,hm,h=>by
  have ha:a.from_<a.to:=hl.2 a (by simp);have hb:b.from_<b.to:=hm.2 b (by simp);have ina:ie (a::l) a.from_=true:=by rw[oh];simp[ha]
  have Q3:ie (b::m) b.from_=true:=by rw[oh];simp[hb]
  have e1:a.from_=b.from_:=by
   have h1:=aaD hm (by rw[<- h];exact ina);have h2:=aaD hl (by rw[h];exact Q3);omega
  have nl:∀(c:aO)(k:U aO),Can (c::k)->ie (c::k) c.to=false:=by
   intro c k hk;cases hc:ie (c::k) c.to with
   |false=>rfl
   |true=>
    rw[oh,Bool.or_eq_true]at hc;rcases hc with hc |hc
    .simp at hc
    .have:=JP hk hc;omega
  have e2:a.to=b.to:=by
   rcases Int.lt_trichotomy a.to b.to with hlt |he |hlt
   .have h1:=nl a l hl;rw[h,oh]at h1;simp only[Bool.or_eq_false_iff,Bool.and_eq_false_iff,dO]at h1;omega
   .exact he
   .have h1:=nl b m hm;rw[<- h,oh]at h1;simp only[Bool.or_eq_false_iff,Bool.and_eq_false_iff,dO]at h1;omega
  have e:a=b:=by cases a;cases b;simp only at e1 e2;rw[e1,e2]
  subst e;rw[WZ (aeo hl) (aeo hm) λy=>?_];have hy:=h y;rw[oh,oh]at hy;cases h1:ie l y with
  |true=>
   have:=JP hl h1;have z:(decide (a.from_<=y)&&decide (y<a.to))=false:=(by rw[Bool.and_eq_false_iff,dO,dO];omega);rw[z,h1,Bool.false_or,Bool.false_or]at hy;rw[<- hy]
  |false=>
   cases h2:ie m y with
   |false=>rfl
   |true=>
    have:=JP hm h2;have z:(decide (a.from_<=y)&&decide (y<a.to))=false:=(by rw[Bool.and_eq_false_iff,dO,dO];omega);rw[z,h1,h2]at hy;simp at hy
def DG(l:U aO):U aO:=(kr s7 l).foldl pb []
theorem alV{l:U aO}(h:l.Pairwise λx y=>s7 y x=false):l.Pairwise λx y=>x.from_<=y.from_:=
 h.imp λ{x y} hxy=>by simp only[s7,dO]at hxy;omega
theorem aaE{l:U aO}(h:∀s∈l,D2 s):Can (DG l)/\∀y,ie (DG l) y=ie l y:=by
 have hp:=Eg s7 l;obtain⟨h1,h2⟩:=Qe (kr s7 l) [] aiA (λ s hs=>h s (hp.mem_iff.1 hs)) (alV (aln NY l)) (by simp);exact⟨h1,λy=>by rw[DG,h2,JO,Bool.false_or,aen hp]⟩
theorem ajP{l:U aO}(h:∀s∈l,D2 s):(lu s7 l).foldl pb []=DG l:=by
 have hp:=K9 NY l;obtain⟨h1,h2⟩:=Qe (lu s7 l) [] aiA (λ s hs=>h s (hp.mem_iff.1 hs)) (alV (Ng NY l)) (by simp);have⟨h3,h4⟩:=aaE h;exact WZ h1 h3 λy=>by rw[h2,JO,Bool.false_or,aen hp,h4]
theorem aep(l:U aO):(DG l).length<=l.length:=by
 have:∀(ys ab:U aO),(ys.foldl pb ab).length<=ab.length+ys.length:=by
  intro ys
  induction ys with
  |nil=>intro ab;simp
  |cons y ys ih=>
   intro ab;simp only[foldl_cons,bJ];have:=ih (pb ab y);have:=WY ab y;omega
 have h:=this (kr s7 l) [];rw[eH]at h;simpa[DG]using h
abbrev ek(r:ax):Bool:=decide (0<=r.x0)&&(decide (r.x0<r.x1)&&(decide (r.x1<=1048576)&&(decide (0<=r.y0)&&(decide (r.y0<r.y1)&&decide (r.y1<=1048576)))))
theorem Pr(a b:Bool):(bif a then some b else some false)=some (a&&b):=by cases a<;>rfl
theorem iX(r:ax):nE r=some (ek r):=by simp only[nE,Pr]
def jW(l:U ax)(x:Int):U aO:=(l.filter λr=>decide (r.x0<=x)&&decide (x<r.x1)).map λr=>⟨r.y0,r.y1⟩
def dx(l:U ax)(x:Int):U aO:=DG (jW l x)
theorem Iq(l:U ax)(x:Int):(jW l x).length<=l.length:=by simp only[jW,length_map];exact length_filter_le _ _
theorem yY(l:U ax)(x:Int):(dx l x).length<=l.length:=
 Nat.le_trans (aep _) (Iq l x)
theorem apy{r:ax}(h:ek r=true):r.y0<r.y1:=by simp only[ek,aL,aV]at h;omega
theorem W9{l:U ax}(h:∀r∈l,ek r=true)(x:Int):∀s∈jW l x,D2 s:=by
 intro s hs;simp only[jW,mem_map,mem_filter]at hs;obtain⟨r,⟨hr,_⟩,rfl⟩:=hs;exact apy (h r hr)
theorem Qf{l:U ax}{x:Int}(hl:l.length<1099511627776){n:Nat}(hn:l.length<n):iter (tN l x) n ((0:Int),([]:U aO))=some (jW l x):=by
 have:=fE (l:=l) (step:=tN l x) (λ i (s:List aO)=>((i:Int),s)) (λ r s=>bif decide (r.x0<=x)&&decide (x<r.x1)then s++[⟨r.y0,r.y1⟩]else s) (λ s=>s) (λ i s=>s.length<=i)
  (λ i hi s hs=>?_) (λ s hs=>by simp[tN]) n hn [] (aC _)
 .rw[show ((0:Nat):Int)=0 from rfl]at this;rw[this];congr 1;have gen:∀(ys:U ax)(s:U aO),ys.foldl (λ s r=>bif decide (r.x0<=x)&&decide (x<r.x1)then s++[⟨r.y0,r.y1⟩]else s) s=s++jW ys x:=by
   intro ys
   induction ys with
   |nil=>intro s;simp[jW]
   |cons y ys ih=>
    intro s;simp only[foldl_cons,ih];cases h:(decide (y.x0<=x)&&decide (x<y.x1))with
    |true=>simp[jW,h]
    |false=>simp[jW,h]
  simpa using gen l []
 .have hi':decide ((i:Int)<(l.length:Int))=true:=by simpa using hi
  have ap:bP s.length s.length (sub ([(aO.mk l[i].y0 l[i].y1)]:U aO) 0 1).length 1 16=true:=dm (n:=1);simp only[tN,hi',aj,bf hi,af,Pr];cases h:(decide (l[i].x0<=x)&&decide (x<l[i].x1))with
  |true=>
   simp only[aj,ap,dR,aD,af];refine⟨?_,by simp;omega⟩;rw[bL (by omega)];rfl
  |false=>
   simp only[ak,aD,aj,af];exact⟨by rw[bL (by omega)],by omega⟩
theorem Qg(w1 r2:U aO)(hw:w1.length=r2.length)(hl:r2.length<1099511627776)(hn:r2.length<n):iter (tO w1 r2) n ((0:Int),([]:U aO))=some (r2.foldl pb []):=by
 have:=fE (l:=r2) (step:=tO w1 r2) (λ i (s:List aO)=>((i:Int),s)) (λ r s=>pb s r) (λ s=>s) (λ i s=>s.length<=i)
  (λ i hi s hs=>?_) (λ s hs=>by simp[tO,hw]) n hn [] (aC _)
 .rw[show ((0:Nat):Int)=0 from rfl]at this;exact this
 .refine⟨?_,by have:=WY s r2[i];omega⟩;have hi':decide ((i:Int)<(w1.length:Int))=true:=by simp;omega
  have ib:cC (i:Int) w1.length=true:=aU (by omega);have ap:bP s.length s.length (sub ([r2[i]]:U aO) 0 1).length 1 16=true:=dm (n:=1);simp only[tO,hi',aj,ib,aX hi,af];rcases List.eq_nil_or_concat s with rfl |⟨s0,q,Hx⟩
  .have d0:decide (((([]:U aO).length:Nat):Int)>0)=false:=(by simp);simp only[d0,ak,af,ap,aj,dR,aD];rw[bL (by omega)];rfl
  .rw[List.concat_eq_append]at Hx;subst Hx;have d0:decide (((((s0++[q]).length:Nat):Int))>0)=true:=(by simp<;>omega);have AN:(s0++[q]).length=s0.length+1:=(by simp);have wp:i64.wrap ((((s0++[q]).length:Nat):Int) -1)=(s0.length:Int):=(by rw[mQ (by simp) (by omega),AN];rfl);have Q4:cC (s0.length:Int) (s0++[q]).length=true:=aU (by omega);have g:bp (s0++[q]) (((0:Nat):Int)+(s0.length:Int))=some q:=(by rw[Ec];simp);have z:(((0:Nat):Int)+(s0.length:Int)).toNat=s0.length:=(by simp);have st:(s0++[q]).set s0.length (aO.mk q.from_ (max q.to r2[i].to))=s0++[⟨q.from_,max q.to r2[i].to⟩]:=(by simp);have m:pb (s0++[q]) r2[i]=bif decide (r2[i].from_<=q.to)then s0++[⟨q.from_,max q.to r2[i].to⟩]else s0++[q]++[r2[i]]:=(by simp[pb]);simp only[d0,aj,wp,Q4,g,af,m,z,st];cases decide (r2[i].from_<=q.to)with
   |true=>
    have e:az (s0++[q]).length (s0++[(⟨q.from_,max q.to r2[i].to⟩:aO)]).length=true:=(by simp);simp only[aj,e,af,aD];rw[bL (by omega)]
   |false=>
    simp only[ak,ap,aj,dR,aD,af];rw[bL (by omega)];rfl
theorem ab3{l:U ax}{x:Int}(hv:∀r∈l,ek r=true)(hl:l.length<1099511627776)(hn:l.length<n):JG n l x=some (dx l x):=by
 have h1:=Iq l x;have h2:(lu s7 (jW l x)).length=(jW l x).length:=xG NY _;unfold JG;simp only[length_nil,aD,aj,Qf (x:=x) (l:=l) (by omega) (n:=n) (by omega),af];rw[J4 (λ a b=>if a.from_<b.from_ then -1 else if b.from_<a.from_ then 1 else 0) (λ a b=>by show xJ a b=_;unfold xJ;rw[kE];rfl) (λ a b=>by
  by_cases h1:a.from_<b.from_
  .simp[h1]
  .by_cases h2:b.from_<a.from_<;>simp[h1,h2]) (by omega) (by omega)]
 simp only[af];rw[Qg _ _ h2.symm (by omega) (by omega)];simp only[af,bZ,aD,aj];rw[ajP (W9 hv x)];rfl
def gY(l:U ax):U Int:=FF (l.flatMap λr=>[r.x0,r.x1])
def jg{α:Type}(f:Int->Int->α):U Int->U α
 |a::b::l=>f a b::jg f (b::l)
 |_=>[]
def bD(l:U ax):U bX:=jg (λ a b=>⟨a,b,dx l a⟩) (gY l)
theorem rX{α:Type}(f:Int->Int->α):∀(l:U Int),(jg f l).length=l.length -1/\∀i (h:i+1<l.length) (h':i<(jg f l).length),(jg f l)[i]=f l[i] l[i+1]
 |[]=>⟨rfl,λi h=>by simp at h⟩
 |[a]=>⟨rfl,λi h=>by simp at h⟩
 |a::b::l=>by
  have⟨h1,h2⟩:=rX f (b::l);refine⟨by simp only[jg,bJ,h1];simp,λi h h'=>?_⟩;cases i with
  |zero=>rfl
  |succ i=>
   simp only[jg,List.getElem_cons_succ];exact h2 i (by simpa using h) _
theorem wQ(l:U ax):(l.flatMap λr=>[r.x0,r.x1]).length=2*l.length:=by
 induction l with
 |nil=>rfl
 |cons x l ih=>simp only[List.flatMap_cons,dM,ih,bJ,length_nil];omega
theorem rG(l:U Int):(gJ l).length<=l.length:=by
 match l with
 |[]=>simp[gJ]
 |[x]=>simp[gJ]
 |x::y::l=>
  have:=rG (y::l);simp only[gJ];cases x==y<;>simp at* <;>omega
theorem KP(l:U ax):(gY l).length<=2*l.length:=by
 have h:=rG (kr (λ a b=>decide (a<b)) (l.flatMap λr=>[r.x0,r.x1]));rw[eH,wQ]at h;exact h
theorem Qh{l:U ax}(hl:l.length<10995116277)(hn:l.length<n):iter (tQ l) n ((0:Int),([]:U Int))=some (l.flatMap λr=>[r.x0,r.x1]):=by
 have:=fE (l:=l) (step:=tQ l) (λ i (s:List Int)=>((i:Int),s)) (λ r s=>s++[r.x0,r.x1]) (λ s=>s) (λ i s=>s.length<=2*i)
  (λ i hi s hs=>?_) (λ s hs=>by simp[tQ]) n hn [] (aC _)
 .rw[show ((0:Nat):Int)=0 from rfl]at this;rw[this];have gen:∀(ys:U ax)(s:U Int),ys.foldl (λ s r=>s++[r.x0,r.x1]) s=s++ys.flatMap λr=>[r.x0,r.x1]:=by
   intro ys
   induction ys with
   |nil=>intro s;simp
   |cons y ys ih=>intro s;simp[ih]
  congr 1;simpa using gen l []
 .have hi':decide ((i:Int)<(l.length:Int))=true:=by simpa using hi
  have ap:bP s.length s.length (sub ([l[i].x0,l[i].x1]:U Int) 0 2).length 2 8=true:=dm (n:=2);simp only[tQ,hi',aj,aU hi,aX hi,af,ap,dR,aD];refine⟨?_,by simp;omega⟩;rw[bL (by omega)];rfl
theorem xW{ls:U (List ax)}(hv:∀r∈ls.flatten,ek r=true)(hl:ls.flatten.length<10995116277)(hls:ls.length<1099511627776)(hn:2*ls.flatten.length<n)(hn2:ls.length<n):ow n ls=some (bD ls.flatten):=by
 unfold ow;rw[NW (by omega) hls hn2];generalize ls.flatten=l at*;have he:=KP l;simp only[af,length_nil,aD,aj,Qh (l:=l) (n:=n) (by omega) (by omega)];rw[pq (by rw[wQ];omega) (by rw[wQ];omega)];simp only[af,eH,aD,aj];rw[uD (by rw[eH,wQ];omega) (by rw[eH,wQ];omega)];simp only[af];have hE:gJ (kr oe (l.flatMap λr=>[r.x0,r.x1]))=gY l:=rfl;rw[hE];obtain⟨p1,p2⟩:=rX (λ a b=>(⟨a,b,dx l a⟩:bX)) (gY l);have key:iter (tT n l ((),gY l)) n ((1:Int),([]:U bX))=some (bD l):=by
  have:=mF (step:=tT n l ((),gY l)) (λ i=>(((i+1:Nat):Int),(bD l).take i)) (bD l).length (bD l) (λ i hi=>?_) ?_ n (by unfold bD;omega)
  .simpa using this
  .have hi2:i+1<(gY l).length:=(by unfold bD at hi;omega);have d:decide (((i+1:Nat):Int)<(((gY l).length:Nat):Int))=true:=(by simp;omega);have wp:i64.wrap (((i+1:Nat):Int) -1)=(i:Int):=(by rw[mQ (by omega) (by omega)];rfl);have ap:bP ((bD l).take i).length ((bD l).take i).length (sub ([(bX.mk ((gY l)[i]'(by omega)) (gY l)[i+1] (dx l ((gY l)[i]'(by omega))))]:U bX) 0 1).length 1 40=true:=by
    refine dm (n:=1) ?_ ?_
    .rw[length_take];unfold bD;omega
    .rw[length_take];unfold bD;simp only[maxLen];omega
   have tk:(bD l).take (i+1)=(bD l).take i++[⟨(gY l)[i]'(by omega),(gY l)[i+1],dx l ((gY l)[i]'(by omega))⟩]:=by
    rw[gB hi];congr 2;exact p2 i hi2 hi
   simp only[tT,d,aj,wp,aU (show i<(gY l).length by omega),aX (show i<(gY l).length by omega),af,aU hi2,aX hi2,bZ,aD,ab3 (l:=l) (n:=n) hv (by omega) (by omega),ap,dR];rw[bL (by omega),tk];rfl
  .have d:decide ((((bD l).length+1:Nat):Int)<(((gY l).length:Nat):Int))=false:=(by unfold bD;simp;omega);simp only[tT,d,ak,List.take_length,aD,aj]
 rw[key];simp only[af,bZ,aD,aj]
def EM(x0 x1:Int)(c:U aO):U ax:=c.map λq=>⟨x0,q.from_,x1,q.to⟩
def DE(x0 x1:Int)(c:U aO):U bX->U ax
 |[]=>EM x0 x1 c
 |s::l=>if s.column=c then DE x0 s.x1 c l else EM x0 x1 c++DE s.x0 s.x1 s.column l
def nP:U bX->U ax
 |[]=>[]
 |s::l=>DE s.x0 s.x1 s.column l
theorem aaF(x0:Int)(c:U aO):∀(l:U bX)(x1:Int)(k:Nat)(hk:k<=l.length),(∀ j (hj:j<k),(l[j]'(by omega)).column=c)->(∀ h:k<l.length,l[k].column≠c)->
 DE x0 x1 c l=EM x0 (if h:0<k then(l[k -1]'(by omega)).x1 else x1) c++nP (l.drop k)
 |l,x1,0,_,_,h2=>by
  cases l with
  |nil=>simp[DE,nP]
  |cons s l=>
   have:=h2 (by simp);simp only[List.getElem_cons_zero]at this;simp[DE,nP,this]
 |[],x1,k+1,hk,_,_=>by simp at hk
 |s::l,x1,k+1,hk,h1,h2=>by
  have e0:=h1 0 (by omega);simp only[List.getElem_cons_zero]at e0;simp only[DE,e0,if_true];rw[aaF x0 c l s.x1 k (by simpa using hk) (λ j hj=>by have:=h1 (j+1) (by omega);simpa using this) (λ h=>by have:=h2 (by simpa using h);simpa using this)];simp only[List.drop_succ_cons];congr 2;by_cases hk0:0<k
  .simp only[hk0,dite_true,Nat.zero_lt_succ,Nat.add_sub_cancel];obtain⟨m,rfl⟩:∃m,k=m+1:=⟨k -1,by omega⟩;simp
  .have:k=0:=(by omega);subst this;simp
theorem SA{l:U bX}{i k:Nat}(hi:i<l.length)(hk1:0<k)(hk:k<=l.length)(hl:l.length<10995116277)(x3:bX)(ab:U ax)(ho:ab.length<1099511627776)(hc:x3.column.length<1099511627776)(hn:x3.column.length<n):
 iter (wF l (i:Int) (k:Int) x3) n ((0:Int),ab)=some (ab++EM l[i].x0 (l[k -1]'(by omega)).x1 x3.column):=by
 have:=fE (l:=x3.column) (step:=wF l (i:Int) (k:Int) x3) (λ j (s:List ax)=>((j:Int),s)) (λ q s=>s++[⟨l[i].x0,q.from_,(l[k -1]'(by omega)).x1,q.to⟩]) (λ s=>s) (λ j s=>s.length<=ab.length+j)
  (λ j hj s hs=>?_) (λ s hs=>by simp[wF]) n hn ab (aC _)
 .rw[show ((0:Nat):Int)=0 from rfl]at this;rw[this];have gen:∀(ys:U aO)(s:U ax),ys.foldl (λ s q=>s++[⟨l[i].x0,q.from_,(l[k -1]'(by omega)).x1,q.to⟩]) s=s++EM l[i].x0 (l[k -1]'(by omega)).x1 ys:=by
   intro ys
   induction ys with
   |nil=>intro s;simp[EM]
   |cons y ys ih=>intro s;simp only[foldl_cons,ih];simp[EM]
  rw[gen]
 .have hj':decide ((j:Int)<(x3.column.length:Int))=true:=by simpa using hj
  have wp:i64.wrap ((k:Int) -1)=((k -1:Nat):Int):=mQ hk1 (by omega);have ap:bP s.length s.length (sub ([(ax.mk l[i].x0 (x3.column[j]).from_ (l[k -1]'(by omega)).x1 (x3.column[j]).to)]:U ax) 0 1).length 1 32=true:=dm (n:=1);simp only[wF,hj',aj,bf hj,bf hi,wp,bf (show k -1<l.length by omega),af,ap,dR,aD];refine⟨?_,by simp;omega⟩;rw[bL (by omega)];rfl
theorem RS{l:U bX}{b:Nat}(hb:b<=100000)(hl:l.length<=100000)(hc:∀s∈l,s.column.length<=b)(hn:b<n)(hn2:l.length<n):Ig n l=some (nP l):=by
 unfold Ig;simp only[length_nil,aD,aj];have main:∀(m i:Nat)(ab:U ax)(k:Nat),i+m=l.length->m<k->ab.length<=i*b->iter (wG n l) k ((i:Int),ab)=some (ab++nP (l.drop i)):=by
  intro m
  induction m using Nat.strongRecOn with
  |ind m ih=>
   intro i ab k him hk ho;obtain⟨k,rfl⟩:∃j,k=j+1:=⟨k -1,by omega⟩;by_cases hm:m=0
   .subst hm;have:i=l.length:=(by omega);subst this;refine fG ?_;simp[wG,nP]
   .have hi:i<l.length:=(by omega);have di:decide ((i:Int)<(l.length:Int))=true:=(by simpa using hi);obtain⟨q,hq1,hq2,hq3,hq4⟩:∃q,i<q/\q<=l.length/\(∀ j,i<j->j<q->∀h:j<l.length,l[j].column=l[i].column)/\(∀ h:q<l.length,l[q].column≠l[i].column):=by
     rcases KL (λ j=>if h:j<l.length then decide (l[j].column≠l[i].column)else false) (i+1) l.length with ⟨q,h1,h2,h3,h4⟩ |h
     .simp only[h2,dite_true,aV]at h3;refine⟨q,by omega,by omega,λj hj1 hj2 hj=>?_,λ_=>h3⟩;have:=h4 j (by omega) hj2;simp only[hj,dite_true,dO,ne_eq,Decidable.not_not]at this;exact this
     .refine⟨l.length,hi,aC _,λj hj1 hj2 hj=>?_,λh=>by omega⟩;have:=h j (by omega) hj;simp only[hj,dite_true,dO,ne_eq,Decidable.not_not]at this;exact this
    have cl:∀j (hj:j<l.length),l[j].column.length<=b:=λj hj=>hc _ (getElem_mem hj);have r2:iter (sJ n l (i:Int)) n (i64.wrap ((i:Int)+1))=some (q:Int):=by
     rw[bL (by omega)];have:=mF (step:=sJ n l (i:Int)) (λ j=>((i+1+j:Nat):Int)) (q -(i+1)) (q:Int) (λ j hj=>?_) ?_ n (by omega)
     .simpa using this
     .have hjl:i+1+j<l.length:=(by omega);have dj:decide (((i+1+j:Nat):Int)<(l.length:Int))=true:=(by simp;omega);have hcc:=cl (i+1+j) hjl;simp only[sJ,dj,aj,bf hjl,bf hi,af];rw[CW (by omega) (by omega),hq3 (i+1+j) (by omega) (by omega) hjl];simp only[decide_true,af,aj];rw[bL (by omega)];rfl
     .rw[show i+1+(q -(i+1))=q by omega];by_cases yy:q<l.length
      .have dj:decide ((q:Int)<(l.length:Int))=true:=(by simpa using yy);have hcc:=cl q yy;simp only[sJ,dj,aj,bf yy,bf hi,af];rw[CW (by omega) (by omega)];simp[hq4 yy]
      .have dj:decide ((q:Int)<(l.length:Int))=false:=(by simp;omega);simp only[sJ,dj,ak,af]
    have ob:i*b<=100000*100000:=Nat.mul_le_mul (by omega) hb;have hci:=cl i hi;have r3:=SA (n:=n) hi (show 0<q by omega) hq2 (by omega) l[i] ab (by omega) (by omega) (by omega);have step:wG n l ((i:Int),ab)=some (.inl ((q:Int),ab++EM l[i].x0 (l[q -1]'(by omega)).x1 l[i].column)):=(by simp only[wG,di,aj,r2,bf hi,af,aD,r3]);rw[iO step,ih (l.length -q) (by omega) q _ k (by omega) (by omega) (by
     rw[dM,EM,length_map];have:(i+1)*b<=q*b:=Nat.mul_le_mul_right _ (by omega);rw[Nat.add_mul]at this;omega)]
    rw[aM];congr 2
    conv=>rhs;rw[List.drop_eq_getElem_cons hi]
    simp only[nP];rw[aaF l[i].x0 l[i].column (l.drop (i+1)) l[i].x1 (q -(i+1)) (by rw[length_drop];omega) (λ j hj=>by
     rw[getElem_drop];exact hq3 _ (by omega) (by omega) (by omega)) (λ h=>by
     rw[length_drop]at h;rw[getElem_drop];have:=hq4 (by omega);have hqq:i+1+(q -(i+1))=q:=(by omega);simp only[hqq];exact this)]
    rw[List.drop_drop,show i+1+(q -(i+1))=q by omega];congr 2;by_cases h0:0<q -(i+1)
    .simp only[h0,dite_true,getElem_drop];congr 2;omega
    .simp only[h0,dite_false];have:q -1=i:=(by omega);congr 2
 have:=main l.length 0 [] n (by omega) (by omega) (by simp);simp only[Int.natCast_zero,bQ,List.drop_zero]at this;rw[this];simp
def sf(l:U ax):U ax×Int:=
 if l.all ek then(if l.length>400 then([],6)else if (nP (bD l)).length>200 then([],6)else(nP (bD l),0))else([],1)
def cT(l:U ax):Bool:=decide ((sf l).2=0)&&decide ((sf l).1=l)
theorem aer{l:U ax}{s:bX}(h:s∈bD l):s.column.length<=l.length:=by
 obtain⟨i,hi,rfl⟩:=List.getElem_of_mem h;obtain⟨p1,p2⟩:=rX (λ a b=>(⟨a,b,dx l a⟩:bX)) (gY l);have:(bD l)[i]=⟨(gY l)[i]'(by unfold bD at hi;omega),(gY l)[i+1]'(by unfold bD at hi;omega),dx l ((gY l)[i]'(by unfold bD at hi;omega))⟩:=p2 i (by unfold bD at hi;omega) hi;rw[this];exact yY l _
theorem uE(l:U ax):(bD l).length<=2*l.length:=by
 obtain⟨p1,_⟩:=rX (λ a b=>(⟨a,b,dx l a⟩:bX)) (gY l);have:=KP l;unfold bD;omega
theorem alW{l:U ax}(hl:l.length<1099511627776)(hl2:l.length<n)(hn:1000<=n):MT n l=some (sf l):=by
 unfold MT;have h1:=pM (l:=l) (step:=NG l) (λ i=>(i:Int)) (λ r=>!ek r) () (λ _=>(([]:U ax),(1:Int))) (λ i hi=>?_) ?_ n (by omega)
 .rw[show ((0:Nat):Int)=0 from rfl]at h1;rw[h1];have h2:=pO (λ r=>!ek r) l;cases hf:nU (λ r=>!ek r) l with
  |some i=>
   rw[hf]at h2;have:l.all ek=false:=by
    rw[<- Bool.not_eq_true,all_eq_true];intro hall;have h3:=h2.symm;simp only[Option.isSome_some,any_eq_true]at h3;obtain⟨x,hx,hx2⟩:=h3;rw[hall x hx]at hx2;cases hx2
   simp[sf,this]
  |none=>
   rw[hf]at h2;have:l.all ek=true:=by
    rw[all_eq_true];intro x hx;cases h:ek x with
    |true=>rfl
    |false=>
     have:l.any (λ r=>!ek r)=true:=any_eq_true.2 ⟨x,hx,by rw[h];rfl⟩;rw[this]at h2;cases h2
   have hv:∀r∈l,ek r=true:=all_eq_true.1 this;by_cases xl:l.length>400
   .have d4:decide ((l.length:Int)>400)=true:=(by simp;omega);simp only[dW,d4,aj,sf,this,if_true,aY xl]
   have d4:decide ((l.length:Int)>400)=false:=(by simp;omega);have ls:=uE l;simp only[dW,d4,ak];have fl:[l].flatten=l:=(by simp);rw[show (sub ([l]:U (List ax)) 0 1)=[l]from rfl,xW (ls:=[l]) (by rw[fl];exact hv) (by rw[fl];omega) (by simp) (by rw[fl];omega) (by simp;omega),fl];simp only[length_singleton,aD,aj,af,bZ];rw[RS (b:=400) (by omega) (by omega) (λ s hs=>Nat.le_trans (aer hs) (by omega)) (by omega) (by omega)];simp only[af,bZ,aD,aj,yS,sf,this,if_true,aR xl];by_cases rb:(nP (bD l)).length>200
   .have:decide (((nP (bD l)).length:Int)>200)=true:=(by simp;omega);simp only[this,aj,af,rb,if_true]
   .have:decide (((nP (bD l)).length:Int)>200)=false:=(by simp;omega);simp only[this,ak,af,rb,if_false]
 .have hi':decide ((i:Int)<(l.length:Int))=true:=by simpa using hi
  simp only[NG,hi',aj,bf hi,af,iX];cases ek l[i]with
  |false=>rfl
  |true=>simp only[Bool.not_true,ak];rw[bL (by omega)]
 .simp[NG]
theorem lV{l:U ax}(hl:l.length<1099511627776)(hl2:l.length<n)(hn:1000<=n):nV n l=some (cT l):=by
 unfold nV cT;rw[alW hl hl2 hn];simp only[af];by_cases h:(sf l).2=0
 .have e:((sf l).2==0)=true:=by simp[h]
  have lo:(sf l).1.length<=200:=by
   unfold sf;split
   .split
    .simp
    .split
     .simp
     .simp;omega
   .simp
  by_cases hlen:(sf l).1.length<n
  .simp only[e,aj,h,decide_true,Bool.true_and];rw[CV (by omega) hlen];rfl
  .have:(sf l).1.length≠l.length:=(by omega);have hne:(sf l).1≠l:=λe=>this (by rw[e]);simp only[e,aj,h,decide_true,Bool.true_and];unfold oC;have hb:(((sf l).1.length:Int) !=(l.length:Int))=true:=(by simp;omega);rw[hb];simp[hne]
 .have e:((sf l).2==0)=false:=by simp[h]
  simp[e,h]
theorem N7{α:Type}(c:Bool)(a b:α):(bif c then some a else some b)=some (bif c then a else b):=by cases c<;>rfl
theorem aaG(i n:Nat):Int.tmod (i:Int) (n:Int)=((i%n:Nat):Int):=by rw[Int.tmod_eq_emod_of_nonneg (by omega)];omega
theorem bI{i n:Nat}(h:i<n):decide ((i:Int)<(n:Int))=true:=by simpa using h
theorem bS(n:Nat):decide ((n:Int)<(n:Int))=false:=by simp
theorem aiB{k b:Nat}(h:k*b<=140737488355328)(h2:k<=maxLen):zH (k:Int) b=true:=by
 have e:((k:Int)).toNat=k:=by omega
 simp only[zH,aL,aV,e];exact⟨⟨by omega,h⟩,h2⟩
def pL(p:U dS)(i:Nat):dS:=p.getD i ⟨0,0⟩
def jh(p:U dS)(i:Nat):jC:=⟨(pL p i).x,(pL p i).y,(pL p ((i+1)%p.length)).x,(pL p ((i+1)%p.length)).y⟩
def gu(p:U dS):U jC:=(List.range p.length).map (jh p)
theorem UG{p:U dS}{i:Nat}(h:i<p.length):pL p i=p[i]:=by simp[pL,h]
theorem d9(p:U dS):(gu p).length=p.length:=by simp[gu]
theorem yZ{p:U dS}{i:Nat}(h:i<(gu p).length):(gu p)[i]=jh p i:=by simp[gu]
theorem alX{α:Type}(A B:U α)(z x:α):(A++z::B).set A.length x=A++x::B:=by rw[List.set_append_right _ _ (aC _),Nat.sub_self];rfl
theorem AA{p:U dS}(hl:p.length<=100000)(hn:p.length<n):o7 n p=some (gu p):=by
 unfold o7;have mk:zH (p.length:Int) 32=true:=aiB (by omega) (by show p.length<=2 ^ 63 -1;omega);have main:=mF (step:=oK p) (λ i=>((i:Int),(List.range i).map (jh p)++List.replicate (p.length -i) (jC.mk 0 0 0 0))) p.length (gu p) (λ i hi=>?_) ?_ n hn
 .have z:((p.length:Int)).toNat=p.length:=by omega
  simp only[List.range_zero,List.map_nil,bQ,Nat.sub_zero]at main;have d1:decide ((p.length:Int)<=(p.length:Int))=true:=by simp
  have d2:decide ((0:Int)<=(p.length:Int))=true:=by simp
  rw[mk,d1,d2,z];simp only[Bool.and_self,aj];rw[show ((0:Nat):Int)=0 from rfl]at main;rw[main];simp only[af];have e:sub (gu p) 0 p.length=gu p:=by rw[<- d9 p];exact bZ _
  rw[e,d9];simp
 .have nz:((p.length:Int) !=0)=true:=by simp;intro h;rw[h]at hi;simp at hi
  have md:(i+1)%p.length<p.length:=Nat.mod_lt _ (by omega);have w:i64.wrap ((i:Int)+1)=((i+1:Nat):Int):=bL (by omega);have z:((p.length:Int)).toNat=p.length:=by omega
  have rp:List.replicate (p.length -i) (jC.mk 0 0 0 0)=jC.mk 0 0 0 0::List.replicate (p.length -(i+1)) (jC.mk 0 0 0 0):=by rw[show p.length -i=(p.length -(i+1))+1 by omega,List.replicate_succ]
  have la:((List.range i).map (jh p)).length=i:=by simp
  have g:bp ((List.range i).map (jh p)++List.replicate (p.length -i) (jC.mk 0 0 0 0)) (((0:Nat):Int)+(i:Int))=some (jC.mk 0 0 0 0):=by rw[Ec,jE (by omega),la,rp,Nat.sub_self];rfl
  have z2:(((0:Nat):Int)+(i:Int)).toNat=i:=by omega
  have st:((List.range i).map (jh p)++List.replicate (p.length -i) (jC.mk 0 0 0 0)).set i (jh p i)=(List.range (i+1)).map (jh p)++List.replicate (p.length -(i+1)) (jC.mk 0 0 0 0):=by
   rw[rp];have:=alX ((List.range i).map (jh p)) (List.replicate (p.length -(i+1)) (jC.mk 0 0 0 0)) (jC.mk 0 0 0 0) (jh p i);rw[la]at this;rw[this,List.range_succ,map_append,aM];rfl
  simp only[oK,bI hi,aj,bf hi,af,nz,w,aaG,bf md,z,aU hi,g,z2];rw[<- UG hi,<- UG md];rw[show jC.mk (pL p i).x (pL p i).y (pL p ((i+1)%p.length)).x (pL p ((i+1)%p.length)).y=jh p i from rfl,st]
 .simp only[oK,bS,ak,Nat.sub_self,List.replicate_zero,append_nil];rfl
def UH(a:dS):Bool:=decide (0<=a.x)&&(decide (a.x<=1048576)&&(decide (0<=a.y)&&decide (a.y<=1048576)))
def ud(s:jC):Bool:=s.lz==s.mi
def Pl(s t:jC):Bool:=decide (max (min s.lz s.mi) (min t.lz t.mi)<=min (max s.lz s.mi) (max t.lz t.mi))&&decide (max (min s.pD s.t8) (min t.pD t.t8)<=min (max s.pD s.t8) (max t.pD t.t8))
def UI(a b:dS):Bool:=decide (a.x<b.x) || (a.x==b.x&&decide (a.y<b.y))
theorem N8(a:dS):tY a=some (UH a):=by simp only[tY,Pr,UH]
theorem CX(s t:jC):lJ s t=some (Pl s t):=by simp only[lJ,Pr,Pl]
theorem mX(s:jC):gK s=some (ud s):=rfl
theorem Xa(a b:Int)(hn:3<=n):rR n [a,b]=some (if a=0 then b else a):=by
 obtain⟨m,rfl⟩:∃m,n=m+3:=⟨n -3,by omega⟩;have w1:i64.wrap ((0:Int)+1)=1:=by decide
 have w2:i64.wrap ((1:Int)+1)=2:=by decide
 by_cases ha:a=0
 .by_cases hb:b=0
  .subst ha;subst hb;simp only[rR,CJ,vJ,w1,w2];rfl
  .have hb':(b !=0)=true:=(by simpa using hb);subst ha;simp only[rR,CJ,vJ,w1];simp[bp,hb',dw]
 .have ha':(a !=0)=true:=by simpa using ha
  simp only[rR,CJ,vJ];simp[bp,ha',dw,ha]
theorem Lf(a b:dS)(hn:3<=n):∃r,rq n a b=some r/\decide (r>=0)=!UI a b:=by
 unfold rq;rw[kE,kE];simp only[af];rw[show ∀u v:Int,sub [u,v] 0 2=[u,v]from λ_ _=>rfl,Xa _ _ hn];refine⟨_,rfl,?_⟩;unfold UI;by_cases h1:a.x<b.x
 .simp[h1]
 .by_cases h2:b.x<a.x
  .have h3:¬a.x=b.x:=(by omega);simp[h1,h2,h3]
  .have h3:a.x=b.x:=(by omega);by_cases h4:a.y<b.y
   .simp[h3,h4]
   .by_cases h5:b.y<a.y<;>simp[h3,h4,h5]
def IT(p:U dS)(i:Nat):Bool:=
 (!UH (pL p i) || ((((jh p i).lz==(jh p i).mi)==((jh p i).pD==(jh p i).t8)) || (ud (jh p i)==ud (jh p ((i+1)%p.length))))) || (decide (0<i)&&!UI (pL p 0) (pL p i))
def SB(p:U dS)(i k:Nat):Bool:=decide (i+p.length -k>1)&&Pl (jh p i) (jh p k)
def Qi(p:U dS):Bool:=
 decide (4<=p.length)&&(decide (p.length<=60)&&(!((List.range p.length).any (IT p))&&(!((List.range p.length).any λi=>(List.range p.length).any λk=>decide (i+2<=k)&&SB p i k)&&!ud (jh p 0))))
def ZD(l:U ax)(x y:Int):Bool:=l.any λr=>(decide (r.x0<=x)&&decide (x<r.x1))&&(decide (r.y0<=y)&&decide (y<r.y1))
theorem aes(l:U ax)(x y:Int):ie (jW l x) y=ZD l x y:=by
 induction l with
 |nil=>rfl
 |cons r l ih=>
  unfold jW ZD at*;rw[List.filter_cons,List.any_cons,<- ih];cases h:(decide (r.x0<=x)&&decide (x<r.x1))with
  |true=>simp only[if_true,aF,Bool.true_and];rw[oh]
  |false=>simp
theorem N9{l:U ax}(h:∀r∈l,ek r=true)(x:Int):Can (dx l x)/\∀y,ie (dx l x) y=ZD l x y:=by
 have⟨h1,h2⟩:=aaE (W9 h x);exact⟨h1,λy=>by rw[dx,h2,aes]⟩
def Xb:U bX->Prop
 |[]=>True
 |[s]=>s.x0<s.x1
 |s::t::l=>s.x0<s.x1/\s.x1=t.x0/\Xb (t::l)
def Ir:U bX->Int->U aO
 |[],_=>[]
 |s::l,x=>bif decide (s.x0<=x)&&decide (x<s.x1)then s.column else Ir l x
theorem y5(s:bX)(l:U bX)(x:Int):Ir (s::l) x=bif decide (s.x0<=x)&&decide (x<s.x1)then s.column else Ir l x:=rfl
def Runs:U bX->Prop
 |[]=>True
 |[s]=>s.x0<s.x1/\s.column≠[]
 |s::t::l=>(s.x0<s.x1/\s.column≠[])/\s.x1<=t.x0/\(s.x1=t.x0->s.column≠t.column)/\Runs (t::l)
theorem anF{s:bX}{l:U bX}{x:Int}(h1:s.x0<=x)(h2:x<s.x1):Ir (s::l) x=s.column:=by rw[y5,show(decide (s.x0<=x)&&decide (x<s.x1))=true by simp[h1,h2]];rfl
theorem qb{α:Type}(f:Int->Int->α)(a b:Int)(l:U Int):jg f (a::b::l)=f a b::jg f (b::l):=rfl
theorem Oa(g:Int->U aO):∀(es:U Int),es.Pairwise (· < ·)->Xb (jg (λ a b=>(⟨a,b,g a⟩:bX)) es)
 |[],_=>trivial
 |[_],_=>trivial
 |[a,b],h=>by
  have h1:=(pairwise_cons.1 h).1 b (by simp);exact h1
 |a::b::c::l,h=>by
  have h1:=(pairwise_cons.1 h).1 b (by simp);exact⟨h1,rfl,Oa g (b::c::l) (pairwise_cons.1 h).2⟩
theorem Iu(g:Int->U aO)(x:Int):∀(es:U Int),(∀ e∈es,x<e)->Ir (jg (λ a b=>(⟨a,b,g a⟩:bX)) es) x=[]
 |[],_=>rfl
 |[_],_=>rfl
 |a::b::l,h=>by
  have ha:=h a (by simp);rw[qb,y5,show(decide (a<=x)&&decide (x<b))=false by rw[Bool.and_eq_false_iff,dO];left;omega,ak];exact Iu g x (b::l) λe he=>h e (eG _ he)
theorem Iw(g:Int->U aO)(x:Int):∀(l:U Int)(a:Int),(a::l).Pairwise (· < ·)->a<=x->
 (∀ e∈a::l,e<=x->(∀ e'∈a::l,e'<=e\/x<e')->g e=g x)->((∀ e∈a::l,e<=x)->g x=[])->Ir (jg (λ a b=>(⟨a,b,g a⟩:bX)) (a::l)) x=g x
 |[],a,_,hx,_,h2=>(h2 (λ e he=>by have:e=a:=by simpa using he
                                  subst this;exact hx)).symm
 |b::l,a,hp,hx,h1,h2=>by
  have hab:=(pairwise_cons.1 hp).1 b (by simp);rw[qb,y5];by_cases hb:x<b
  .rw[show (decide (a<=x)&&decide (x<b))=true by simp[hx,hb],aj];refine h1 a (by simp) hx λe he=>?_;rcases aN.1 he with rfl |he
   .exact .inl (Int.le_refl _)
   .right;rcases aN.1 he with rfl |he
    .exact hb
    .have:=(pairwise_cons.1 (pairwise_cons.1 hp).2).1 e he;omega
  .rw[show (decide (a<=x)&&decide (x<b))=false by simp[hb],ak];refine Iw g x l b (pairwise_cons.1 hp).2 (by omega) (λ e he hex hc=>h1 e (eG _ he) hex λe' he'=>?_) λhall=>h2 λe he=>?_
   .rcases aN.1 he' with rfl |he'
    .left;have:=(pairwise_cons.1 hp).1 e he;omega
    .exact hc e' he'
   .rcases aN.1 he with rfl |he
    .exact hx
    .exact hall e he
theorem aeu(g:Int->U aO)(es:U Int)(hp:es.Pairwise (· < ·))(x:Int)
 (h1:∀e∈es,e<=x->(∀ e'∈es,e'<=e\/x<e')->g e=g x) (h2:(∀ e∈es,e<=x)->g x=[]) (h3:(∀ e∈es,x<e)->g x=[]):Ir (jg (λ a b=>(⟨a,b,g a⟩:bX)) es) x=g x:=by
 cases es with
 |nil=>exact(h3 (by simp)).symm
 |cons a l=>
  by_cases hx:a<=x
  .exact Iw g x l a hp hx h1 h2
  .have hall:∀e∈a::l,x<e:=by
    intro e he;rcases aN.1 he with rfl |he
    .omega
    .have:=(pairwise_cons.1 hp).1 e he;omega
   rw[Iu g x _ hall,h3 hall]
theorem Xc{l:U ax}{z:Int}:z∈gY l↔∃r∈l,z=r.x0\/z=r.x1:=by
 rw[gY,alj,List.mem_flatMap];simp
theorem KQ(l:U ax):(gY l).Pairwise (· < ·):=adZ _
theorem Y2{l:U ax}{es:U Int}(hes:∀r∈l,r.x0∈es/\r.x1∈es){e x:Int}(hex:e<=x)(hc:∀e'∈es,e'<=e\/x<e'):jW l e=jW l x:=by
 unfold jW;congr 1;refine List.filter_congr λr hr=>?_;have⟨h0,h1⟩:=hes r hr;have:=hc _ h0;have:=hc _ h1;rw[j5,aL,aL,aV,aV,aV,aV];omega
theorem Ob{l:U ax}{x:Int}(h:∀r∈l,x<r.x0\/r.x1<=x):jW l x=[]:=by
 unfold jW;rw[List.map_eq_nil_iff,List.filter_eq_nil_iff];intro r hr;have:=h r hr;rw[aL,aV,aV];omega
theorem Iy(l:U ax):Xb (bD l):=Oa _ _ (KQ l)
theorem KR(l:U ax)(x:Int):Ir (bD l) x=dx l x:=by
 have hes:∀r∈l,r.x0∈gY l/\r.x1∈gY l:=λr hr=>⟨Xc.2 ⟨r,hr,.inl rfl⟩,Xc.2 ⟨r,hr,.inr rfl⟩⟩;refine aeu (dx l) (gY l) (KQ l) x (λ e _ hex hc=>?_) (λ hall=>?_) (λ hall=>?_)
 .unfold dx;rw[Y2 hes hex hc]
 .unfold dx;rw[Ob λr hr=> .inr (hall _ (hes r hr).2)];rfl
 .unfold dx;rw[Ob λr hr=> .inl (hall _ (hes r hr).1)];rfl
theorem ajQ{a:U ax}(h:cT a=true):sf a=(a,0):=by
 unfold cT at h;rw[aL,aV,aV]at h;obtain⟨h1,h2⟩:=h;exact Prod.ext h2 h1
theorem uF{a:U ax}(h:cT a=true):(∀ r∈a,ek r=true)/\a.length<=200/\nP (bD a)=a:=by
 have h:=ajQ h;unfold sf at h;split at h
 .rename_i hall;split at h
  .simp at h
  .split at h
   .simp at h
   .rename_i rb;injection h with h _;refine⟨all_eq_true.1 hall,?_,h⟩;rw[<- h];omega
 .simp at h
def ext(ab:U aO)(p:aO):U aO:=
 match ab.getLast? with
 |some q=>bif q.to==p.from_ then ab.dropLast++[⟨q.from_,p.to⟩]else ab++[p]
 |none=>[p]
def kA(a b:U aO):U Int:=FF ((a++b).flatMap λs=>[s.from_,s.to])
def uG(keep:Bool->Bool->Bool)(a b:U aO):U aO:=
 ((jg aO.mk (kA a b)).filter λp=>keep (ie a p.from_) (ie b p.from_)).foldl ext []
theorem agP(o:U aO)(q p:aO):ext (o++[q]) p=bif q.to==p.from_ then o++[⟨q.from_,p.to⟩]else o++[q]++[p]:=by simp[ext]
def qR(keep:Bool->Bool->Bool)(a b:U ax):U bX:=
 jg (λ x x'=>(⟨x,x',uG keep (dx a x) (dx b x)⟩:bX)) (gY (a++b))
def pu(keep:Bool->Bool->Bool)(a b:U ax):U ax×Int:=
 if cT a&&cT b then(if (nP (qR keep a b)).length>200 then([],6)else(nP (qR keep a b),0))else([],1)
def Xd{α:Type}(a0:U α)(a1:Int)(a2:(α×Int×Unit)->J Int):(Int×Int)->J ((Int×Int)⊕Int)
 |(v1,v2)=>(bif (decide (v1<(v2:Int)))then(ck (decide (0<=1)&&decide (1<=IntKind.u64.bits)) ((bp a0 (i64.wrap ((IntKind.u64.wrap (i64.wrap (v1+v2)))/2 ^ (1:Int).toNat))).bind λx1=>(a2 (x1,a1,())).bind λr1=>(bif (decide (r1<(0:Int)))then some (.inl ((i64.wrap ((i64.wrap ((IntKind.u64.wrap (i64.wrap (v1+v2)))/2 ^ (1:Int).toNat))+1)),v2))else some (.inl (v1,(i64.wrap ((IntKind.u64.wrap (i64.wrap (v1+v2)))/2 ^ (1:Int).toNat)))))))else some (.inr v1))
theorem aev{α:Type}{l:U α}{key:Int}{φ:(α×Int×Unit)->J Int}(p:α->Bool)(f:α->Int)(hφ:∀x,φ (x,key,())=some (f x))(hf:∀x,decide (f x<0)=p x)
 (hm:∀i j (hj:j<l.length) (hij:i<j),p l[j]=true->p (l[i]'(by omega))=true) (hl:l.length<1099511627776):
 ∀(m i j n:Nat),j -i<=m->i<=j->j<=l.length->(∀ k (hk:k<i) (hkl:k<l.length),p l[k]=true)->(∀ k (hk:j<=k) (hkl:k<l.length),p l[k]=false)->m<n->
 ∃w:Nat,w<=l.length/\iter (Xd l key φ) n ((i:Int),(j:Int))=some (w:Int)/\(∀ k (hk:k<w) (hkl:k<l.length),p l[k]=true)/\∀k (hk:w<=k) (hkl:k<l.length),p l[k]=false:=by
 intro m
 induction m with
 |zero=>
  intro i j n hm0 hij hjl h1 h2 hn;obtain⟨n,rfl⟩:∃q,n=q+1:=⟨n -1,by omega⟩;have:i=j:=by omega
  subst this;exact⟨i,hjl,fG (by simp[Xd]),h1,h2⟩
 |succ m ih=>
  intro i j n hm0 hij hjl h1 h2 hn;obtain⟨n,rfl⟩:∃q,n=q+1:=⟨n -1,by omega⟩;by_cases hlt:i<j
  .have c:decide ((i:Int)<(j:Int))=true:=(by simpa using hlt);have c1:(decide (0<=1)&&decide (1<=IntKind.u64.bits))=true:=rfl;have e:i64.wrap ((IntKind.u64.wrap (i64.wrap ((i:Int)+(j:Int))))/2 ^ (1:Int).toNat)=(((i+j)/2:Nat):Int):=by
    rw[apM (by omega),ajC (by omega),show((((i+j:Nat):Int))/2 ^ (1:Int).toNat)=(((i+j)/2:Nat):Int)by
     rw[show (1:Int).toNat=1 from rfl,Int.pow_one];omega,Nc (by omega)]
   have hh:(i+j)/2<l.length:=(by omega);cases hp:p l[(i+j)/2]with
   |true=>
    have s:Xd l key φ ((i:Int),(j:Int))=some (.inl ((((i+j)/2+1:Nat):Int),(j:Int))):=by
     simp only[Xd,c,aj,c1,e,bf hh,af,hφ,hf,hp];rw[bL (by omega)]
    rw[iO s];refine ih _ _ n (by omega) (by omega) hjl (λ k hk hkl=>?_) h2 (by omega);by_cases hk2:k<(i+j)/2
    .exact hm k _ hh hk2 hp
    .have:k=(i+j)/2:=(by omega);subst this;exact hp
   |false=>
    have s:Xd l key φ ((i:Int),(j:Int))=some (.inl ((i:Int),(((i+j)/2:Nat):Int))):=(by simp only[Xd,c,aj,c1,e,bf hh,af,hφ,hf,hp,ak]);rw[iO s];refine ih _ _ n (by omega) (by omega) (by omega) h1 (λ k hk hkl=>?_) (by omega);by_cases hk2:(i+j)/2<k
    .cases hpk:p l[k]with
     |false=>rfl
     |true=>have:=hm _ k hkl hk2 hpk;rw[hp]at this;cases this
    .have:k=(i+j)/2:=(by omega);subst this;exact hp
  .have:i=j:=(by omega);subst this;exact⟨i,hjl,fG (by simp[Xd]),h1,h2⟩
theorem alZ(l:U bX)(key:Int)(φ:(bX×Int×Unit)->J Int):lD l key φ=Xd l key φ:=by funext ⟨a,b⟩;rfl
theorem anG(l:U aO)(key:Int)(φ:(aO×Int×Unit)->J Int):mE l key φ=Xd l key φ:=by funext ⟨a,b⟩;rfl
theorem Xe:∀{l:U bX},Xb l->l.Pairwise (λ s t=>s.x1<=t.x0)/\∀s∈l,s.x0<s.x1
 |[],_=>⟨List.Pairwise.nil,by simp⟩
 |[s],h=>⟨by simp,λt ht=>by have:t=s:=by simpa using ht
                            subst this;exact h⟩
 |s::t::l,h=>by
  obtain⟨h1,h2,h3⟩:=h;have⟨p1,p2⟩:=Xe h3;refine⟨?_,?_⟩
  .rw[pairwise_cons];refine⟨λ u hu=>?_,p1⟩;rcases aN.1 hu with rfl |hu
   .omega
   .have:=(pairwise_cons.1 p1).1 u hu;have:=p2 t (by simp);omega
  .intro u hu;rcases aN.1 hu with rfl |hu
   .exact h1
   .exact p2 u hu
theorem Lg{x:Int}:∀{l:U bX},(∀ s∈l,¬(s.x0<=x/\x<s.x1))->Ir l x=[]
 |[],_=>rfl
 |s::l,h=>by
  have:=h s (by simp);rw[y5,show(decide (s.x0<=x)&&decide (x<s.x1))=false by rw[Bool.and_eq_false_iff,dO,dO];omega,ak];exact Lg λt ht=>h t (by simp[ht])
theorem aaH{x:Int}:∀{l:U bX}{w:Nat}(hw:w<l.length),(∀ k (hk:k<w),¬((l[k]'(by omega)).x0<=x/\x<(l[k]'(by omega)).x1))->l[w].x0<=x->x<l[w].x1->Ir l x=l[w].column
 |[],w,hw,_,_,_=>by simp at hw
 |s::l,0,hw,_,h0,h1=>anF h0 h1
 |s::l,w+1,hw,hk,h0,h1=>by
  have hs:=hk 0 (by omega);simp only[List.getElem_cons_zero]at hs;rw[y5,show(decide (s.x0<=x)&&decide (x<s.x1))=false by rw[Bool.and_eq_false_iff,dO,dO];omega,ak];exact aaH (by simpa using hw) (λ k hk'=>by have:=hk (k+1) (by omega);simpa using this) h0 h1
theorem aew{l:U bX}{x:Int}(h:Xb l)(hl:l.length<1099511627776)(hn:l.length<n):WX n l x=some (Ir l x):=by
 have⟨a1,a2⟩:=Xe h;rw[List.pairwise_iff_getElem]at a1
 have run:=aev (l:=l) (key:=x) (φ:=λ(y1:bX×Int×Unit)=>wH y1.1 y1.2.1) (λ s=>decide (s.x1<=x)) (λ s=>if s.x1<=x then -1 else 1)
  (λ s=>by show wH s x=_;unfold wH;by_cases c:s.x1<=x<;>simp[c]) (λ s=>by by_cases c:s.x1<=x<;>simp[c])
  (λ i j hj hij hp=>by
   rw[aV]at hp ⊢;have:=a1 i j (by omega) hj hij;have:=a2 l[j] (getElem_mem _);omega) hl l.length 0 l.length n (by omega) (by omega) (aC _) (λ k hk=>by omega) (λ k hk hkl=>by omega) hn
 obtain⟨w,hw,e,h1,h2⟩:=run;unfold WX jd;rw[alZ];have e':iter (Xd l x λ(y1:bX×Int×Unit)=>wH y1.1 y1.2.1) n ((0:Int),(l.length:Int))=some (w:Int):=e;rw[e'];simp only[af];have aq:∀b:Int,∃bb,((bif (decide ((w:Int)<((l.length:Int):Int)))then(bp l (w:Int)).bind λx2=>(wH x2 x).bind λr2=>some ((w:Int),(r2==b))else some ((w:Int),false)):J (Int×Bool))=some ((w:Int),bb):=by
  intro b;by_cases c:w<l.length
  .have d:decide ((w:Int)<(l.length:Int))=true:=(by simpa using c);rw[d];simp only[aj];rw[bf c,af];unfold wH;cases decide (l[w].x1<=x)<;>exact⟨_,rfl⟩
  .have d:decide ((w:Int)<(l.length:Int))=false:=(by simp;omega);rw[d];exact⟨_,rfl⟩
 have⟨bb,hbb⟩:=aq 0;rw[hbb,af];simp only[];by_cases c:w<l.length
 .have d:decide ((w:Int)<(l.length:Int))=true:=by simpa using c
  simp only[d,aj,bf c,af];have hx1:=h2 w (aC _) c;rw[dO]at hx1;by_cases c2:l[w].x0<=x
  .simp only[c2,decide_true,aj];rw[aaH c (λ k hk hh=>?_) c2 (by omega)];have:=h1 k hk (by omega);rw[aV]at this;omega
  .simp only[c2,decide_false,ak];rw[Lg λs hs hh=>?_];obtain⟨k,hk,rfl⟩:=mem_iff_getElem.1 hs;rcases Nat.lt_trichotomy k w with Bs |rfl |Bs
   .have:=h1 k Bs hk;rw[aV]at this;omega
   .omega
   .have:=a1 w k c hk Bs;have:=a2 l[w] (getElem_mem _);omega
 .have d:decide ((w:Int)<(l.length:Int))=false:=by simp;omega
  simp only[d,ak,af];rw[Lg λs hs hh=>?_];obtain⟨k,hk,rfl⟩:=mem_iff_getElem.1 hs;have:=h1 k (by omega) hk;rw[aV]at this;omega
theorem Oc{l:U aO}{y:Int}(h:Can l)(hl:l.length<1099511627776)(hn:l.length<n):CP n l y=some (ie l y):=by
 obtain⟨a1,a2⟩:=h;rw[List.pairwise_iff_getElem]at a1
 have run:=aev (l:=l) (key:=y) (φ:=λ(y1:aO×Int×Unit)=>lF y1.1 y1.2.1) (λ s=>decide (s.to<=y)) (λ s=>if s.to<=y then -1 else 1)
  (λ s=>by show lF s y=_;unfold lF;by_cases c:s.to<=y<;>simp[c]) (λ s=>by by_cases c:s.to<=y<;>simp[c])
  (λ i j hj hij hp=>by
   rw[aV]at hp ⊢;have:=a1 i j (by omega) hj hij;have:l[j].from_<l[j].to:=a2 l[j] (getElem_mem _);omega) hl l.length 0 l.length n (by omega) (by omega) (aC _) (λ k hk=>by omega) (λ k hk hkl=>by omega) hn
 obtain⟨w,hw,e,h1,h2⟩:=run;unfold CP jy;rw[anG];have e':iter (Xd l y λ(y1:aO×Int×Unit)=>lF y1.1 y1.2.1) n ((0:Int),(l.length:Int))=some (w:Int):=e;rw[e'];simp only[af];have aq:∀b:Int,∃bb,((bif (decide ((w:Int)<((l.length:Int):Int)))then(bp l (w:Int)).bind λx2=>(lF x2 y).bind λr2=>some ((w:Int),(r2==b))else some ((w:Int),false)):J (Int×Bool))=some ((w:Int),bb):=by
  intro b;by_cases c:w<l.length
  .have d:decide ((w:Int)<(l.length:Int))=true:=(by simpa using c);rw[d];simp only[aj];rw[bf c,af];unfold lF;cases decide (l[w].to<=y)<;>exact⟨_,rfl⟩
  .have d:decide ((w:Int)<(l.length:Int))=false:=(by simp;omega);rw[d];exact⟨_,rfl⟩
 have⟨bb,hbb⟩:=aq 0;rw[hbb,af];simp only[];by_cases c:w<l.length
 .have d:decide ((w:Int)<(l.length:Int))=true:=by simpa using c
  simp only[d,aj,bf c,af];have hx1:=h2 w (aC _) c;rw[dO]at hx1;congr 1;rw[j5,aV,NZ];constructor
  .exact λhf=>⟨l[w],getElem_mem _,hf,by omega⟩
  .rintro⟨s,hs,g1,g2⟩;obtain⟨k,hk,rfl⟩:=mem_iff_getElem.1 hs;rcases Nat.lt_trichotomy k w with Bs |rfl |Bs
   .have:=h1 k Bs hk;rw[aV]at this;omega
   .exact g1
   .have:=a1 w k c hk Bs;omega
 .have d:decide ((w:Int)<(l.length:Int))=false:=by simp;omega
  simp only[d,ak];congr 1;symm;cases hh:ie l y with
  |false=>rfl
  |true=>
   obtain⟨s,hs,g1,g2⟩:=(NZ _ _).1 hh;obtain⟨k,hk,rfl⟩:=mem_iff_getElem.1 hs;have:=h1 k (by omega) hk;rw[aV]at this;omega
theorem Od{l:U (List aO)}(hf:l.flatten.length<1099511627776)(hl:l.length<1099511627776)(hn:l.length<n):yT n l=some l.flatten:=Nf (aO.mk 0 0) (b:=16) hf (by omega) hl hn
theorem Oe(l:U aO):(l.flatMap λr=>[r.from_,r.to]).length=2*l.length:=by
 induction l with
 |nil=>rfl
 |cons x l ih=>simp only[List.flatMap_cons,dM,ih,bJ,length_nil];omega
theorem SC{l:U aO}(hl:l.length<10995116277)(hn:l.length<n):iter (wI l) n ((0:Int),([]:U Int))=some (l.flatMap λr=>[r.from_,r.to]):=by
 have:=fE (l:=l) (step:=wI l) (λ i (s:List Int)=>((i:Int),s)) (λ r s=>s++[r.from_,r.to]) (λ s=>s) (λ i s=>s.length<=2*i)
  (λ i hi s hs=>?_) (λ s hs=>by simp[wI]) n hn [] (aC _)
 .rw[show ((0:Nat):Int)=0 from rfl]at this;rw[this];have gen:∀(ys:U aO)(s:U Int),ys.foldl (λ s r=>s++[r.from_,r.to]) s=s++ys.flatMap λr=>[r.from_,r.to]:=by
   intro ys
   induction ys with
   |nil=>intro s;simp
   |cons y ys ih=>intro s;simp[ih]
  congr 1;simpa using gen l []
 .have hi':decide ((i:Int)<(l.length:Int))=true:=by simpa using hi
  have ap:bP s.length s.length (sub ([l[i].from_,l[i].to]:U Int) 0 2).length 2 8=true:=dm (n:=2);simp only[wI,hi',aj,aU hi,aX hi,af,ap,dR,aD];refine⟨?_,by simp;omega⟩;rw[bL (by omega)];rfl
theorem Lh{α β:Type}(p:α->Bool)(f:β->α->β):∀(l:U α)(s:β),(l.filter p).foldl f s=l.foldl (λ s x=>bif p x then f s x else s) s
 |[],s=>rfl
 |x::l,s=>by
  rw[List.filter_cons,foldl_cons];cases h:p x with
  |true=>simp only[if_true,foldl_cons,aj];exact Lh p f l _
  |false=>simp only[Bool.false_eq_true,if_false,ak];exact Lh p f l _
theorem Xf(ab:U aO)(p:aO):(ext ab p).length<=ab.length+1:=by
 unfold ext;cases ab.getLast? with
 |none=>simp
 |some q=>simp only;cases q.to==p.from_<;>simp<;>omega
theorem Xg(a b:U aO):(kA a b).length<=2*(a.length+b.length):=by
 have h:=rG (kr (λ a b=>decide (a<b)) ((a++b).flatMap λr=>[r.from_,r.to]));rw[eH,Oe,dM]at h;exact h
theorem Y3(keep:Bool->Bool->Bool)(a b:U aO):(uG keep a b).length<=2*(a.length+b.length):=by
 have gen:∀(ys ab:U aO),(ys.foldl ext ab).length<=ab.length+ys.length:=by
  intro ys
  induction ys with
  |nil=>intro ab;simp
  |cons y ys ih=>
   intro ab;simp only[foldl_cons,bJ];have:=ih (ext ab y);have:=Xf ab y;omega
 have h:=gen ((jg aO.mk (kA a b)).filter λp=>keep (ie a p.from_) (ie b p.from_)) [];have h2:=length_filter_le (λ p=>keep (ie a p.from_) (ie b p.from_)) (jg aO.mk (kA a b));have h3:=(rX aO.mk (kA a b)).1;have h4:=Xg a b;simp only[length_nil]at h;unfold uG;omega
theorem aex{keep:Bool->Bool->Bool}{φ:(Bool×Bool×Unit)->J Bool}(hφ:∀p q,φ (p,q,())=some (keep p q)){a b:U aO}(ha:Can a)(hb:Can b)(hl:a.length+b.length<1099511627)(hn:2*(a.length+b.length)+2<n):Ih n a b φ=some (uG keep a b):=by
 have fl:[a,b].flatten=a++b:=by simp
 have s2:(sub ([a,b]:U (List aO)) 0 2)=[a,b]:=rfl;have q2:az ([a,b]:U (List aO)).length 2=true:=rfl;have hys:=Xg a b;have hfl:((a++b).flatMap λr=>[r.from_,r.to]).length=2*(a.length+b.length):=by rw[Oe,dM]
 unfold Ih;rw[s2,q2];simp only[aj];rw[Od (by rw[fl,dM];omega) (by simp) (by simp;omega),fl];simp only[af,length_nil,aD,aj,SC (l:=a++b) (n:=n) (by rw[dM];omega) (by rw[dM];omega)];rw[pq (by rw[hfl];omega) (by rw[hfl];omega)];simp only[af,eH,aD,aj];rw[uD (by rw[eH,hfl];omega) (by rw[eH,hfl];omega)];simp only[af];have hE:gJ (kr oe ((a++b).flatMap λr=>[r.from_,r.to]))=kA a b:=rfl;rw[hE];have⟨p1,p2⟩:=rX aO.mk (kA a b);have key:iter (wJ n a b φ ((),kA a b)) n ((1:Int),([]:U aO))=some (uG keep a b):=by
  have:=fE (l:=jg aO.mk (kA a b)) (step:=wJ n a b φ ((),kA a b)) (λ i (s:List aO)=>(((i+1:Nat):Int),s)) (λ p s=>bif keep (ie a p.from_) (ie b p.from_)then ext s p else s) (λ s=>s) (λ i s=>s.length<=i)
   (λ i hi s hs=>?_) (λ s hs=>?_) n (by omega) [] (aC _)
  .rw[show ((0+1:Nat):Int)=1 from rfl]at this;rw[this,uG,Lh]
  .have hi2:i+1<(kA a b).length:=(by omega);have hi1:i<(kA a b).length:=(by omega);have d:decide (((i+1:Nat):Int)<(((kA a b).length:Nat):Int))=true:=(by simp;omega);have wp:i64.wrap (((i+1:Nat):Int) -1)=(i:Int):=(by rw[mQ (by omega) (by omega)];rfl);have pe:(jg aO.mk (kA a b))[i]=aO.mk (kA a b)[i] (kA a b)[i+1]:=p2 i hi2 hi;rw[pe];have lx:=Xf s (aO.mk (kA a b)[i] (kA a b)[i+1]);have ap:bP s.length s.length (sub ([(aO.mk (kA a b)[i] (kA a b)[i+1])]:U aO) 0 1).length 1 16=true:=dm (n:=1);have sb:(sub ([(aO.mk (kA a b)[i] (kA a b)[i+1])]:U aO) 0 1)=[aO.mk (kA a b)[i] (kA a b)[i+1]]:=rfl;refine⟨?_,by cases keep (ie a (kA a b)[i]) (ie b (kA a b)[i])<;>simp only[aj,ak]<;>omega⟩;simp only[wJ,d,aj,wp,aU hi1,aX hi1,af,Oc (n:=n) ha (show a.length<1099511627776 by omega) (show a.length<n by omega),Oc (n:=n) hb (show b.length<1099511627776 by omega) (show b.length<n by omega),hφ];cases hk:keep (ie a (kA a b)[i]) (ie b (kA a b)[i])with
   |false=>
    simp only[Bool.not_false,aj,aD,af,ak];rw[bL (by omega)]
   |true=>
    simp only[Bool.not_true,ak,aj];rcases List.eq_nil_or_concat s with rfl |⟨s0,q,Hx⟩
    .have d0:decide (((([]:U aO).length:Nat):Int)>0)=false:=(by simp);simp only[d0,ak,af,aU hi2,aX hi2,aj,ap,dR,aD];rw[bL (by omega)];rfl
    .rw[List.concat_eq_append]at Hx;subst Hx;have d0:decide (((((s0++[q]).length:Nat):Int))>0)=true:=(by simp<;>omega);have AN:(s0++[q]).length=s0.length+1:=(by simp);have wq:i64.wrap ((((s0++[q]).length:Nat):Int) -1)=(s0.length:Int):=(by rw[mQ (by simp) (by omega),AN];rfl);have Q4:cC (s0.length:Int) (s0++[q]).length=true:=aU (by omega);have g:bp (s0++[q]) (((0:Nat):Int)+(s0.length:Int))=some q:=(by rw[Ec];simp);have z:(((0:Nat):Int)+(s0.length:Int)).toNat=s0.length:=(by simp);have st:(s0++[q]).set s0.length (aO.mk q.from_ (kA a b)[i+1])=s0++[⟨q.from_,(kA a b)[i+1]⟩]:=(by simp);simp only[d0,aj,wq,Q4,g,af,agP];cases hj:q.to==(kA a b)[i]with
     |true=>
      simp only[aj,aU hi2,aX hi2,af,z,st];have e:az (s0++[q]).length (s0++[(⟨q.from_,(kA a b)[i+1]⟩:aO)]).length=true:=(by simp);simp only[e,aj,af,aD];rw[bL (by omega)]
     |false=>
      rw[sb]at ap;simp only[ak,aU hi2,aX hi2,af,aj,sb,ap,dR,aD];rw[bL (by omega)]
  .have d:decide ((((jg aO.mk (kA a b)).length+1:Nat):Int)<(((kA a b).length:Nat):Int))=false:=(by simp;omega);simp only[wJ,d,ak,aD,aj]
 rw[key];simp only[af,bZ,aD,aj]
theorem CY(keep:Bool->Bool->Bool)(a b:U ax):qR keep a b=(bD (a++b)).map λs=>⟨s.x0,s.x1,uG keep (dx a s.x0) (dx b s.x0)⟩:=by
 have gen:∀es:U Int,jg (λ x x'=>(⟨x,x',uG keep (dx a x) (dx b x)⟩:bX)) es=(jg (λ x x'=>(⟨x,x',dx (a++b) x⟩:bX)) es).map λs=>⟨s.x0,s.x1,uG keep (dx a s.x0) (dx b s.x0)⟩:=by
  intro es
  match es with
  |[]=>rfl
  |[_]=>rfl
  |x::y::l=>
   rw[qb,qb,aF];congr 1;have:∀es:U Int,jg (λ x x'=>(⟨x,x',uG keep (dx a x) (dx b x)⟩:bX)) es=(jg (λ x x'=>(⟨x,x',dx (a++b) x⟩:bX)) es).map λs=>⟨s.x0,s.x1,uG keep (dx a s.x0) (dx b s.x0)⟩:=by
    intro es
    induction es with
    |nil=>rfl
    |cons x es ih=>
     cases es with
     |nil=>rfl
     |cons y es=>rw[qb,qb,aF,ih]
   exact this (y::l)
 exact gen (gY (a++b))
theorem Y4{keep:Bool->Bool->Bool}{φ:(Bool×Bool×Unit)->J Bool}(hφ:∀p q,φ (p,q,())=some (keep p q)){a b:U ax}(ha:a.length<1099511627776)(hb:b.length<1099511627776)(hna:a.length<n)(hnb:b.length<n)(hn:1000<=n):El n a b φ=some (pu keep a b):=by
 unfold El pu;rw[lV ha hna hn,af];cases hra:cT a with
 |false=>rfl
 |true=>
  rw[lV hb hnb hn];simp only[Bool.not_true,ak,af,Bool.true_and];cases hrb:cT b with
  |false=>rfl
  |true=>
   have⟨a1,a2,_⟩:=uF hra;have⟨b1,b2,_⟩:=uF hrb;have fa:[a].flatten=a:=(by simp);have fb:[b].flatten=b:=(by simp);have fab:[a,b].flatten=a++b:=(by simp);have hab:∀r∈a++b,ek r=true:=λr hr=>by
    rcases aZ.1 hr with hr |hr
    .exact a1 r hr
    .exact b1 r hr
   have sa:ow n [a]=some (bD a):=by
    have:=xW (n:=n) (ls:=[a]) (by rw[fa];exact a1) (by rw[fa];omega) (by simp) (by rw[fa];omega) (by simp;omega)
    rwa [fa]at this
   have sb:ow n [b]=some (bD b):=by
    have:=xW (n:=n) (ls:=[b]) (by rw[fb];exact b1) (by rw[fb];omega) (by simp) (by rw[fb];omega) (by simp;omega)
    rwa [fb]at this
   have lab:(a++b).length=a.length+b.length:=dM;have sab:ow n [a,b]=some (bD (a++b)):=by
    have:=xW (n:=n) (ls:=[a,b]) (by rw[fab];exact hab) (by rw[fab,lab];omega) (by simp) (by rw[fab,lab];omega) (by simp;omega)
    rwa [fab]at this
   have e1:(sub ([a]:U (List ax)) 0 1)=[a]:=rfl;have e2:(sub ([b]:U (List ax)) 0 1)=[b]:=rfl;have e3:(sub ([a,b]:U (List ax)) 0 2)=[a,b]:=rfl;have q1:az ([a]:U (List ax)).length 1=true:=rfl;have q2:az ([b]:U (List ax)).length 1=true:=rfl;have q3:az ([a,b]:U (List ax)).length 2=true:=rfl;have la:=uE a;have lb:=uE b;have lS:=uE (a++b);rw[lab]at lS;have mc:∀x,(dx a x).length<=200/\(dx b x).length<=200:=λx=>⟨Nat.le_trans (yY a x) a2,Nat.le_trans (yY b x) b2⟩;have lm:∀x,(uG keep (dx a x) (dx b x)).length<=800:=λx=>by
    have:=Y3 keep (dx a x) (dx b x);have:=mc x;omega
   have key:iter (qF n φ (bD a) (bD b) (bD (a++b))) n ((0:Int),bD (a++b))=some (qR keep a b):=by
    have:=mF (step:=qF n φ (bD a) (bD b) (bD (a++b))) (λ i=>((i:Int),(qR keep a b).take i++(bD (a++b)).drop i)) (bD (a++b)).length (qR keep a b) (λ i hi=>?_) ?_ n (by omega)
    .simpa using this
    .have d:decide ((i:Int)<(((bD (a++b)).length:Nat):Int))=true:=(by simpa using hi);have lc:(qR keep a b).length=(bD (a++b)).length:=(by rw[CY,length_map]);have lt:((qR keep a b).take i).length=i:=(by rw[length_take];omega);have hd:(bD (a++b)).drop i=(bD (a++b))[i]::(bD (a++b)).drop (i+1):=List.drop_eq_getElem_cons hi;have g:bp ((qR keep a b).take i++(bD (a++b)).drop i) (((0:Nat):Int)+(i:Int))=some (bD (a++b))[i]:=(by rw[Ec,jE (by omega),lt,hd];simp);have st:∀s:bX,((qR keep a b).take i++(bD (a++b)).drop i).set i s=(qR keep a b).take i++s::(bD (a++b)).drop (i+1):=by
      intro s;rw[List.set_append_right _ _ (by omega),lt,hd,Nat.sub_self];rfl
     have z:(((0:Nat):Int)+(i:Int)).toNat=i:=(by simp);have tk:(qR keep a b).take (i+1)=(qR keep a b).take i++[⟨(bD (a++b))[i].x0,(bD (a++b))[i].x1,uG keep (dx a (bD (a++b))[i].x0) (dx b (bD (a++b))[i].x0)⟩]:=by
      rw[gB (by omega)];congr 2;simp only[CY,List.getElem_map]
     have hm:=mc (bD (a++b))[i].x0;have mg:Ih n (dx a (bD (a++b))[i].x0) (dx b (bD (a++b))[i].x0) φ=some (uG keep (dx a (bD (a++b))[i].x0) (dx b (bD (a++b))[i].x0)):=
      aex hφ (N9 a1 _).1 (N9 b1 _).1 (by omega) (by omega)
     have at1:WX n (bD a) (bD (a++b))[i].x0=some (dx a (bD (a++b))[i].x0):=(by rw[aew (Iy a) (by omega) (by omega),KR]);have at2:WX n (bD b) (bD (a++b))[i].x0=some (dx b (bD (a++b))[i].x0):=(by rw[aew (Iy b) (by omega) (by omega),KR]);simp only[qF,d,aj,aU hi,g,af,bZ,at1,at2,mg,aD,z,st];rw[bL (by omega),tk,aM];rfl
    .have lc:(qR keep a b).length=(bD (a++b)).length:=(by rw[CY,length_map]);have d:decide ((((bD (a++b)).length:Nat):Int)<(((bD (a++b)).length:Nat):Int))=false:=(by simp);simp only[qF,d,ak,List.drop_length,append_nil];rw[take_of_length_le (by omega)]
   have lc:(qR keep a b).length=(bD (a++b)).length:=(by rw[CY,length_map]);have cc:∀s∈qR keep a b,s.column.length<=800:=by
    intro s hs;rw[CY,mem_map]at hs;obtain⟨t,_,rfl⟩:=hs;exact lm _
   have sl:sub (qR keep a b) 0 (bD (a++b)).length=qR keep a b:=(by rw[<- lc,bZ]);simp only[Bool.not_true,ak,e1,e2,e3,q1,q2,q3,aj,sa,sb,sab,af,bZ,aD,key,sl,lc];rw[RS (b:=800) (by omega) (by omega) cc (by omega) (by omega)];simp only[af,bZ,aD,aj,yS,if_true,Bool.and_self];by_cases rb:(nP (qR keep a b)).length>200
   .have:decide (((nP (qR keep a b)).length:Int)>200)=true:=(by simp;omega);simp only[this,aj,af,rb,if_true]
   .have:decide (((nP (qR keep a b)).length:Int)>200)=false:=(by simp;omega);simp only[this,ak,af,rb,if_false]
theorem Og{a b:U ax}(ha:a.length<1099511627776)(hb:b.length<1099511627776)(hna:a.length<n)(hnb:b.length<n)(hn:1000<=n):CQ n a b=some (pu (λ p q=>p&&q) a b):=by
 unfold CQ;rw[Y4 (keep:=λp q=>p&&q) (λ p q=>by show xK p q=_;unfold xK;cases p<;>rfl) ha hb hna hnb hn];rfl
theorem Oh{keep:Bool->Bool->Bool}(a b:U ax):(pu keep a b).1.length<=200:=by
 unfold pu;split
 .split
  .simp
  .show(nP _).length<=200;omega
 .simp
def RU(r:ax):Int:=(r.x1 -r.x0)*(r.y1 -r.y0)
def Li(l:U ax):Int:=(l.map RU).sum
theorem Iz{r:ax}(h:ek r=true):0<=RU r/\RU r<=1099511627776:=by
 simp only[ek,aL,aV]at h;unfold RU;refine⟨Int.mul_nonneg (by omega) (by omega),?_⟩;have:=Int.mul_le_mul (show r.x1 -r.x0<=1048576 by omega) (show r.y1 -r.y0<=1048576 by omega) (by omega) (by omega);omega
theorem Xh:∀{l:U ax},(∀ r∈l,ek r=true)->0<=Li l/\Li l<=1099511627776*(l.length:Int)
 |[],_=>by simp[Li]
 |r::l,h=>by
  have h1:=Iz (h r List.mem_cons_self);have h2:=Xh (l:=l) λq hq=>h q (eG _ hq);have e:Li (r::l)=RU r+Li l:=rfl;rw[e,bJ]
  push_cast
  omega
theorem IA{l:U ax}{φ:(ax×Unit)->J Bool}(p:ax->Bool)(h:∀x∈l,φ (x,())=some (p x))(hl:l.length<1099511627776)(hn:l.length<n):ul n l φ=some (xD p l):=gG p h hl hn
theorem sO{l:U ax}{φ:(ax×Unit)->J Bool}(p:ax->Bool)(h:∀x∈l,φ (x,())=some (p x))(hl:l.length<1099511627776)(hn:l.length<n):jf n l φ=some (l.any p):=by
 unfold jf;rw[IA p h hl hn,af,xE]
theorem aaI:∀(l:U Int)(x:Int),(l++[x]).sum=l.sum+x
 |[],x=>by simp
 |a::l,x=>by rw[List.cons_append,List.sum_cons,List.sum_cons,aaI l x];omega
theorem ajR{r:ax}(h:ek r=true):oZ r=some (RU r):=by
 have hb:=Iz h;unfold oZ sK;rw[iX,h];simp only[af,aj];simp only[ek,aL,aV]at h;unfold RU at*;rw[dQ (x:=r.x1 -r.x0),dQ (x:=r.y1 -r.y0),dQ (by omega) (by omega)]
theorem Lj{a:U ax}(ha:a.length<=900)(hn:1000<=n):JH n a=some (bif cT a then Li a else 0):=by
 unfold JH;rw[lV (by omega) (by omega) hn];simp only[af];cases hr:cT a with
 |false=>rfl
 |true=>
  have ok:=(uF hr).1;have:=mF (step:=Em a) (λ i=>(Li (a.take i),(i:Int))) a.length (Li a) (λ i hi=>?_) ?_ n (by omega)
  .have e:Li (a.take 0)=0:=rfl;rw[e,show((0:Nat):Int)=0 from rfl]at this;simp only[Bool.not_true,ak,aj,this,af]
  .have c:decide ((i:Int)<(a.length:Int))=true:=(by simpa using hi);have h1:=Xh (l:=a.take i) λr hr=>ok r (List.mem_of_mem_take hr);rw[length_take]at h1;have h2:=Iz (ok _ (getElem_mem hi));have e:Li (a.take (i+1))=Li (a.take i)+RU a[i]:=(by rw[gB hi];unfold Li;rw[map_append];exact aaI _ _);simp only[Em,c,aj,bf hi,af,ajR (ok _ (getElem_mem hi))];rw[bL (by omega),dQ (by omega) (by omega),e]
  .simp[Em]
theorem Qj{α:Type}(p:α->Bool)(l:U α):(match nU p l with |some _=>true |none=>false)=l.any p:=by
 have:=pO p l;rw[<- this];cases nU p l<;>rfl
def NO(p q:ax):Bool:=decide (max p.x0 q.x0<min p.x1 q.x1)&&decide (max p.y0 q.y0<min p.y1 q.y1)
def Kf(a b:U ax):Bool:=a.any λp=>b.any λq=>NO p q
theorem agQ{a b:U ax}(ha:a.length<1099511627776)(hb:b.length<1099511627776)(hna:a.length<n)(hnb:b.length<n):UE n a b=some (Kf a b):=by
 unfold UE Kf;rw[sO (λ p=>b.any λq=>NO p q) (λ p _=>?_) ha hna]
 .rfl
 .show Ez n p b=_;unfold Ez;rw[sO (λ q=>NO p q) (λ q _=>?_) hb hnb]
  .rfl
  .show vO q p=_;unfold vO NO;have e1:max q.x0 p.x0=max p.x0 q.x0:=(by omega);have e2:min q.x1 p.x1=min p.x1 q.x1:=(by omega);have e3:max q.y0 p.y0=max p.y0 q.y0:=(by omega);have e4:min q.y1 p.y1=min p.y1 q.y1:=by omega
   first
    |(cases decide (max p.x0 q.x0<min p.x1 q.x1)<;>rfl)
    |(rw [e1,e2,e3,e4];cases decide (max p.x0 q.x0<min p.x1 q.x1)<;>rfl)
theorem agR{a b:U ax}(hl:a.length<1099511627776)(hn:a.length<n):UD n a b=some (decide (a=b)):=by
 unfold UD;rw[CV hl hn];rfl
abbrev wA(a b:ax):Bool:=decide (a.y0<b.y0)
theorem aiD:Go.Sort.SWO wA where
 irrefl x:=by simp[wA]
 trans x y z h1 h2:=by simp only[wA,aV]at *;omega
 ntrans x y z h1 h2:=by simp only[wA,dO]at *;omega
instance:Inhabited ax:=⟨ax.mk 0 0 0 0⟩
theorem J5{l:U ax}{φ:(ax×ax×Unit)->J Int}(f:ax->ax->Int)(hφ:∀x y,φ (x,y,())=some (f x y))(hf:∀x y,decide (f x y<0)=wA x y)(hl:l.length<1099511627776)(_:l.length<n):vv n l φ=some (lu wA l):=
 aee f hφ hf aiD hl
structure apQ(R:List bX):Prop where
 runs:Runs R
 len:R.length<=200
 col:∀s∈R,Can s.column/\∀q∈s.column,0<=q.from_/\q.from_<q.to/\q.to<=1048576
 xs:∀s∈R,0<=s.x0/\s.x0<s.x1/\s.x1<=1048576
 y6:(R.flatMap λs=>s.column.map (·.from_)).length<=200
theorem agS(p:Nat->Bool)(N:Nat):(nU p (List.range N)=none->(List.range N).any p=false)/\(∀ i,nU p (List.range N)=some i->(List.range N).any p=true):=by
 refine⟨λ h=>?_,λi h=>?_⟩
 .rw[<- pO,h];rfl
 .rw[<- pO,h];rfl
theorem IB{W O:Type}{step:Int->J (Int⊕(W⊕O))}(N:Nat)(p:Nat->Bool)(w:W)(o:O)
 (h:∀i,i<N->step (i:Int)=some (bif p i then .inr (.inr o)else .inl ((i+1:Nat):Int)))
 (hend:step (N:Int)=some (.inr (.inl w))) (n:Nat) (hn:N<n):iter step n (0:Int)=some (bif (List.range N).any p then .inr o else .inl w):=by
 have:=pM (l:=List.range N) (step:=step) (λ i=>(i:Int)) p w (λ _=>o) (λ i hi=>by
  rw[List.length_range]at hi;rw[List.getElem_range];exact h i hi) (by rw[List.length_range];exact hend) n (by rw[List.length_range];exact hn)
 rw[show ((0:Nat):Int)=0 from rfl]at this;rw[this];have⟨r1,r2⟩:=agS p N;cases hf:nU p (List.range N)with
 |none=>rw[r1 hf];rfl
 |some i=>rw[r2 i hf];rfl
theorem IC{p:U dS}(hl:p.length<=1000)(hn:2000<=n):iter (pV n p (gu p)) n (0:Int)=some (bif (List.range p.length).any (IT p)then .inr false else .inl ()):=by
 refine IB p.length (IT p) () false (λ i hi=>?_) ?_ n (by omega)
 .have nz:((p.length:Int) !=0)=true:=by simp;intro h;rw[h]at hi;simp at hi
  have md:(i+1)%p.length<p.length:=Nat.mod_lt _ (by omega);have w:i64.wrap ((i:Int)+1)=((i+1:Nat):Int):=bL (by omega);have g1:bp (gu p) (((0:Nat):Int)+(i:Int))=some (jh p i):=by rw[aX (by rw[d9];exact hi),yZ]
  have g2:bp (gu p) (((0:Nat):Int)+(((i+1)%p.length:Nat):Int))=some (jh p ((i+1)%p.length)):=by rw[aX (by rw[d9];exact md),yZ]
  obtain⟨r,hr1,hr2⟩:=Lf (n:=n) (pL p 0) (pL p i) (by omega);have g3:bp p 0=some (pL p 0):=by rw[anh (by omega),<- UG]
  have g4:bp p (i:Int)=some (pL p i):=by rw[bf hi,<- UG]
  have dz:decide ((i:Int)>0)=decide (0<i):=by rw[j5];simp
  have pt:dS.mk (jh p i).lz (jh p i).pD=pL p i:=rfl;simp only[pV,d9,bI hi,aj,aU hi,g1,g2,af,nz,w,aaG,aU md,pt,N8,mX,N7,g3,g4,hr1,hr2,dz,Option.map_some];unfold IT;generalize UH (pL p i)=b1;generalize (((jh p i).lz==(jh p i).mi)==((jh p i).pD==(jh p i).t8))=b2;generalize (ud (jh p i)==ud (jh p ((i+1)%p.length)))=b3;generalize decide (0<i)=b4;generalize UI (pL p 0) (pL p i)=b5;cases b1<;>cases b2<;>cases b3<;>cases b4<;>cases b5<;>rfl
 .simp only[pV,d9,bS,ak]
theorem IE{p:U dS}(hl:p.length<=1000)(hn:2000<=n){i:Nat}(hi:i<p.length):
 iter (iV (gu p) (i:Int)) n (((i+2:Nat):Int))=some (bif (List.range p.length).any λk=>decide (i+2<=k)&&SB p i k then .inr (.inr (.inr false))else .inl ()):=by
 have st:∀k,k<p.length->iV (gu p) (i:Int) (k:Int)=some (bif SB p i k then .inr (.inr (.inr (.inr false)))else .inl ((k+1:Nat):Int)):=by
  intro k hk;have g1:bp (gu p) (((0:Nat):Int)+(i:Int))=some (jh p i):=by rw[aX (by rw[d9];exact hi),yZ]
  have g2:bp (gu p) (((0:Nat):Int)+(k:Int))=some (jh p k):=by rw[aX (by rw[d9];exact hk),yZ]
  have w:i64.wrap (i64.wrap ((i:Int)+(p.length:Int)) -(k:Int))=((i+p.length -k:Nat):Int):=by rw[dQ (x:=(i:Int)+(p.length:Int)),dQ (by omega) (by omega)];omega
  have dz:decide (((i+p.length -k:Nat):Int)>1)=decide (i+p.length -k>1):=by rw[j5,aV,aV];omega
  simp only[iV,d9,bI hk,aj,aU hi,aU hk,g1,g2,af,w,dz,CX,N7,Option.map_some,aK k];unfold SB;cases decide (i+p.length -k>1)<;>cases Pl (jh p i) (jh p k)<;>rfl
 have main:∀m k,k+m=p.length->∀f,m<f->iter (iV (gu p) (i:Int)) f (k:Int)=some (bif (List.range p.length).any λj=>decide (k<=j)&&SB p i j then .inr (.inr (.inr false))else .inl ()):=by
  intro m
  induction m with
  |zero=>
   intro k hk f hf;obtain⟨f,rfl⟩:∃g,f=g+1:=⟨f -1,by omega⟩;have:k=p.length:=(by omega);subst this;have e:((List.range p.length).any λj=>decide (p.length<=j)&&SB p i j)=false:=by
    rw[Bool.eq_false_iff];intro h;rw[any_eq_true]at h;obtain⟨j,h1,h2⟩:=h;rw[List.mem_range]at h1;simp only[aL,aV]at h2;omega
   rw[e];refine fG ?_;simp only[iV,d9,bS,ak]
  |succ m ih=>
   intro k hk f hf;obtain⟨f,rfl⟩:∃g,f=g+1:=⟨f -1,by omega⟩;have hkl:k<p.length:=(by omega);have h1:=st k hkl;cases hb:SB p i k with
   |true=>
    rw[hb]at h1;have e:((List.range p.length).any λj=>decide (k<=j)&&SB p i j)=true:=by
     rw[any_eq_true];exact⟨k,List.mem_range.2 hkl,by simp[hb]⟩
    rw[e];exact fG h1
   |false=>
    rw[hb]at h1;rw[iO h1,ih (k+1) (by omega) f (by omega)];congr 2;rw[j5,any_eq_true,any_eq_true];constructor
    .rintro⟨j,j1,j2⟩;simp only[aL,aV]at j2;exact⟨j,j1,by simp only[aL,aV];exact⟨by omega,j2.2⟩⟩
    .rintro⟨j,j1,j2⟩;simp only[aL,aV]at j2;refine⟨j,j1,?_⟩;simp only[aL,aV];refine⟨?_,j2.2⟩;rcases Nat.lt_or_ge k j with h |h
     .omega
     .have:j=k:=(by omega);subst this;rw[hb]at j2;simp at j2
 by_cases h2:i+2<=p.length
 .exact main (p.length -(i+2)) (i+2) (by omega) n (by omega)
 .obtain⟨n,rfl⟩:∃g,n=g+1:=⟨n -1,by omega⟩;have e:((List.range p.length).any λj=>decide (i+2<=j)&&SB p i j)=false:=by
   rw[Bool.eq_false_iff];intro h;rw[any_eq_true]at h;obtain⟨j,h1,h2⟩:=h;rw[List.mem_range]at h1;simp only[aL,aV]at h2;omega
  rw[e];have d:decide (((i+2:Nat):Int)<(p.length:Int))=false:=by rw[dO];omega
  refine fG ?_;simp only[iV,d9,d,ak]
theorem IG{p:U dS}(hl:p.length<=1000)(hn:2000<=n):iter (pW n (gu p)) n (0:Int)=some (bif (List.range p.length).any λi=>(List.range p.length).any λk=>decide (i+2<=k)&&SB p i k then .inr false else .inl ()):=by
 refine IB p.length _ () false (λ i hi=>?_) ?_ n (by omega)
 .have w2:i64.wrap ((i:Int)+2)=((i+2:Nat):Int):=by rw[dQ (by omega) (by omega)];omega
  simp only[pW,d9,bI hi,aj,w2,IE hl hn hi,aK i];cases (List.range p.length).any λk=>decide (i+2<=k)&&SB p i k<;>rfl
 .simp only[pW,d9,bS,ak]
theorem Qk(p:U dS)(hn:2000<=n):vK n p=some (Qi p):=by
 unfold vK Qi;by_cases h4:p.length<4
 .have d1:decide ((p.length:Int)<4)=true:=by simp;omega
  have d2:decide (4<=p.length)=false:=by simp;omega
  rw[d1,d2];rfl
 .have d1:decide ((p.length:Int)<4)=false:=by simp;omega
  have d2:decide (4<=p.length)=true:=by simp;omega
  by_cases h60:p.length>60
  .have d3:decide ((p.length:Int)>60)=true:=(by simp;omega);have d4:decide (p.length<=60)=false:=(by simp;omega);rw[d1,d2,d3,d4];rfl
  .have d3:decide ((p.length:Int)>60)=false:=(by simp;omega);have d4:decide (p.length<=60)=true:=(by simp;omega);have g:bp (gu p) (((0:Nat):Int)+0)=some (jh p 0):=by
    have:=aX (l:=gu p) (i:=0) (by rw[d9];omega);rw[yZ]at this;exact this
   have i0:cC 0 (gu p).length=true:=by
    have:=aU (i:=0) (n:=(gu p).length) (by rw[d9];omega);simpa using this
   rw[d1,d2,d3,d4];simp only[ak,af,AA (n:=n) (p:=p) (by omega) (by omega),IC (n:=n) (p:=p) (by omega) hn,Bool.true_and];cases (List.range p.length).any (IT p)with
   |true=>rfl
   |false=>
    simp only[ak,dW,IG (n:=n) (p:=p) (by omega) hn];cases (List.range p.length).any λi=>(List.range p.length).any λk=>decide (i+2<=k)&&SB p i k with
    |true=>rfl
    |false=>
     simp only[ak,dW,i0,aj,g,af,mX];rfl
def Bf(p:U dS)(x:Int):U Int:=((gu p).filter λs=>!ud s&&(decide (min s.lz s.mi<=x)&&decide (x<max s.lz s.mi))).map (·.pD)
def CZ(x0 x1:Int):U Int->U ax
 |a::b::l=>⟨x0,a,x1,b⟩::CZ x0 x1 l
 |_=>[]
def np(p:U dS):U Int:=FF (p.map (·.x))
def Xi(p:U dS):U ax:=(jg (λ a b=>CZ a b (kr oe (Bf p a))) (np p)).flatten
def xX(p:U dS):U ax×Int:=if Qi p=true then(if (Xi p).length>200 then([],6)else(Xi p,0))else([],10)
theorem agT{p:U dS}(h:Qi p=true):4<=p.length/\p.length<=60:=by
 unfold Qi at h;simp only[aL,aV]at h;exact⟨h.1,h.2.1⟩
theorem FO{p:U dS}(hl:p.length<=1000)(hn:2000<=n):iter (lK p) n ((0:Int),([]:U Int))=some (p.map (·.x)):=by
 have:=fE (l:=p) (step:=lK p) (λ i (s:List Int)=>((i:Int),s)) (λ r s=>s++[r.x]) (λ s=>s) (λ i s=>s.length<=i)
  (λ i hi s hs=>?_) (λ s hs=>by simp[lK]) n (by omega) [] (aC _)
 .rw[show ((0:Nat):Int)=0 from rfl]at this;rw[this];have gen:∀(ys:U dS)(s:U Int),ys.foldl (λ s r=>s++[r.x]) s=s++ys.map (·.x):=by
   intro ys
   induction ys with
   |nil=>intro s;simp
   |cons y ys ih=>intro s;rw[foldl_cons,ih];simp
  congr 1;simpa using gen p []
 .have ap:bP s.length s.length (sub ([(p[i]).x]:U Int) 0 1).length 1 8=true:=dm (n:=1);simp only[lK,bI hi,aj,bf hi,af,ap,dR,aD];refine⟨?_,by simp;omega⟩;rw[bL (by omega)];rfl
theorem FP{p:U dS}(hl:p.length<=1000)(hn:2000<=n)(es:U Int)(i:Nat)(hi:i<es.length):iter (lM ((),es) (gu p) (i:Int)) n ((0:Int),([]:U Int))=some (Bf p es[i]):=by
 have:=fE (l:=gu p) (step:=lM ((),es) (gu p) (i:Int)) (λ i (s:List Int)=>((i:Int),s)) (λ r s=>bif !ud r&&(decide (min r.lz r.mi<=es[i])&&decide (es[i] <max r.lz r.mi))then s++[r.pD]else s) (λ s=>s) (λ i s=>s.length<=i)
  (λ j hj s hs=>?_) (λ s hs=>by simp[lM]) n (by rw[d9];omega) [] (aC _)
 .rw[show ((0:Nat):Int)=0 from rfl]at this;rw[this];have gen:∀(ys:U jC)(s:U Int),ys.foldl (λ s r=>bif !ud r&&(decide (min r.lz r.mi<=es[i])&&decide (es[i] <max r.lz r.mi))then s++[r.pD]else s) s=s++(ys.filter λs=>!ud s&&(decide (min s.lz s.mi<=es[i])&&decide (es[i] <max s.lz s.mi))).map (·.pD):=by
   intro ys
   induction ys with
   |nil=>intro s;simp
   |cons y ys ih=>
    intro s;rw[foldl_cons,ih,List.filter_cons];cases !ud y&&(decide (min y.lz y.mi<=es[i])&&decide (es[i] <max y.lz y.mi))<;>simp
  congr 1;exact gen (gu p) []
 .rw[d9]at hj;have g:bp (gu p) (((0:Nat):Int)+(j:Int))=some (gu p)[j]:=aX (by rw[d9];exact hj);have ap:bP s.length s.length (sub ([((gu p)[j]'(by rw[d9];exact hj)).pD]:U Int) 0 1).length 1 8=true:=dm (n:=1);generalize hr:(gu p)[j]'(by rw[d9];exact hj)=r at*;simp only[lM,d9,bI hj,aj,aU hj,g,af,mX,aU hi,aX hi,N7,ap,dR,aD,aK j];cases ud r<;>cases decide (min r.lz r.mi<=es[i])<;>cases decide (es[i] <max r.lz r.mi)<;>refine⟨rfl,?_⟩<;>simp<;>omega
theorem aaJ(x0 x1:Int):∀l:U Int,(CZ x0 x1 l).length<=l.length
 |[]=>by simp[CZ]
 |[_]=>by simp[CZ]
 |a::b::l=>by have:=aaJ x0 x1 l;simp only[CZ,bJ];omega
theorem FQ(es:U Int)(i:Nat)(hi:i+1<es.length)(he:es.length<=10000)(w2 r8:U Int)(hw:w2.length=r8.length)(hr:r8.length<=1000)(ab:U ax)(ho:ab.length<=10000000)(hn:2000<=n):
 iter (jm ((),es) (i:Int) w2 r8) n ((0:Int),ab)=some (ab++CZ (es[i]'(by omega)) es[i+1] r8):=by
 have main:∀(m k:Nat)(ab:U ax),k+m=r8.length->ab.length<=10000000+k->∀f,m<f->iter (jm ((),es) (i:Int) w2 r8) f ((k:Int),ab)=some (ab++CZ (es[i]'(by omega)) es[i+1] (r8.drop k)):=by
  intro m
  induction m using Nat.strongRecOn with
  |ind m ih=>
   intro k ab hk hko f hf;obtain⟨f,rfl⟩:∃g,f=g+1:=⟨f -1,by omega⟩;have w1:i64.wrap ((k:Int)+1)=((k+1:Nat):Int):=bL (by omega);have w3:i64.wrap ((k:Int)+2)=((k+2:Nat):Int):=(by rw[dQ (by omega) (by omega)];omega);have w4:i64.wrap ((i:Int)+1)=((i+1:Nat):Int):=bL (by omega);by_cases h2:k+1<r8.length
   .have d:decide (((k+1:Nat):Int)<(w2.length:Int))=true:=(by rw[hw];exact bI h2);have ap:bP ab.length ab.length (sub ([(ax.mk (es[i]'(by omega)) (r8[k]'(by omega)) es[i+1] r8[k+1])]:U ax) 0 1).length 1 32=true:=dm (n:=1);have st:jm ((),es) (i:Int) w2 r8 ((k:Int),ab)=some (.inl (((k+2:Nat):Int),ab++[ax.mk (es[i]'(by omega)) (r8[k]'(by omega)) es[i+1] r8[k+1]])):=by
     simp only[jm,w1,w3,w4,d,aj,aU (show i<es.length by omega),aX (show i<es.length by omega),af,aU (show k<w2.length by omega),aX (show k<r8.length by omega),aU hi,aX hi,aU (show k+1<w2.length by omega),aX h2,ap,dR,aD];rfl
    have dr:r8.drop k=r8[k]::r8[k+1]::r8.drop (k+2):=(by rw[List.drop_eq_getElem_cons (by omega),List.drop_eq_getElem_cons h2]);rw[iO st,ih (m -2) (by omega) (k+2) _ (by omega) (by rw[dM,length_singleton];omega) f (by omega),dr];simp[CZ]
   .have d:decide (((k+1:Nat):Int)<(w2.length:Int))=false:=(by rw[hw,dO];omega);have e:CZ (es[i]'(by omega)) es[i+1] (r8.drop k)=[]:=by
     have hl:(r8.drop k).length<=1:=by rw[length_drop];omega
     match r8.drop k,hl with
     |[],_=>rfl
     |[_],_=>rfl
     |_::_::_,h=>simp at h
    rw[e,append_nil];refine fG ?_;simp only[jm,w1,d,ak,aD,aj]
 have:=main r8.length 0 ab (by omega) (by omega) n (by omega);rw[show ((0:Nat):Int)=0 from rfl,List.drop_zero]at this;exact this
theorem anH(p:U dS):(np p).length<=p.length:=by
 have h:=rG (kr oe (p.map (·.x)));rw[eH,length_map]at h;exact h
theorem Xj(p:U dS)(x:Int):(Bf p x).length<=p.length:=by
 unfold Bf;rw[length_map,<- d9 p];exact length_filter_le _ _
theorem II{α:Type}(b:Nat):∀l:U (List α),(∀ x∈l,x.length<=b)->l.flatten.length<=l.length*b
 |[],_=>by simp
 |x::l,h=>by
  have h1:=II b l λy hy=>h y (eG _ hy);have h2:=h x List.mem_cons_self;rw[List.flatten_cons,dM,bJ,Nat.add_mul];omega
theorem FR{p:U dS}(hl:p.length<=1000)(hn:2000<=n):
 iter (lN n ((),np p) (gu p)) n ((0:Int),([]:U ax))=some (Xi p):=by
 have hx:=anH p;obtain⟨p1,p2⟩:=rX (λ a b=>CZ a b (kr oe (Bf p a))) (np p)
 let C:=jg (λ a b=>CZ a b (kr oe (Bf p a))) (np p)
 have hC:C.length=(np p).length -1:=p1;have cl:∀c∈C,c.length<=1000:=by
  intro c hc;obtain⟨i,hi,rfl⟩:=mem_iff_getElem.1 hc;have:=p2 i (by omega) hi;show(C[i]).length<=1000;rw[show C[i]=_ from this];have h1:=aaJ (np p)[i] (np p)[i+1] (kr oe (Bf p (np p)[i]));rw[eH]at h1;have h2:=Xj p (np p)[i];omega
 have bl:∀i,((C.take i).flatten).length<=1000*1000:=by
  intro i;have h1:=II 1000 (C.take i) λx hx=>cl x (List.mem_of_mem_take hx);have h2:(C.take i).length<=1000:=by rw[length_take];omega
  exact Nat.le_trans h1 (Nat.mul_le_mul_right _ h2)
 have main:=mF (step:=lN n ((),np p) (gu p)) (λ i=>((i:Int),(C.take i).flatten)) C.length (Xi p) (λ i hi=>?_) ?_ n (by omega)
 .simpa using main
 .have hi2:i+1<(np p).length:=by omega
  have hw:i64.wrap ((((np p).length:Nat):Int) -1)=(C.length:Int):=by rw[dQ (by omega) (by omega)];omega
  have bi:=bl i;have cr:=Xj p (np p)[i];have e:C.take (i+1)=C.take i++[CZ (np p)[i] (np p)[i+1] (kr oe (Bf p (np p)[i]))]:=by
   rw[gB hi];congr 2;exact p2 i hi2 hi
  simp only[lN,hw,bI hi,aj,length_nil,aD,FP hl hn (np p) i (by omega),af];rw[pq (by omega) (by omega)];simp only[af];rw[FQ (np p) i hi2 (by omega) (Bf p (np p)[i]) (kr oe (Bf p (np p)[i])) (by rw[eH]) (by rw[eH];omega) _ (by omega) hn];simp only[af,aD,aj,e,List.flatten_append,List.flatten_cons,List.flatten_nil,append_nil,aK i]
 .have hw:i64.wrap ((((np p).length:Nat):Int) -1)=(((np p).length:Nat):Int) -1:=dQ (by omega) (by omega);have d:decide ((C.length:Int)<(((np p).length:Nat):Int) -1)=false:=by rw[dO];omega
  simp only[lN,hw,d,ak,aD,aj,List.take_length];rfl
theorem Oi(p:U dS)(hn:2000<=n):tZ n p=some (xX p):=by
 unfold tZ xX;rw[Qk p hn];simp only[af];cases hr:Qi p with
 |false=>rfl
 |true=>
  have⟨_,hl⟩:=agT hr;simp only[Bool.not_true,ak,length_nil,aD,aj,FO (n:=n) (p:=p) (by omega) hn,af,if_true];rw[pq (by rw[length_map];omega) (by rw[length_map];omega)];simp only[af,eH,aD,aj];rw[uD (by rw[eH,length_map];omega) (by rw[eH,length_map];omega)];simp only[af,AA (n:=n) (p:=p) (by omega) (by omega)];have hE:gJ (kr oe (p.map (·.x)))=np p:=rfl;rw[hE,FR (by omega) hn];simp only[af,bZ,aD,aj];by_cases rb:(Xi p).length>200
  .have:decide ((((Xi p).length:Nat):Int)>200)=true:=(by simp;omega);rw[this,aY rb];rfl
  .have:decide ((((Xi p).length:Nat):Int)>200)=false:=(by simp;omega);rw[this,aR rb];rfl
theorem aez(p:U dS):(xX p).1.length<=200:=by
 unfold xX;split
 .split
  .simp
  .simp;omega
 .simp
def apz(a b:ax):Int:=bif(!ek a || !ek b)then -1 else max (max 0 (i64.wrap ((max a.x0 b.x0) -(min a.x1 b.x1)))) (i64.wrap ((max a.y0 b.y0) -(min a.y1 b.y1)))
theorem al0(a b:ax):MM a b=some (apz a b):=by
 unfold MM apz;rw[iX,iX];simp only[af];cases ek a<;>cases ek b<;>rfl
def NL:bU:=bU.mk 0 0 [] []
def jv(land:U bU)(id:Int):bU×Bool:=match land.find? λt=>t.id==id with
 |some t=>(t,true)
 |none=>(NL,false)
theorem Ll{α:Type}(p:α->Bool)(l:U α):(∃ (i:Nat) (h:i<l.length),nU p l=some i/\l.find? p=some l[i])\/(nU p l=none/\l.find? p=none):=by
 rcases Ee p l with ⟨i,hi,h1,h2,h3⟩ |⟨h1,h2⟩
 .refine .inl ⟨i,hi,h1,?_⟩;rw[List.find?_eq_some_iff_getElem];exact⟨h2,i,hi,rfl,λj hj=>by simpa using h3 j hj⟩
 .refine .inr ⟨h1,?_⟩;rw[List.find?_eq_none];intro x hx;rw[h2 x hx];simp
def apB(t:cB)(name:ByteArray):Int:=match t.rows.find? λe=>ByteArray.toList e.name==ByteArray.toList name with
 |some e=>e.n
 |none=>t.sn
theorem Xk{α:Type}(p:α->Bool)(l:U α):(∃ (i:Nat) (h:i<l.length),xD p l=(i:Int)/\l.find? p=some l[i])\/(xD p l= -1/\l.find? p=none):=by
 rcases Ll p l with ⟨i,hi,h1,h2⟩ |⟨h1,h2⟩
 .exact .inl ⟨i,hi,by simp[xD,h1],h2⟩
 .exact .inr ⟨by simp[xD,h1],h2⟩
def al1:U ByteArray:=[⟨#[104,111,109,101]⟩,⟨#[115,104,111,112]⟩,⟨#[119,111,114,107]⟩,⟨#[112,97,114,107]⟩,⟨#[112,108,97,110,116]⟩,⟨#[104,97,108,108]⟩]
def nameOf(use:Int):J ByteArray:=bp al1 use
theorem Oj{V O:Type}{step:V->J (V⊕O)}(R:Nat->V->Prop)(N:Nat)(Q:O->Prop)(h:∀i v,i<N->R i v->∃v',step v=some (.inl v')/\R (i+1) v')(hN:∀v,R N v->∃o,step v=some (.inr o)/\Q o):
 ∀n,N<n->∀v,R 0 v->∃o,iter step n v=some o/\Q o:=by
 have main:∀k i n v,i+k=N->k<n->R i v->∃o,iter step n v=some o/\Q o:=by
  intro k
  induction k with
  |zero=>
   intro i n v hi hn hR;obtain⟨m,rfl⟩:∃m,n=m+1:=⟨n -1,by omega⟩;have:i=N:=(by omega);subst this;have⟨o,h1,h2⟩:=hN v hR;exact⟨o,fG h1,h2⟩
  |succ k ih=>
   intro i n v hi hn hR;obtain⟨m,rfl⟩:∃m,n=m+1:=⟨n -1,by omega⟩;obtain⟨v',h1,h2⟩:=h i v (by omega) hR;obtain⟨o,h3,h4⟩:=ih (i+1) m v' (by omega) (by omega) h2;exact⟨o,by rw[iO h1,h3],h4⟩
 intro n hn v hR;exact main N 0 n v (by omega) hn hR
def Bg(z:dN):U ax:=if (xX z.corners).2=0 then(xX z.corners).1 else []
theorem agU(z:dN):(Bg z).length<=200:=by
 unfold Bg;split
 .exact aez _
 .simp
theorem SF(z:dN)(hn:2000<=n):xN n z=some (Bg z):=by
 unfold xN Bg;rw[Oi _ hn];simp only[af,bZ,aD,aj];by_cases h:(xX z.corners).2=0
 .have:((xX z.corners).2 !=0)=false:=by simp[h]
  rw[this,aY h];rfl
 .have:((xX z.corners).2 !=0)=true:=by simp[h]
  rw[this,aR h];rfl
def Fx(a b:ax):ax:=⟨max a.x0 b.x0,max a.y0 b.y0,min a.x1 b.x1,min a.y1 b.y1⟩
theorem EN(a:ax):sK a=some (bif ek a then(a,true)else(⟨0,0,0,0⟩,false)):=by
 unfold sK;rw[iX];simp only[af,N7]
theorem y7(a b:ax):sM a b=some (bif ek a&&(ek b&&ek (Fx a b))then(Fx a b,true)else(⟨0,0,0,0⟩,false)):=by
 unfold sM;rw[iX,iX];simp only[af,N7];rw[show ax.mk (max a.x0 b.x0) (max a.y0 b.y0) (min a.x1 b.x1) (min a.y1 b.y1)=Fx a b from rfl,EN];simp only[af];generalize ek (Fx a b)=c;cases ek a<;>cases ek b<;>cases c<;>rfl
def K0(r:ax):Int:=i64.wrap (i64.wrap (r.x1 -r.x0)*i64.wrap (r.y1 -r.y0))
theorem C8{r:ax}(h:ek r=true):oZ r=some (K0 r):=by
 unfold oZ;rw[EN,h];rfl
def Xl(x:ax)(n:Int)(y:ax):Int:=bif ek x&&(ek y&&ek (Fx x y))then i64.wrap (n+K0 (Fx x y))else n
def EO(a b:U ax):Int:=a.foldl (λ n x=>b.foldl (Xl x) n) 0
theorem anI{α β:Type}(c:Bool)(a:α)(u v:β):(bif c then(a,u)else(a,v)).1=a:=by cases c<;>rfl
theorem IJ(b:U ax)(x:ax)(hb:b.length<=1000)(hn:2000<=n)(m u v:Int):∃o,iter (pX n b x) n (m,(0:Int),u,v)=some o/\o.1=b.foldl (Xl x) m:=by
 refine Oj (λ i (w:Int×Int×Int×Int)=>w.2.1=(i:Int)/\w.1=(b.take i).foldl (Xl x) m) b.length (λ (o:Int×Int×Int)=>o.1=b.foldl (Xl x) m) (λ i w hi hR=>?_) (λ w hR=>?_) n (by omega) _ ⟨rfl,rfl⟩
 .obtain⟨w1,w2,w3,w4⟩:=w;obtain⟨h1,h2⟩:=hR;simp only at h1 h2;subst h1;have e:(b.take (i+1)).foldl (Xl x) m=Xl x w1 b[i]:=by rw[gB hi,List.foldl_append,<- h2];rfl
  simp only[pX,bI hi,aj,bf hi,af,y7];have e0:Xl x w1 b[i]=bif ek x&&(ek b[i]&&ek (Fx x b[i]))then i64.wrap (w1+K0 (Fx x b[i]))else w1:=rfl;rw[e0]at e;cases hc:ek x&&(ek b[i]&&ek (Fx x b[i]))with
  |false=>
   rw[hc]at e;simp only[ak,Bool.not_false,aj,af];exact⟨_,rfl,bL (by omega),e.symm⟩
  |true=>
   rw[hc]at e;have hcc:ek (Fx x b[i])=true:=by
    revert hc;generalize ek (Fx x b[i])=c;cases c
    .cases ek x<;>cases ek b[i]<;>simp
    .simp
   simp only[aj,Bool.not_true,ak,C8 hcc,af,kE];rw[show ∀u v:Int,sub [u,v] 0 2=[u,v]from λ_ _=>rfl,Xa _ _ (by omega)];simp only[af,N7];simp only[show ∀u v:Int,az [u,v].length 2=true from λ_ _=>rfl,aj,af];refine⟨_,rfl,aK i,?_⟩;rw[e];exact anI _ _ _ _
 .obtain⟨w1,w2,w3,w4⟩:=w;obtain⟨h1,h2⟩:=hR;simp only at h1 h2;subst h1;simp only[pX,bS,ak];exact⟨_,rfl,by rw[h2,List.take_length]⟩
theorem Ql(a b:U ax)(ha:a.length<=1000)(hb:b.length<=1000)(hn:2000<=n):∃q,vL n a b=some (EO a b,q):=by
 unfold vL;obtain⟨o,h1,h2⟩:=Oj (step:=pY n a b) (λ i (w:Int×Int×Int×Int)=>w.2.1=(i:Int)/\w.1=(a.take i).foldl (λ n x=>b.foldl (Xl x) n) 0) a.length (λ (o:Int×Int×Int)=>o.1=EO a b) (λ i w hi hR=>by
  obtain⟨w1,w2,w3,w4⟩:=w;obtain⟨h1,h2⟩:=hR;simp only at h1 h2;subst h1;have⟨o,g1,g2⟩:=IJ (n:=n) b a[i] hb hn w1 w3 w4;obtain⟨o1,o2,o3⟩:=o;simp only[pY,bI hi,aj,bf hi,af,g1];refine⟨_,rfl,bL (by omega),?_⟩;simp only at g2;rw[gB hi,List.foldl_append,<- h2,g2];rfl) (λ w hR=>by
  obtain⟨w1,w2,w3,w4⟩:=w;obtain⟨h1,h2⟩:=hR;simp only at h1 h2;subst h1;simp only[pY,bS,ak];exact⟨_,rfl,by rw[h2,List.take_length];rfl⟩) n (by omega) (0,0,1048576,0) ⟨rfl,rfl⟩
 obtain⟨o1,o2,o3⟩:=o;simp only at h2;subst h2;exact⟨_,by rw[h1];rfl⟩
def xY(zs:U dN)(area:U ax):U Int:=bif cT area then zs.map λz=>EO area (Bg z)else []
theorem Qm(p:bq)(a:U ax)(hz:p.zones.length<=100)(ha:a.length<=900)(hn:2000<=n):vM n p a=some (xY p.zones a):=by
 unfold vM xY;rw[lV (by omega) (by omega) (by omega)];simp only[af];cases cT a with
 |false=>rfl
 |true=>
  have:=fE (l:=p.zones) (step:=p8 n p a) (λ i (s:List Int)=>((i:Int),s)) (λ z s=>s++[EO a (Bg z)]) (λ s=>s) (λ i s=>s.length<=i)
   (λ i hi s hs=>?_) (λ s hs=>by simp[p8]) n (by omega) [] (aC _)
  .rw[show ((0:Nat):Int)=0 from rfl]at this;simp only[Bool.not_true,ak,length_nil,aD,aj,this,af,bZ];congr 1;have gen:∀(ys:U dN) (s:U Int),ys.foldl (λ s z=>s++[EO a (Bg z)]) s=s++ys.map λz=>EO a (Bg z):=by
    intro ys
    induction ys with
    |nil=>intro s;simp
    |cons y ys ih=>intro s;rw[foldl_cons,ih];simp
   exact gen p.zones []
  .have cl:=agU p.zones[i];obtain⟨q,hq⟩:=Ql (n:=n) a (Bg p.zones[i]) (by omega) (by omega) hn;have ap:bP s.length s.length (sub ([EO a (Bg p.zones[i])]:U Int) 0 1).length 1 8=true:=dm (n:=1);simp only[p8,bI hi,aj,bf hi,af,SF _ hn,bZ,aD,hq,ap,dR];refine⟨?_,by simp;omega⟩;rw[bL (by omega)];rfl
theorem RX(zs:U dN)(a:U ax):(xY zs a).length<=zs.length:=by
 unfold xY;cases cT a<;>simp
def xw(zs:U dN)(l:U Int)(m:Nat):Int:=(List.range m).foldl (λ (b:Int) i=>if (!((zs.getD i ⟨⟨#[]⟩,false,[]⟩).overlay)&&(decide (l.getD i 0>0)&&(decide (b<0) || decide (l.getD i 0>l.getD b.toNat 0))))=true then(i:Int)else b) (-1)
def EP(zs:U dN)(l:U Int)(i:Nat):Bool:=decide ((i:Int)=xw zs l l.length) || ((zs.getD i ⟨⟨#[]⟩,false,[]⟩).overlay&&decide (l.getD i 0>0))
def EV(zs:U dN)(area:U ax):U ByteArray:=((List.range (xY zs area).length).filter (EP zs (xY zs area))).map λi=>(zs.getD i ⟨⟨#[]⟩,false,[]⟩).name
theorem RY(zs:U dN)(l:U Int):∀m,xw zs l m= -1\/∃k:Nat,k<m/\xw zs l m=(k:Int)
 | 0=> .inl rfl
 |m+1=>by
  have ih:=RY zs l m;unfold xw;rw[List.range_succ,List.foldl_append];simp only[foldl_cons,List.foldl_nil];split
  .exact .inr ⟨m,by omega,rfl⟩
  .rcases ih with h |⟨k,h1,h2⟩
   .exact .inl h
   .exact .inr ⟨k,by omega,h2⟩
theorem IK{α:Type}{l:U α}{i:Nat}(d:α)(h:i<l.length):l.getD i d=l[i]:=by simp[h]
theorem Qn(p:bq)(l:U Int)(hl:l.length<=p.zones.length)(hz:p.zones.length<=100)(hn:2000<=n):iter (p9 p l) n (((-1):Int),(0:Int))=some (xw p.zones l l.length):=by
 have main:=mF (step:=p9 p l) (λ i=>(xw p.zones l i,(i:Int))) l.length (xw p.zones l l.length) (λ i hi=>?_) (by simp[p9]) n (by omega)
 .exact main
 .have hz':i<p.zones.length:=by omega
  have e:xw p.zones l (i+1)=if (!(p.zones[i]).overlay&&(decide (l[i]>0)&&(decide (xw p.zones l i<0) || decide (l[i]>l.getD (xw p.zones l i).toNat 0))))=true then(i:Int)else xw p.zones l i:=by
   conv=>lhs;unfold xw
   rw[List.range_succ,List.foldl_append];simp only[foldl_cons,List.foldl_nil,IK _ hz',IK _ hi];rfl
  rw[e];rcases RY p.zones l i with h |⟨k,h1,h2⟩
  .rw[h];have d:decide ((-1:Int)<0)=true:=rfl;simp only[p9,bI hi,aj,aU hi,aX hi,af,bf hz',d,N7,Bool.true_or,Bool.and_true,aK i];cases (p.zones[i]).overlay<;>cases decide (l[i]>0)<;>rfl
  .rw[h2];have d:decide ((k:Int)<0)=false:=(by simp);have hk:k<l.length:=(by omega);simp only[p9,bI hi,aj,aU hi,aX hi,af,bf hz',d,N7,Bool.false_or,ak,aU hk,aX hk,Int.toNat_natCast,IK _ hk,aK i];cases (p.zones[i]).overlay<;>cases decide (l[i]>0)<;>cases decide (l[i]>l[k])<;>rfl
theorem ab5(p:bq)(a:U ax)(hz:p.zones.length<=100)(ha:a.length<=900)(hn:2000<=n):CR n p a=some (EV p.zones a):=by
 unfold CR;have sl:=RX p.zones a;rw[Qm p a hz ha hn];simp only[af];rw[Qn p _ sl hz hn];simp only[af,length_nil,aD,aj];unfold EV;generalize hL:xY p.zones a=l at*
 have:=fE (l:=List.range l.length) (step:=xO p l (xw p.zones l l.length)) (λ i (s:List ByteArray)=>((i:Int),s)) (λ i s=>bif EP p.zones l i then s++[(p.zones.getD i ⟨⟨#[]⟩,false,[]⟩).name]else s) (λ s=>s) (λ i s=>s.length<=i)
  (λ i hi s hs=>?_) (λ s hs=>by rw[List.length_range];simp[xO]) n (by rw[List.length_range];omega) [] (aC _)
 .rw[show ((0:Nat):Int)=0 from rfl]at this;simp only[this,af,bZ,aD,aj];congr 1;have gen:∀(ys:U Nat)(s:U ByteArray),ys.foldl (λ s i=>bif EP p.zones l i then s++[(p.zones.getD i ⟨⟨#[]⟩,false,[]⟩).name]else s) s=s++(ys.filter (EP p.zones l)).map λi=>(p.zones.getD i ⟨⟨#[]⟩,false,[]⟩).name:=by
   intro ys
   induction ys with
   |nil=>intro s;simp
   |cons y ys ih=>
    intro s;rw[foldl_cons,ih,List.filter_cons];cases EP p.zones l y<;>simp
  exact gen (List.range l.length) []
 .rw[List.length_range]at hi;have hz':i<p.zones.length:=by omega
  rw[List.getElem_range];have ap:bP s.length s.length (sub ([(p.zones[i]).name]:U ByteArray) 0 1).length 1 16=true:=dm (n:=1);have hb:((i:Int)==xw p.zones l l.length)=decide ((i:Int)=xw p.zones l l.length):=by rw[j5];simp
  simp only[xO,bI hi,aj,aU hi,aX hi,af,bf hz',hb,N7,ap,dR,aD,EP,IK _ hz',IK _ hi,aK i];cases decide ((i:Int)=xw p.zones l l.length)<;>cases (p.zones[i]).overlay<;>cases decide (l[i]>0)<;>refine⟨rfl,?_⟩<;>simp<;>omega
theorem anJ(zs:U dN)(a:U ax):(EV zs a).length<=zs.length:=by
 unfold EV;rw[length_map];have h1:=length_filter_le (EP zs (xY zs a)) (List.range (xY zs a).length);rw[List.length_range]at h1;have:=RX zs a;omega
def ll(a b:ByteArray):Bool:=ByteArray.toList a==ByteArray.toList b
theorem uR{l:U ByteArray}{a:ByteArray}(hl:l.length<1099511627776)(hn:l.length<n):fI n l a=some (l.any (ll a)):=by
 unfold fI;have e:ru n l a=abM n (λ x=>ByteArray.toList a==ByteArray.toList x) l:=by kernel_rfl
 rw[e,RH hl hn,af,xE];rfl
theorem qf{l:U ByteArray}{φ:(ByteArray×Unit)->J Bool}(p:ByteArray->Bool)(h:∀x∈l,φ (x,())=some (p x))(hl:l.length<1099511627776)(hn:l.length<n):fO n l φ=some (l.any p):=by
 unfold fO;have e:qo n l φ=wD n l φ:=by kernel_rfl
 rw[e,gG p h hl hn,af,xE]
def UJ(r:bV)(zs:U ByteArray):Bool:=(decide (r.zones=[]) || r.zones.any λz=>zs.any (ll z))&&!(r.except.any λz=>zs.any (ll z))
theorem Qo(r:bV)(zs:U ByteArray)(h1:r.zones.length<=100)(h2:r.except.length<=100)(h3:zs.length<=100)(hn:2000<=n):qI n r zs=some (UJ r zs):=by
 have hf:∀x:ByteArray,j3 n x zs=some (zs.any (ll x)):=λx=>by unfold j3;rw[uR (by omega) (by omega)];rfl
 unfold qI UJ;rw[qf (λ z=>zs.any (ll z)) (λ x _=>hf x) (by omega) (by omega),qf (λ z=>zs.any (ll z)) (λ x _=>hf x) (by omega) (by omega)];simp only[af,N7];have e:((r.zones.length:Int)==0)=decide (r.zones=[]):=by
  rw[j5,beq_iff_eq,aV];constructor
  .intro h;exact List.length_eq_zero_iff.1 (by omega)
  .intro h;rw[h];rfl
 rw[e];cases decide (r.zones=[])<;>cases (r.zones.any λz=>zs.any (ll z))<;>cases (r.except.any λz=>zs.any (ll z))<;>rfl
def mY(zs:U ByteArray)(day:Int)(r:bV):Bool:=decide (r.from_<=day)&&((r.cM==0 || decide (day<r.cM))&&UJ r zs)
def Qp(rules:U bV)(zs:U ByteArray)(day:Int):U Nat:=(List.range rules.length).filter λi=>(rules[i]?).any (mY zs day)
abbrev Xm(r:bV):Prop:=r.zones.length<=100/\r.except.length<=100
theorem SG(p:bq)(zs:U ByteArray)(day:Int)(hr:∀r∈p.rules,Xm r)(hl:p.rules.length<=100)(h3:zs.length<=100)(hn:2000<=n):uf n p zs day=some ((Qp p.rules zs day).map λ(i:Nat)=>(i:Int)):=by
 unfold uf Qp
 have:=fE (l:=List.range p.rules.length) (step:=rz n p zs day) (λ i (s:List Int)=>((i:Int),s)) (λ i s=>bif(p.rules[i]?).any (mY zs day)then s++[(i:Int)]else s) (λ s=>s) (λ i s=>s.length<=i)
  (λ i hi s hs=>?_) (λ s hs=>by rw[List.length_range];simp[rz]) n (by rw[List.length_range];omega) [] (aC _)
 .rw[show ((0:Nat):Int)=0 from rfl]at this;simp only[length_nil,aD,aj,this,af,bZ];congr 1;have gen:∀(ys:U Nat)(s:U Int),ys.foldl (λ s (i:Nat)=>bif(p.rules[i]?).any (mY zs day)then s++[(i:Int)]else s) s=s++(ys.filter λi=>(p.rules[i]?).any (mY zs day)).map λ(i:Nat)=>(i:Int):=by
   intro ys
   induction ys with
   |nil=>intro s;simp
   |cons y ys ih=>
    intro s;rw[foldl_cons,ih,List.filter_cons];cases (p.rules[y]?).any (mY zs day)<;>simp
  exact gen (List.range p.rules.length) []
 .rw[List.length_range]at hi;rw[List.getElem_range];obtain⟨o1,o2⟩:=hr _ (getElem_mem hi);have ap:bP s.length s.length (sub ([(i:Int)]:U Int) 0 1).length 1 8=true:=dm (n:=1);have eg:(p.rules[i]?).any (mY zs day)=mY zs day p.rules[i]:=by rw[dL hi];rfl
  rw[eg];simp only[rz,bI hi,aj,bf hi,af,Qo _ zs o1 o2 h3 hn,N7,ap,dR,aD,mY,aK i];cases decide ((p.rules[i]).from_<=day)<;>cases (p.rules[i]).cM==0<;>cases decide (day<(p.rules[i]).cM)<;>cases UJ p.rules[i] zs<;>refine⟨rfl,?_⟩<;>simp<;>omega
def Xn(p:dX):Bool:=decide (0<=p.side/\p.side<=3)&&(decide (0<=p.base/\p.base<=4096)&&(decide (0<=p.num/\p.num<=4096)&&decide (1<=p.den/\p.den<=4096)))
theorem al2(p:dX):Xn p=true↔(0<=p.side/\p.side<=3)/\(0<=p.base/\p.base<=4096)/\(0<=p.num/\p.num<=4096)/\(1<=p.den/\p.den<=4096):=by simp only[Xn,aL,aV]
theorem SH(a b c:Int):nN a b c=some (decide (b<=a/\a<=c)):=by
 unfold nN;by_cases h1:b<=a
 .have d:decide (b<=a)=true:=by simpa using h1
  rw[d,aj];congr 1;rw[j5];simp[h1]
 .have d:decide (b<=a)=false:=by simpa using h1
  rw[d,ak];congr 1;rw[j5];simp[h1]
theorem Xo(p:dX):Ao p=some (Xn p):=by
 unfold Ao Xn;simp only[SH,af,N7];generalize decide (0<=p.side/\p.side<=3)=a;generalize decide (0<=p.base/\p.base<=4096)=b;generalize decide (0<=p.num/\p.num<=4096)=c;cases a<;>cases b<;>cases c<;>rfl
theorem Bh{l:U dX}{φ:(dX×Unit)->J Bool}(p:dX->Bool)(h:∀x∈l,φ (x,())=some (p x))(hl:l.length<1099511627776)(hn:l.length<n):kI n l φ=some (l.any p):=by
 unfold kI;have e:rU n l φ=wD n l φ:=by kernel_rfl
 rw[e,gG p h hl hn,af,xE]
def EQ(b:ax)(l:U dX):Bool:=ek b&&!(l.any λp=>!Xn p)
theorem Xp(b:ax)(l:U dX)(hl:l.length<=1000)(hn:2000<=n):Ap n b l=some (EQ b l):=by
 unfold Ap EQ;rw[iX,Bh (λ p=>!Xn p) (λ p _=>by show ug p=_;unfold ug;rw[Xo];rfl) (by omega) (by omega)];simp only[af,N7];cases ek b<;>rfl
theorem agV{a n:Int}(hn:0<n):(if Int.tmod a n<0 then Int.tdiv a n -1 else Int.tdiv a n)=a/n:=by
 have h1:=Int.mul_ediv_add_emod a n;have h2:=Int.emod_nonneg a (by omega:n≠0);have h3:=Int.emod_lt_of_pos a hn;rcases Int.le_total 0 a with h |h
 .have e1:Int.tmod a n=a%n:=Int.tmod_eq_emod_of_nonneg h;have e2:Int.tdiv a n=a/n:=Int.tdiv_eq_ediv_of_nonneg h;rw[e1,e2,aR (by omega)]
 .obtain⟨b,rfl⟩:∃b,a= -b:=⟨-a,by omega⟩;have hb:0<=b:=by omega
  have e1:Int.tmod (-b) n= -(b%n):=by rw[Int.neg_tmod,Int.tmod_eq_emod_of_nonneg hb]
  have e2:Int.tdiv (-b) n= -(b/n):=by rw[Int.neg_tdiv,Int.tdiv_eq_ediv_of_nonneg hb]
  have g1:=Int.mul_ediv_add_emod b n;have g2:=Int.emod_nonneg b (by omega:n≠0);have g3:=Int.emod_lt_of_pos b hn;rw[e1,e2];by_cases hm:b%n=0
  .rw[aR (by omega)];have:(-b)/n= -(b/n):=by
    refine(Int.ediv_eq_iff_of_pos hn).2 ?_;constructor
    .rw[Int.neg_mul,Int.mul_comm (b/n)];omega
    .rw[Int.neg_mul,Int.mul_comm (b/n)];omega
   omega
  .rw[aY (by omega)];have:(-b)/n= -(b/n) -1:=by
    refine(Int.ediv_eq_iff_of_pos hn).2 ?_;constructor
    .rw[Int.sub_mul,Int.neg_mul,Int.mul_comm (b/n)];omega
    .rw[Int.sub_mul,Int.neg_mul,Int.mul_comm (b/n)];omega
   omega
theorem Ol{a n:Int}(hn:0<n)(ha: -4611686018427387904<=a/\a<=4611686018427387904):uh a n=some (a/n):=by
 have nz:(n !=0)=true:=by simp;omega
 have hb: -4611686018427387904<=a/n/\a/n<=4611686018427387904:=by
  constructor
  .rw[Int.le_ediv_iff_mul_le hn];have: -4611686018427387904*n<= -4611686018427387904:=(by omega);omega
  .rcases Int.le_total 0 a with h |h
   .have:=Int.ediv_le_self n h;omega
   .have:a/n<=0:=by
     have:=(Int.ediv_lt_iff_lt_mul (a:=a) (b:=1) hn).2 (by omega);omega
    omega
 have hf:=agV (a:=a) hn;have ht: -4611686018427387904<=Int.tdiv a n/\Int.tdiv a n<=4611686018427387905:=by split at hf<;>omega
 unfold uh;simp only[nz,aj];rw[dQ (x:=Int.tdiv a n),dQ (x:=Int.tdiv a n -1),<- hf];by_cases h:Int.tmod a n<0
 .have d:decide (Int.tmod a n<0)=true:=by simpa using h
  rw[d,aY h];rfl
 .have d:decide (Int.tmod a n<0)=false:=by simpa using h
  rw[d,aR h];rfl
def Xq(b:ax)(side x y:Int):Int:=if side=0 then x -b.x0 else if side=1 then b.x1 -1 -x else if side=2 then y -b.y0 else b.y1 -1 -y
def apC(b:ax)(p:dX)(x y:Int):Int:=p.base+p.num*Xq b p.side x y/p.den
def Y5(b:ax)(l:U dX)(x y:Int):Int:=l.foldl (λ h p=>min h (apC b p x y)) 4096
abbrev InG(x y:Int):Prop:=(0<=x/\x<1048576)/\(0<=y/\y<1048576)
theorem aeB{b:ax}(hb:ek b=true){x y:Int}(h:InG x y)(side:Int): -1048576<=Xq b side x y/\Xq b side x y<=1048576:=by
 simp only[ek,aL,aV]at hb;obtain⟨h1,h2⟩:=h;unfold Xq;split
 .omega
 .split
  .omega
  .split<;>omega
theorem ajS{a d:Int}(ha:0<=a/\a<=4096)(hd: -1048576<=d/\d<=1048576): -4294967296<=a*d/\a*d<=4294967296:=by
 have h1:a*d<=a*1048576:=Int.mul_le_mul_of_nonneg_left hd.2 ha.1;have h2:a*(-1048576)<=a*d:=Int.mul_le_mul_of_nonneg_left hd.1 ha.1;omega
theorem ajT{a n:Int}(hn:0<n)(ha: -4294967296<=a/\a<=4294967296): -4294967296<=a/n/\a/n<=4294967296:=by
 constructor
 .rw[Int.le_ediv_iff_mul_le hn];omega
 .rcases Int.le_total 0 a with h |h
  .have:=Int.ediv_le_self n h;omega
  .have:=(Int.ediv_lt_iff_lt_mul (a:=a) (b:=1) hn).2 (by omega);omega
theorem ab6{b:ax}{l:U dX}{x y:Int}(hb:ek b=true)(hp:∀p∈l,Xn p=true)(h:InG x y)(hl:l.length<=1000)(hn:2000<=n):JJ n b l x y=some (Y5 b l x y):=by
 unfold JJ wY;have hr:=hb;simp only[ek,aL,aV]at hr;obtain⟨h1,h2⟩:=h;rw[dQ (x:=x -b.x0),dQ (x:=b.x1 -1),dQ (x:=b.x1 -1 -x),dQ (x:=y -b.y0),dQ (x:=b.y1 -1),dQ (x:=b.y1 -1 -y)];simp only[af];have:=oq (l:=l) (step:=xR b l x y ⟨x -b.x0,b.x1 -1 -x,y -b.y0,b.y1 -1 -y⟩) (λ i (s:Int)=>(s,(i:Int))) (λ p s=>min s (apC b p x y)) (λ s=>s) (λ i hi s=>?_) (λ s=>by simp[xR]) n (by omega) 4096
 .rw[show ((0:Nat):Int)=0 from rfl]at this;rw[this];rfl
 .obtain⟨s1,s2,s3,s4⟩:=(al2 _).1 (hp _ (getElem_mem hi));have ib:cC (l[i]).side 4=true:=by simp[cC];omega
  have g:bp ([x -b.x0,b.x1 -1 -x,y -b.y0,b.y1 -1 -y]:U Int) (l[i]).side=some (Xq b (l[i]).side x y):=by
   have hs:(l[i]).side=0\/(l[i]).side=1\/(l[i]).side=2\/(l[i]).side=3:=(by omega);rcases hs with e |e |e |e<;>rw[e]<;>simp[bp,Xq]
  have db:=aeB hb ⟨h1,h2⟩ (l[i]).side;have mb:=ajS s3 db;have dv:=ajT (n:=(l[i]).den) (by omega) mb;simp only[xR,bI hi,aj,bf hi,af,ib,g];rw[dQ (x:=(l[i]).num*Xq b (l[i]).side x y),Ol (by omega) (by omega)];simp only[af];rw[dQ (x:=(l[i]).base+_),bL (by omega)];rfl
theorem aeC(b:ax)(l:U dX):EQ b l=true↔ek b=true/\∀p∈l,Xn p=true:=by
 unfold EQ;rw[aL,Bool.not_eq_true',List.any_eq_false];simp
def FA(x:fT):Bool:=decide (x.z0<0) || (decide (x.z0>=x.z1) || (decide (x.z1>4096) || (decide (x.area=[]) || !cT x.area)))
def zz(p:J fT×fT):Bool:=FA p.2 || p.1.any λq=>decide (q.z1>p.2.z0) || (q.z1==p.2.z0&&decide (q.area=p.2.area))
def Bj(s:U fT):U (Option fT×fT):=(none::s.map some).zip s
def ER(s:U fT):Bool:=decide (s.length<=80)&&!((Bj s).any zz)
theorem pz(s:U fT):(Bj s).length=s.length:=by simp[Bj]
theorem ES{s:U fT}{i:Nat}(h:i<(Bj s).length):(Bj s)[i]=(if h0:i=0 then none else some (s[i -1]'(by rw[pz]at h;omega)),s[i]'(by rw[pz]at h;exact h)):=by
 simp only[Bj,List.getElem_zip,Prod.mk.injEq,and_true];cases i with
 |zero=>simp
 |succ i=>simp
theorem RZ{s:U fT}(ha:∀x∈s,x.area.length<=900)(hn:1000<=n):Ik n s=some (ER s):=by
 unfold Ik ER;by_cases h80:s.length<=80
 .have d:decide ((s.length:Int)>80)=false:=by simp;omega
  have d2:decide (s.length<=80)=true:=by simpa using h80
  have z:∀l:U ax,(((l.length:Int))==0)=decide (l=[]):=λl=>by cases l<;>simp<;>omega
  have:=pM (l:=Bj s) (step:=Aq n s) (λ i=>(i:Int)) zz () (λ _=>false) (λ i hi=>?_) ?_ n (by rw[pz];omega)
  .rw[show ((0:Nat):Int)=0 from rfl]at this;rw[d,d2,this,<- Qj];cases nU zz (Bj s)<;>rfl
  .rw[ES];rw[pz]at hi;have hi':decide ((i:Int)<(s.length:Int))=true:=(by simpa using hi);have h1:=ha _ (getElem_mem hi);simp only[Aq,hi',aj,bf hi,af,z,lV (n:=n) (l:=s[i].area) (by omega) (by omega) hn,zz];rw[bL (by omega)];have b:((bif decide (s[i].z0<0)then some true else bif decide (s[i].z0>=s[i].z1)then some true else bif decide (s[i].z1>4096)then some true else bif decide (s[i].area=[])then some true else some (!cT s[i].area)):J Bool)=some (FA s[i]):=by
    unfold FA;cases decide (s[i].z0<0)<;>cases decide (s[i].z0>=s[i].z1)<;>cases decide (s[i].z1>4096)<;>cases decide (s[i].area=[])<;>rfl
   rw[b];simp only[af];cases FA s[i]with
   |true=>simp[dw]
   |false=>
    by_cases h0:i=0
    .subst h0;have:((((0:Nat):Int))==0)=true:=rfl;simp only[this,aj,ak,dW,dif_pos,Option.any_none,Bool.or_false]
    .have e0:((i:Int)==0)=false:=(by simp;omega);have w:i64.wrap ((i:Int) -1)=((i -1:Nat):Int):=mQ (by omega) (by omega);have h2:=ha _ (getElem_mem (show i -1<s.length by omega));simp only[e0,ak,w,bf (show i -1<s.length by omega),af,agR (n:=n) (a:=s[i -1].area) (b:=s[i].area) (by omega) (by omega),h0,dif_neg,not_false_eq_true,Option.any_some,Bool.false_or];cases decide (s[i -1].z1>s[i].z0)with
     |true=>simp[dw]
     |false=>
      cases s[i -1].z1==s[i].z0 with
      |false=>simp[dw]
      |true=>cases decide (s[i -1].area=s[i].area)<;>simp[dw]
  .rw[pz];simp[Aq]
 .have d:decide ((s.length:Int)>80)=true:=by simp;omega
  have d2:decide (s.length<=80)=false:=by simpa using h80
  rw[d,d2];rfl
structure al3(x:fT):Prop where
 lo:0<=x.z0
 lt:x.z0<x.z1
 hi:x.z1<=4096
 ne:x.area≠[]
 rt:cT x.area=true
def apD(s:U fT):Prop:=∀i (h:i+1<s.length),s[i].z1<=s[i+1].z0/\¬(s[i].z1=s[i+1].z0/\s[i].area=s[i+1].area)
theorem aeE(x:fT):FA x=false↔al3 x:=by
 unfold FA;simp only[Bool.or_eq_false_iff,dO,Bool.not_eq_false'];constructor
 .rintro⟨h1,h2,h3,h4,h5⟩;exact⟨by omega,by omega,by omega,h4,h5⟩
 .rintro⟨h1,h2,h3,h4,h5⟩;exact⟨by omega,by omega,by omega,h4,h5⟩
theorem Xr(s:U fT):ER s=true↔s.length<=80/\(∀ x∈s,al3 x)/\apD s:=by
 unfold ER;rw[aL,aV,Bool.not_eq_true',List.any_eq_false];refine and_congr_right λ_=>?_;constructor
 .intro h;have key:∀i (hi:i<s.length),zz ((Bj s)[i]'(by rw[pz];exact hi))=false:=λi hi=>by
   have:=h _ (getElem_mem (show i<(Bj s).length by rw[pz];exact hi));simpa using this
  refine⟨λ x hx=>?_,λi hi=>?_⟩
  .obtain⟨i,hi,rfl⟩:=mem_iff_getElem.1 hx;have:=key i hi;rw[ES]at this;unfold zz at this;rw[Bool.or_eq_false_iff]at this;exact(aeE _).1 this.1
  .have:=key (i+1) hi;rw[ES]at this;unfold zz at this;rw[Bool.or_eq_false_iff]at this;have h2:=this.2;simp only[Nat.succ_ne_zero,dif_neg,not_false_eq_true,Option.any_some,Nat.add_sub_cancel,Bool.or_eq_false_iff,dO,Bool.and_eq_false_iff,beq_eq_false_iff_ne]at h2;refine⟨by omega,λ⟨e1,e2⟩=>?_⟩;rcases h2.2 with h3 |h3
   .exact h3 e1
   .exact h3 e2
 .rintro⟨h1,h2⟩ p hp;obtain⟨i,hi,rfl⟩:=mem_iff_getElem.1 hp;rw[ES];rw[pz]at hi;unfold zz;have hb:=(aeE _).2 (h1 _ (getElem_mem hi));by_cases h0:i=0
  .simp[h0]at hb ⊢;exact hb
  .obtain⟨j,rfl⟩:∃j,i=j+1:=⟨i -1,by omega⟩;have⟨n1,n2⟩:=h2 j hi;simp only[Nat.succ_ne_zero,dif_neg,not_false_eq_true,Option.any_some,Nat.add_sub_cancel];rw[hb];simp only[Bool.false_or,Bool.or_eq_true,aV,aL,beq_iff_eq];rintro (h |h)
   .omega
   .exact n2 h
theorem sP{l:U fT}{φ:(fT×Unit)->J Bool}(p:fT->Bool)(h:∀x∈l,φ (x,())=some (p x))(hl:l.length<1099511627776)(hn:l.length<n):je n l φ=some (l.any p):=by
 unfold je uj;have:=pM (l:=l) (step:=lU l φ) (λ i=>(i:Int)) p () (λ i=>(i:Int)) (λ i hi=>?_) (by simp[lU]) n hn
 .rw[show ((0:Nat):Int)=0 from rfl]at this;rw[this,<- Qj];cases nU p l with
  |none=>rfl
  |some i=>simp<;>omega
 .have hi':decide ((i:Int)<(l.length:Int))=true:=by simpa using hi
  simp only[lU,hi',aj,bf hi,af,h _ (getElem_mem hi)];rw[bL (by omega)];cases p l[i]<;>rfl
def L7(s:U fT)(lot:Int)(e:jl):Bool:=e.lot==lot&&(cT e.area&&s.any λc=>decide (c.z1>e.top)&&Kf c.area e.area)
def KB(l:U jl)(lot:Int)(s:U fT):Bool:=ER s&&!(l.any (L7 s lot))
theorem Y6{l:U jl}{lot:Int}{s:U fT}(hl:l.length<=900)(he:∀e∈l,e.area.length<=900)(ha:∀x∈s,x.area.length<=900)(hn:1000<=n):EA n l lot s=some (KB l lot s):=by
 unfold EA KB;rw[RZ ha hn];simp only[af];cases hr:ER s with
 |false=>rfl
 |true=>
 have l80:=((Xr s).1 hr).1;have:=pM (l:=l) (step:=vP n l lot s) (λ i=>(i:Int)) (L7 s lot) () (λ _=>false) (λ i hi=>?_) (by simp[vP]) n (by omega)
 .rw[show ((0:Nat):Int)=0 from rfl]at this;simp only[Bool.not_true,ak];rw[this,<- Qj];cases nU (L7 s lot) l<;>rfl
 .have hi':decide ((i:Int)<(l.length:Int))=true:=by simpa using hi
  have h1:=he _ (getElem_mem hi);have cf:=sP (n:=n) (l:=s) (φ:=λy:fT×Unit=>qL n y.1 l[i]) (λ c=>decide (c.z1>l[i].top)&&Kf c.area l[i].area) (λ c hc=>by
   have:=ha c hc;show qL n c l[i]=_;unfold qL;rw[agQ (by omega) (by omega) (by omega) (by omega)];cases decide (c.z1>l[i].top)<;>rfl) (by omega) (by omega)
  simp only[vP,hi',aj,bf hi,af,lV (n:=n) (l:=l[i].area) (by omega) (by omega) hn,cf];rw[bL (by omega)];unfold L7;cases h2:l[i].lot==lot with
  |false=>
   have:(l[i].lot !=lot)=true:=(by simp[bne,h2]);simp[this,dw]
  |true=>
   have:(l[i].lot !=lot)=false:=(by simp[bne,h2]);simp only[this,ak,af];cases cT l[i].area with
   |false=>simp[dw]
   |true=>cases s.any λc=>decide (c.z1>l[i].top)&&Kf c.area l[i].area<;>simp[dw]
theorem aeG(r:ax):ek r=true↔(0<=r.x0/\r.x0<r.x1/\r.x1<=1048576)/\(0<=r.y0/\r.y0<r.y1/\r.y1<=1048576):=by simp only[ek,aL,aV];omega
theorem J6{b:ax}{l:U dX}(r:ax)(x:Int)(hb:ek b=true)(hp:∀p∈l,Xn p=true)(hr:ek r=true)(hx:0<=x/\x<1048576)(hl:l.length<=1000)(hn:2000<=n)(v:Int):
 iter (nY n b l r x) n (v,(0:Int))=some (min (min v (Y5 b l x r.y0)) (Y5 b l x (r.y1 -1))):=by
 have ho:=(aeG r).1 hr;have w:i64.wrap (r.y1 -1)=r.y1 -1:=dQ (by omega) (by omega);have:=oq (l:=[r.y0,r.y1 -1]) (step:=nY n b l r x) (λ i (s:Int)=>(s,(i:Int))) (λ y m=>min m (Y5 b l x y)) (λ s=>s) (λ i hi s=>?_) (λ s=>by simp[nY]) n (by simp;omega) v
 .rw[show ((0:Nat):Int)=0 from rfl]at this;exact this
 .have h2:i<2:=by simpa using hi
  have yb:0<=([r.y0,r.y1 -1]:U Int)[i]/\([r.y0,r.y1 -1]:U Int)[i] <1048576:=by
   rcases i with _ |_ |i
   .simp only[List.getElem_cons_zero];omega
   .simp only[List.getElem_cons_succ,List.getElem_cons_zero];omega
   .omega
  simp only[nY,show decide ((i:Int)<2)=true from decide_eq_true (by omega),bI h2,aj,aU h2,w,aX hi,af,ab6 hb hp ⟨hx,yb⟩ hl hn,aK i]
def UV(b:ax)(l:U dX)(v:Int)(r:ax):Int:=min (min (min (min v (Y5 b l r.x0 r.y0)) (Y5 b l r.x0 (r.y1 -1))) (Y5 b l (r.x1 -1) r.y0)) (Y5 b l (r.x1 -1) (r.y1 -1))
theorem J7{b:ax}{l:U dX}(r:ax)(hb:ek b=true)(hp:∀p∈l,Xn p=true)(hr:ek r=true)(hl:l.length<=1000)(hn:2000<=n)(v:Int):
 iter (nZ n b l r) n (v,(0:Int))=some (UV b l v r):=by
 have ho:=(aeG r).1 hr;have w:i64.wrap (r.x1 -1)=r.x1 -1:=dQ (by omega) (by omega);have:=oq (l:=[r.x0,r.x1 -1]) (step:=nZ n b l r) (λ i (s:Int)=>(s,(i:Int))) (λ x m=>min (min m (Y5 b l x r.y0)) (Y5 b l x (r.y1 -1))) (λ s=>s) (λ i hi s=>?_) (λ s=>by simp[nZ]) n (by simp;omega) v
 .rw[show ((0:Nat):Int)=0 from rfl]at this;exact this
 .have h2:i<2:=by simpa using hi
  have xb:0<=([r.x0,r.x1 -1]:U Int)[i]/\([r.x0,r.x1 -1]:U Int)[i] <1048576:=by
   rcases i with _ |_ |i
   .simp only[List.getElem_cons_zero];omega
   .simp only[List.getElem_cons_succ,List.getElem_cons_zero];omega
   .omega
  simp only[nZ,show decide ((i:Int)<2)=true from decide_eq_true (by omega),bI h2,aj,aU h2,w,aX hi,af,J6 r _ hb hp hr xb hl hn,aK i]
def L5(b:ax)(l:U dX)(a:U ax):Int:=a.foldl (UV b l) 4096
theorem SK{b:ax}{l:U dX}{a:U ax}(hb:ek b=true)(hp:∀p∈l,Xn p=true)(ha:∀r∈a,ek r=true)(hal:a.length<=1000)(hl:l.length<=1000)(hn:2000<=n):xS n b l a=some (L5 b l a):=by
 unfold xS;have:=oq (l:=a) (step:=rD n b l a) (λ i (s:Int)=>(s,(i:Int))) (λ r m=>UV b l m r) (λ s=>s) (λ i hi s=>?_) (λ s=>by simp[rD]) n (by omega) 4096
 .rw[show ((0:Nat):Int)=0 from rfl]at this;rw[this];rfl
 .simp only[rD,bI hi,aj,bf hi,af,J7 a[i] hb hp (ha _ (getElem_mem hi)) hl hn,aK i]
theorem anM(r:ax):ek r=true↔(0<=r.x0/\r.x0<r.x1/\r.x1<=1048576)/\(0<=r.y0/\r.y0<r.y1/\r.y1<=1048576):=by simp only[ek,aL,aV];omega
abbrev DD(t:bU):Prop:=t.area.length<=900/\t.from_.length*8<=140737488355328
theorem agX{t:bU}(h:DD t):NP t=some t:=by
 unfold NP;have h2:=h.2;rw[Qd (by omega),af,show En t.from_=some t.from_ from RI (b:=8) (by omega) (by simp only[maxLen];omega),af];simp only[bZ,aD,aj]
theorem ajV{land:U bU}{id:Int}(h:∀t∈land,DD t)(hl:land.length<1099511627776)(hn:land.length<n):NQ n land id=some (jv land id):=by
 unfold NQ;have:=pM (l:=land) (step:=Eo land id) (λ i=>(i:Int)) (λ t=>t.id==id) () (λ i=>(land.getD i NL,true)) (λ i hi=>?_) ?_ n hn
 .rw[show ((0:Nat):Int)=0 from rfl]at this;rw[this];unfold jv;rcases Ll (λ t:bU=>t.id==id) land with ⟨i,hi,h1,h2⟩ |⟨h1,h2⟩
  .rw[h1,h2];simp[hi]
  .rw[h1,h2];rfl
 .simp only[Eo,bI hi,aj,bf hi,af,agX (h _ (getElem_mem hi))];cases land[i].id==id with
  |true=>simp[hi]
  |false=>simp only[ak];rw[bL (by omega)]
 .simp[Eo]
theorem Qq{land:U bU}(h:∀t∈land,DD t)(id:Int):DD (jv land id).1:=by
 unfold jv;split
 .rename_i t ht;exact h t (List.mem_of_find?_eq_some ht)
 .simp[DD,NL]
structure apR(t:bT):Prop where
 rules:t.bj.length<=20
 PT:∀r∈t.bj,Xm r
 zones:t.b8.length<=20
 land:t.land.length<=20
 lots:∀l∈t.land,DD l
 bz:t.bz.length<=5
 apU:∀e∈t.bz,e.area.length<=10
theorem R3{α:Type}(p:α->Bool):∀l:U α,((List.range l.length).filter λi=>(l[i]?).any p).filterMap (λ i=>l[i]?)=l.filter p
 |[]=>rfl
 |a::l=>by
  have ih:=R3 p l;rw[bJ,List.range_succ_eq_map,List.filter_cons,List.filter_cons];have e:(List.filter (λ i=>((a::l)[i]?).any p) (List.map Nat.succ (List.range l.length))).filterMap (λ i=>(a::l)[i]?)=l.filter p:=by
   rw[List.filter_map,List.filterMap_map];exact ih
  cases hp:p a with
  |true=>simp[hp];simpa using e
  |false=>simp[hp];simpa using e
def GE(a r:ax):ax:=⟨min a.x0 r.x0,min a.y0 r.y0,max a.x1 r.x1,max a.y1 r.y1⟩
def aiF:U ax->ax
 |[]=>⟨0,0,0,0⟩
 |r::l=>l.foldl GE r
def JQ(a:U ax):ax×Bool:=bif decide (a≠[])&&cT a then(aiF a,true)else(⟨0,0,0,0⟩,false)
theorem aeH{a:U ax}(ha:a≠[])(hv:∀r∈a,ek r=true)(hl:a.length<=900)(hn:2000<=n):NH n a=some (aiF a,true):=by
 unfold NH;have:=oq (l:=a.zip (List.range a.length)) (step:=Af a) (λ i (s:Bool×Int×Int×Int×Int)=>(s.1,(i:Int),s.2)) (λ p s=>bif !s.1 then(true,p.1.x0,p.1.y0,p.1.x1,p.1.y1)else(s.1,min s.2.1 p.1.x0,min s.2.2.1 p.1.y0,max s.2.2.2.1 p.1.x1,max s.2.2.2.2 p.1.y1)) (λ s=>s) (λ i hi s=>?_) (λ s=>?_) n (by simp;omega) (false,0,0,0,0)
 .rw[show ((0:Nat):Int)=0 from rfl]at this;simp only at this;rw[this];cases a with
  |nil=>exact absurd rfl ha
  |cons r l=>
   have gen:∀(l:U ax) (k:U Nat) (s:ax),l.length<=k.length->(l.zip k).foldl (λ (s:Bool×Int×Int×Int×Int) p=>bif !s.1 then(true,p.1.x0,p.1.y0,p.1.x1,p.1.y1)else(s.1,min s.2.1 p.1.x0,min s.2.2.1 p.1.y0,max s.2.2.2.1 p.1.x1,max s.2.2.2.2 p.1.y1)) (true,s.x0,s.y0,s.x1,s.y1)=(true,(l.foldl GE s).x0,(l.foldl GE s).y0,(l.foldl GE s).x1,(l.foldl GE s).y1):=by
    intro l
    induction l with
    |nil=>intro k s _;rfl
    |cons r l ih=>
     intro k s hk;cases k with
     |nil=>simp at hk
     |cons j k=>
      rw[List.zip_cons_cons,foldl_cons,foldl_cons];exact ih k (GE s r) (by simpa using hk)
   rw[bJ,List.range_succ_eq_map,List.zip_cons_cons,foldl_cons];simp only[Bool.not_false,aj];rw[gen l _ r (by simp)];rfl
 .have hi':i<a.length:=by simpa using hi
  obtain⟨s1,s2,s3,s4,s5⟩:=s;have ok:=hv _ (getElem_mem hi');simp only[Af,bI hi',aj,bf hi',af,iX,ok,Bool.not_true,ak,N7,List.getElem_zip,aK i]
 .obtain⟨s1,s2,s3,s4,s5⟩:=s;have:(a.zip (List.range a.length)).length=a.length:=by simp
  simp only[this,Af,bS,ak]
theorem Om(a:U ax)(hl:a.length<=900)(hn:2000<=n):CO n a=some (JQ a):=by
 unfold CO JQ;cases a with
 |nil=>rfl
 |cons r l=>
  have e:((((r::l).length:Nat):Int)==0)=false:=by simp;omega
  have e2:decide (r::l≠[])=true:=by simp
  rw[lV (by omega) (by omega) (by omega),e,e2];simp only[ak,af,Bool.true_and];cases hr:cT (r::l)with
  |false=>rfl
  |true=>
   simp only[Bool.not_true,ak];rw[aeH (by simp) (uF hr).1 hl hn];rfl
theorem oF{V O:Type}{step:V->J (V⊕O)}(f:Nat->V){s:V}(N:Nat)(o:O)(h0:s=f 0)
 (h1:∀i,i<N->step (f i)=some (.inl (f (i+1)))) (h2:step (f N)=some (.inr o)) (n:Nat) (hn:N<n):iter step n s=some o:=by rw[h0];exact mF f N o h1 h2 n hn
def tb(f:Nat->Nat->Bool):U Bool:=(List.range 144).map λi=>f (i/12) (i%12)
def upd(f:Nat->Nat->Bool)(a b:Nat)(v:Bool):Nat->Nat->Bool:=λx y=>if x=a/\y=b then v else f x y
inductive Tc(e:Nat->Nat->Bool):Nat->Nat->Prop
 |one {a b:Nat}:a<12->b<12->e a b=true->Tc e a b
 |trans {a b c:Nat}:Tc e a b->Tc e b c->Tc e a c
theorem Tc.lt{e:Nat->Nat->Bool}{a b:Nat}(h:Tc e a b):a<12/\b<12:=by
 induction h with
 |one h1 h2 _=>exact⟨h1,h2⟩
 |trans _ _ i1 i2=>exact⟨i1.1,i2.2⟩
def iC(v:aH):ax:=ax.mk v.bx v.ci v.bu v.cg
def okV(v:aH):Bool:=ek (iC v)&&(decide (0<=v.ev)&&(decide (v.ev<v.ec)&&(decide (v.ec<=4096)&&((decide (v.use=0) || decide (v.units=0))&&(decide (0<=v.use)&&(decide (v.use<6)&&(decide (0<=v.units)&&decide (v.units<=1048576))))))))
theorem uH(v:aH):gm v=some (okV v):=by
 unfold gm okV;rw[iX];have e1:decide (v.ev<0)=!decide (0<=v.ev):=by rw[<- decide_not,decide_eq_decide];omega
 have e2:decide (v.ev>=v.ec)=!decide (v.ev<v.ec):=by rw[<- decide_not,decide_eq_decide];omega
 have e3:decide (v.ec>4096)=!decide (v.ec<=4096):=by rw[<- decide_not,decide_eq_decide];omega
 have e4:(v.use !=0)=!decide (v.use=0):=by by_cases h:v.use=0<;>simp[h]
 have e5:(v.units !=0)=!decide (v.units=0):=by by_cases h:v.units=0<;>simp[h]
 rw[e1,e2,e3,e4,e5,show ax.mk v.bx v.ci v.bu v.cg=iC v from rfl];simp only[ge_iff_le];generalize ek (iC v)=a1;generalize decide (0<=v.ev)=a2;generalize decide (v.ev<v.ec)=a3;generalize decide (v.ec<=4096)=a4;generalize decide (v.use=0)=a5;generalize decide (v.units=0)=a6;generalize decide (0<=v.use)=a7;generalize decide (v.use<6)=a8;generalize decide (0<=v.units)=a9;generalize decide (v.units<=1048576)=j7;cases a1<;>cases a2<;>cases a3<;>cases a4<;>cases a5<;>cases a6<;>cases a7<;>cases a8<;>cases a9<;>rfl
theorem Xt{v:aH}(h:okV v=true):ek (iC v)=true:=by rw[okV,aL]at h;exact h.1
def kK(d:bg):U aH:=d.phases.flatMap (·.cy)
theorem dE{l:U ql}(h:∀p∈l,p.cy.length<=1000):(l.flatMap (·.cy)).length<=l.length*1000:=by
 induction l with
 |nil=>simp
 |cons p l ih=>
  have h1:=h p (by simp);have h2:=ih λq hq=>h q (by simp[hq]);simp only[List.flatMap_cons,dM,bJ];omega
def Xu(d:bg):Prop:=d.phases.length<=1000/\∀p∈d.phases,p.cy.length<=1000
theorem Xv{d:bg}(h:Xu d)(hn:1001<=n):nW n d 0 (d.phases.length:Int)=some (kK d):=by
 obtain⟨h1,h2⟩:=h;unfold nW;have key:=oF (step:=nH d 0 (d.phases.length:Int)) (λ i=>((i:Int),(d.phases.take i).flatMap (·.cy))) (s:=((0:Int),([]:U aH))) d.phases.length (kK d) rfl (λ i hi=>by
  have e2:decide ((i:Int)>=0)=true:=by simp
  have hl:=dE (l:=d.phases.take i) λp hp=>h2 p (List.mem_of_mem_take hp);rw[length_take]at hl;have hv:=h2 _ (getElem_mem hi);generalize hL:(d.phases.take i).flatMap (·.cy)=L at hl;have hap:bP L.length L.length d.phases[i].cy.length d.phases[i].cy.length 72=true:=dm (by omega) (by simp only[maxLen];omega);simp only[nH,bI hi,aj,bf hi,af,e2,hap,dR,aD,aK i];rw[gB hi,List.flatMap_append,hL];simp only[List.flatMap_cons,List.flatMap_nil,append_nil]) (by simp only[nH,bS,ak,aD,aj,List.take_length,kK]) n (by omega)
 have hz:az 0 ([]:U aH).length=true:=rfl;simp only[hz,aj,key,af,bZ,aD]
def WP(v:aH):Int:=(kS v).getD 0
theorem Xw(v:aH):kS v=some (WP v):=by
 unfold WP kS;rw[uH];cases v.extra<;>cases okV v<;>rfl
def Pi(v:aH):Int:=(oD v).getD 0
theorem aeI(v:aH):oD v=some (Pi v):=by
 unfold Pi oD;rw[uH,Xw];cases h:okV v with
 |false=>rfl
 |true=>
  have e:=C8 (Xt h);unfold iC at e;simp only[af,Bool.not_true,ak,e,Option.getD_some]
theorem ao0(a1:U cB)(a8:U ax){a9:U aH}(hl:a9.length<=1000)(hn:1001<=n):∃r,∀(a0:U fw)(a2:U dN)(a3:U bV)(a4:U fZ)(a5:U eU)(a6:U bW)(a7:Int),kF n a0 a1 a2 a3 a4 a5 a6 a7 a8 a9=some (r,a0,a1,a2,a3,a4,a5,a6,a7,a8,a9):=by
 have key:=oq (l:=a9) (step:=jI a9) (λ i (s:Int)=>(s,(i:Int))) (λ v s=>i64.wrap (s+Pi v)) (λ s=>s) (λ i hi s=>by simp only[jI,bI hi,aj,aU hi,aX hi,af,aeI,aK i]) (λ s=>by simp only[jI,bS,ak]) n (by omega) 0;rw[show ((0:Nat):Int)=0 from rfl]at key;unfold kF qp;simp only[key,af,aD,aj];exact⟨_,λ_ _ _ _ _ _ _=>rfl⟩
theorem ao1(a1:U cB)(a8:U ax){a9:U aH}(hl:a9.length<=1000)(hn:1001<=n):∃r,∀(a0:U fw)(a2:U dN)(a3:U bV)(a4:U fZ)(a5:U eU)(a6:U bW)(a7:Int),kG n a0 a1 a2 a3 a4 a5 a6 a7 a8 a9=some (r,a0,a1,a2,a3,a4,a5,a6,a7,a8,a9):=by
 have key:=oq (l:=a9) (step:=jL a9) (λ i (s:Int)=>(s,(i:Int))) (λ v s=>i64.wrap (s+v.units)) (λ s=>s) (λ i hi s=>by simp only[jL,bI hi,aj,aU hi,aX hi,af,oI,aK i]) (λ s=>by simp only[jL,bS,ak]) n (by omega) 0;rw[show ((0:Nat):Int)=0 from rfl]at key;unfold kG qw;simp only[key,af,aD,aj];exact⟨_,λ_ _ _ _ _ _ _=>rfl⟩
theorem al5(a1:U cB)(a8:U ax){a9:U aH}(hl:a9.length<=1000)(hn:1001<=n):∃r,∀(a0:U fw)(a2:U dN)(a3:U bV)(a4:U fZ)(a5:U eU)(a6:U bW)(a7:Int),jJ n a0 a1 a2 a3 a4 a5 a6 a7 a8 a9=some (r,a0,a1,a2,a3,a4,a5,a6,a7,a8,a9):=by
 have key:=oq (l:=a9) (step:=gV a9) (λ i (s:Int)=>(s,(i:Int))) (λ v s=>max s (WP v)) (λ s=>s) (λ i hi s=>by simp only[gV,bI hi,aj,aU hi,aX hi,af,Xw,aK i]) (λ s=>by simp only[gV,bS,ak]) n (by omega) 0;rw[show ((0:Nat):Int)=0 from rfl]at key;unfold jJ l7;simp only[key,af,aD,aj];exact⟨_,λ_ _ _ _ _ _ _=>rfl⟩
theorem al6(a1:U cB)(a8:U ax){a9:U aH}(hl:a9.length<=1000)(hn:1001<=n):∃r,∀(a0:U fw)(a2:U dN)(a3:U bV)(a4:U fZ)(a5:U eU)(a6:U bW)(a7:Int),jK n a0 a1 a2 a3 a4 a5 a6 a7 a8 a9=some (r,a0,a1,a2,a3,a4,a5,a6,a7,a8,a9):=by
 have key:=oq (l:=a9) (step:=gW a9) (λ i (s:Int)=>(s,(i:Int))) (λ v s=>max s v.ec) (λ s=>s) (λ i hi s=>by simp only[gW,bI hi,aj,aU hi,aX hi,af,nJ,aK i]) (λ s=>by simp only[gW,bS,ak]) n (by omega) 0;rw[show ((0:Nat):Int)=0 from rfl]at key;unfold jK l8;simp only[key,af,aD,aj];exact⟨_,λ_ _ _ _ _ _ _=>rfl⟩
theorem ajW(e:bR)(a:JF){u:Int}(h0:0<=u)(h6:u<6):∃b,ku e a u=some b:=by
 obtain⟨k,rfl⟩:∃k:Nat,u=(k:Int):=⟨u.toNat,by omega⟩;have hk:k<6:=by omega
 unfold ku;rw[aU hk,bf (l:=[a.a0,a.a1,a.a2,a.a3,a.a4,a.a5]) hk];exact⟨_,rfl⟩
theorem EU{l:U bR}{φ:(bR×Unit)->J Bool}(p:bR->Bool)(h:∀x∈l,φ (x,())=some (p x))(hl:l.length<=9223372036854775807)(hn:l.length<n):kz n l φ=some (xD p l):=Fv p h hl hn
theorem ao2(p:bq){u:Int}(h0:0<=u)(h6:u<6)(ht:p.tables.length<n)(ht2:p.tables.length<=9223372036854775807)(hr:∀t∈p.tables,t.rows.length<n/\t.rows.length<=9223372036854775807):∃r,Aj n p u=some r:=by
 have key:∃o,iter (kC n p u) n (0:Int)=some o/\True:=by
  have step:∀i (hi:i<p.tables.length),kC n p u (i:Int)=some (.inl ((i+1:Nat):Int))\/∃z,kC n p u (i:Int)=some (.inr (.inr z)):=by
   intro i hi;obtain⟨r1,r2⟩:=hr _ (getElem_mem hi);simp only[kC,bI hi,aj,bf hi,af,aK i];cases ByteArray.toList p.tables[i].name==ByteArray.toList ⟨#[116,114,97,102,102,105,99]⟩with
   |false=>exact Or.inl rfl
   |true=>
    right;simp only[Bool.not_true,ak];generalize JF.mk _ _ _ _ _ _=A;have hx:=EU (n:=n) (l:=p.tables[i].rows) (φ:=λy1=>ku y1.1 A u) (λ e=>(ku e A u).getD false) (λ e _=>by have⟨b,hb⟩:=ajW e A h0 h6;simp[hb]) r2 r1;rw[hx];simp only[af,xE];cases hany:p.tables[i].rows.any λe=>(ku e A u).getD false with
    |false=>exact⟨_,rfl⟩
    |true=>
     have⟨j,hj,h1,_⟩:=ad1 hany;rw[h1];simp only[aj,bf hj,af];exact⟨_,rfl⟩
  have main:∀k i m,i+k=p.tables.length->k<m->∃o,iter (kC n p u) m (i:Int)=some o/\True:=by
   intro k
   induction k with
   |zero=>
    intro i m hi hm;obtain⟨q,rfl⟩:∃q,m=q+1:=⟨m -1,by omega⟩;have:i=p.tables.length:=(by omega);subst this;exact⟨.inl (),fG (by simp only[kC,bS,ak]),trivial⟩
   |succ k ih=>
    intro i m hi hm;obtain⟨q,rfl⟩:∃q,m=q+1:=⟨m -1,by omega⟩;rcases step i (by omega)with h |⟨z,h⟩
    .rw[iO h];exact ih (i+1) q (by omega) (by omega)
    .exact⟨_,fG h,trivial⟩
  exact main p.tables.length 0 n (by omega) ht
 obtain⟨o,h1,_⟩:=key;unfold Aj;rw[h1];cases o with
 |inl w=>exact⟨_,rfl⟩
 |inr r=>exact⟨_,rfl⟩
theorem agY(p:bq){v:aH}(hv:okV v=true)(ht:p.tables.length<n)(ht2:p.tables.length<=9223372036854775807)(hr:∀t∈p.tables,t.rows.length<n/\t.rows.length<=9223372036854775807):∃r,kT n p v=some r:=by
 simp only[okV,aL,aV]at hv;have⟨r,h1⟩:=ao2 (n:=n) p (u:=v.use) hv.2.2.2.2.2.1 hv.2.2.2.2.2.2.1 ht ht2 hr;unfold kT;rw[h1,aeI];simp only[af];have e100:((100:Int) !=0)=true:=rfl;by_cases h:r>0
 .have e:(r !=0)=true:=by simp only[bne_iff_ne,ne_eq];omega
  have e2:decide (r>0)=true:=by simpa using h
  rw[e,e2];simp only[aj,af,e100];cases decide (Pi v>i64.wrap (Int.tdiv 109951162777600 r))<;>exact⟨_,rfl⟩
 .have e2:decide (r>0)=false:=by simpa using h
  rw[e2];exact⟨_,rfl⟩
theorem ao3(a1:U cB)(a8:U ax){a9:U aH}(hl:a9.length<=1000)(hn:1001<=n)(hv:∀v∈a9,okV v=true)(ht:a1.length<n)(ht2:a1.length<=9223372036854775807)(hr:∀t∈a1,t.rows.length<n/\t.rows.length<=9223372036854775807):∃r,∀(a0:U fw)(a2:U dN)(a3:U bV)(a4:U fZ)(a5:U eU)(a6:U bW)(a7:Int),jq n a0 a1 a2 a3 a4 a5 a6 a7 a8 a9=some (r,a0,a1,a2,a3,a4,a5,a6,a7,a8,a9):=by
 have key:=λ(a0:List fw)(a2:List dN)(a3:List bV)(a4:List fZ)(a5:List eU)(a6:List bW)(a7:Int)=>fE (l:=a9) (step:=jN n a9) (λ i (s:Int)=>(s,(i:Int),a0,a1,a2,a3,a4,a5,a6,a7,a8,a9)) (λ v s=>i64.wrap (s+(kT n (bq.mk [] a1 [] [] [] [] [] 0) v).getD 0)) (λ s=>(s,a0,a1,a2,a3,a4,a5,a6,a7,a8,a9)) (λ _ _=>True) (λ i hi s _=>⟨by
  obtain⟨r,h1⟩:=agY (n:=n) (bq.mk [] a1 [] [] [] [] [] 0) (hv _ (getElem_mem hi)) ht ht2 hr;have h2:kT n (bq.mk a0 a1 a2 a3 a4 a5 a6 a7) a9[i]=some r:=h1;simp only[jN,bI hi,aj,aU hi,aX hi,af,kD,h1,h2,aD,aK i,Option.getD_some],trivial⟩) (λ s _=>by simp only[jN,bS,ak,aD,aj]) n (by omega) 0 trivial
 have key:=λa0 a2 a3 a4 a5 a6 a7=>(show ((0:Nat):Int)=0 from rfl) ▸ key a0 a2 a3 a4 a5 a6 a7;unfold jq qx;simp only[key,af,aD,aj];exact⟨_,λ_ _ _ _ _ _ _=>rfl⟩
theorem al7{α β:Type}(l:U α)(f:α->β)(z:β){i:Nat}(hi:i<l.length):((l.take i).map f++List.replicate (l.length -i) z).set i (f l[i])=(l.take (i+1)).map f++List.replicate (l.length -(i+1)) z:=by
 have h1:((l.take i).map f).length=i:=by simp;omega
 rw[List.set_append_right _ _ (by omega),h1,Nat.sub_self,show l.length -i=(l.length -(i+1))+1 by omega,List.replicate_succ,List.set_cons_zero,gB hi,map_append,aM];rfl
theorem al8{α β:Type}(l:U α)(f:α->β)(z:β){i:Nat}(hi:i<=l.length):((l.take i).map f++List.replicate (l.length -i) z).length=l.length:=by simp;omega
theorem al9{α β:Type}(l:U α)(f:α->β)(z:β){i:Nat}(hi:i<l.length):((l.take (i+1)).map f++List.replicate (l.length -(i+1)) z)[i]? =some (f l[i]):=by rw[List.getElem?_append_left (by simp;omega)];simp[hi]
theorem ama{l:U aH}(hl:l.length<=1000)(hn:1001<=n):iter (gD l) n ((0:Int),List.replicate l.length (ax.mk 0 0 0 0),([]:U Int))=some (l.map iC,l.flatMap λv=>[v.bx,v.bu]):=by
 refine oF (step:=gD l) (λ i=>((i:Int),(l.take i).map iC++List.replicate (l.length -i) (ax.mk 0 0 0 0),(l.take i).flatMap λv=>[v.bx,v.bu])) l.length _ ?_ (λ i hi=>?_) ?_ n (by omega)
 .simp
 .have h1:=al8 l iC (ax.mk 0 0 0 0) (Nat.le_of_lt hi);have h2:=al7 l iC (ax.mk 0 0 0 0) hi;have h3:=al9 l iC (ax.mk 0 0 0 0) hi;have h4:((l.take i).flatMap λv=>[v.bx,v.bu]).length=2*i:=by
   have:∀m:U aH,(m.flatMap λv=>[v.bx,v.bu]).length=2*m.length:=by
    intro m;induction m with
    |nil=>rfl
    |cons a m ih=>simp only[List.flatMap_cons,dM,ih,bJ,length_nil];omega
   rw[this,length_take];omega
  generalize (l.take i).map iC++List.replicate (l.length -i) (ax.mk 0 0 0 0)=B at h1 h2;have e0:(((0:Nat):Int)+(i:Int)).toNat=i:=by omega
  have et:((l.length:Int):Int).toNat=l.length:=by omega
  have hb:ax.mk l[i].bx l[i].ci l[i].bu l[i].cg=iC l[i]:=rfl;have hiB:i<B.length:=by omega
  rw[<- h2]at h3;have g3:bp (B.set i (iC l[i])) (((0:Nat):Int)+(i:Int))=some (iC l[i]):=by rw[Ec];exact h3
  have hs:sub ([(iC l[i]).x0,(iC l[i]).x1]:U Int) 0 2=[(iC l[i]).x0,(iC l[i]).x1]:=rfl;have hap:bP (2*i) (2*i) 2 2 8=true:=dm (by omega) (by simp only[maxLen];omega);have hl2:([(iC l[i]).x0,(iC l[i]).x1]:U Int).length=2:=rfl;simp only[gD,bI hi,aj,aU hi,aX hi,af,et,aX hiB,e0,hb,g3,hs,hl2,h4,hap,dR,aD,aK i];rw[<- h2,gB hi,List.flatMap_append];rfl
 .simp only[gD,bS,ak,aD,aj,List.take_length];simp
theorem amb{l:U aH}{R:U ax}{X:U Int}(w2:U Int)(hR:R.length=l.length)(hX:X.length=w2.length)(hl:l.length<=1000)(hn:1001<=n){k:Nat}(hk:k+1<w2.length)(hw:w2.length<=10000)(s:Int):∃o,iter (iZ l w2 R X (k:Int)) n (s,(0:Int),(0:Int))=some o/\True:=by
 refine Oj (λ i (v:Int×Int×Int)=>v.2.2=(i:Int)) l.length (λ _=>True) (λ i v hi hv=>?_) (λ v hv=>?_) n (by omega) _ rfl
 .obtain⟨a,b,c⟩:=v;simp only at hv;subst hv;have et:(((l.length:Int):Int).toNat)=l.length:=by omega
  have ew:i64.wrap ((k:Int)+1)=((k+1:Nat):Int):=bL (by omega);simp only[iZ,et,bI hi,aj,aU hi,aX (show i<R.length by omega),af,aU (show k<w2.length by omega),aX (show k<X.length by omega),ew,aU hk,aX (show k+1<X.length by omega),aK i];cases decide ((R[i]'(by omega)).x0<=X[k]'(by omega))with
  |false=>exact⟨_,rfl,rfl⟩
  |true=>
   simp only[aj,af];cases decide (X[k]'(by omega)<(R[i]'(by omega)).x1)with
   |false=>exact⟨_,rfl,rfl⟩
   |true=>
    simp only[aj,af];cases decide ((R[i]'(by omega)).y1>b)<;>exact⟨_,rfl,rfl⟩
 .obtain⟨a,b,c⟩:=v;simp only at hv;subst hv;have et:(((l.length:Int):Int).toNat)=l.length:=by omega
  simp only[iZ,et,bS,ak];exact⟨_,rfl,trivial⟩
theorem amc(a1:U cB)(a8:U ax){a9:U aH}(hl:a9.length<=1000)(hn:10000<=n):∃r,∀(a0:U fw)(a2:U dN)(a3:U bV)(a4:U fZ)(a5:U eU)(a6:U bW)(a7:Int),iQ n a0 a1 a2 a3 a4 a5 a6 a7 a8 a9=some (r,a0,a1,a2,a3,a4,a5,a6,a7,a8,a9):=by
 have et:(((a9.length:Int):Int).toNat)=a9.length:=by omega
 have mk:zH (a9.length:Int) 32=true:=aiB (by omega) (by simp only[maxLen];omega);have d1:decide ((a9.length:Int)<=(a9.length:Int))=true:=by simp
 have d2:decide (0<=(a9.length:Int))=true:=by simp
 have hz:az 0 ([]:U Int).length=true:=rfl;have hx:(a9.flatMap λv=>[v.bx,v.bu]).length<=2000:=by
  have:∀m:U aH,(m.flatMap λv=>[v.bx,v.bu]).length=2*m.length:=by
   intro m;induction m with
   |nil=>rfl
   |cons a m ih=>simp only[List.flatMap_cons,dM,ih,bJ,length_nil];omega
  rw[this];omega
 unfold iQ;rw[et,ama hl (by omega)];generalize (a9.flatMap λv=>[v.bx,v.bu])=W at hx;have srt:=J5 (n:=n) (l:=a9.map iC) (φ:=λy1=>iP y1.1 y1.2.1) (λ x y=>if x.y0<y.y0 then -1 else if y.y0<x.y0 then 1 else 0) (λ x y=>by
  show iP x y=_;unfold iP;rw[kE];rfl) (λ x y=>by
  unfold wA;rw[decide_eq_decide];constructor
  .intro h;split at h
   .assumption
   .split at h<;>omega
  .intro h;rw[aY h];decide) (by simp;omega) (by simp;omega)
 have hm:az a9.length (a9.map iC).length=true:=by simp
 have hR:(lu wA (a9.map iC)).length=a9.length:=by rw[xG aiD];simp
 have hX:(kr oe W).length=W.length:=(Eg oe W).length_eq;simp only[d1,d2,mk,Bool.and_self,aj,hz,af,hm,srt,aD,pq (show W.length<1099511627776 by omega) (show W.length<n by omega)];generalize lu wA (a9.map iC)=R at hR;generalize kr oe W=X at hX;have key:∃o,iter (ja n a9 W R X) n ((0:Int),(0:Int))=some o/\True:=by
  have eN:max (0:Int) (i64.wrap ((W.length:Int) -1))=((W.length -1:Nat):Int):=by
   cases h:W.length with
   |zero=>rfl
   |succ k=>rw[mQ (by omega) (by omega)];omega
  refine Oj (λ i (v:Int×Int)=>v.2=(i:Int)) (W.length -1) (λ _=>True) (λ i v hi hv=>?_) (λ v hv=>?_) n (by omega) _ rfl
  .obtain⟨a,b⟩:=v;simp only at hv;subst hv;obtain⟨o,ho,_⟩:=amb (n:=n) (l:=a9) (R:=R) (X:=X) W hR hX hl (by omega) (k:=i) (by omega) (by omega) a;simp only[ja,eN,bI hi,aj,ho,af,aK i];exact⟨_,rfl,rfl⟩
  .obtain⟨a,b⟩:=v;simp only at hv;subst hv;simp only[ja,eN,bS,ak];exact⟨_,rfl,trivial⟩
 obtain⟨o,ho,_⟩:=key;rw[ho];exact⟨o,λ_ _ _ _ _ _ _=>rfl⟩
def Kx(b:ax)(k:Int):ax:=⟨b.x0 -k,b.y0 -k,b.x1+k,b.y1+k⟩
def EW(area:U ax)(b:ax)(k:Int):Bool:=ek (Kx b k)&&decide (area.foldl (λ s y=>Xl (Kx b k) s y) 0=K0 (Kx b k))
theorem ajX(b:ax)(k:Int)(a2:U fw)(a3:U cB)(a4:U dN)(a5:U bV)(a6:U fZ)(a7:U eU)(a8:U bW)(a9:Int){j7:U ax}(td:U aH)(hb:ek b=true)(h0:0<=k)(h1:k<=1048576)(hl:j7.length<=1000)(hn:1001<=n):
 jM n b k a2 a3 a4 a5 a6 a7 a8 a9 j7 td=some (EW j7 b k,a2,a3,a4,a5,a6,a7,a8,a9,j7,td):=by
 rw[anM]at hb;unfold jM Be EW;rw[dQ (x:=b.x0 -k),dQ (x:=b.y0 -k),dQ (x:=b.x1+k),dQ (x:=b.y1+k),show ax.mk (b.x0 -k) (b.y0 -k) (b.x1+k) (b.y1+k)=Kx b k from rfl,iX];generalize Kx b k=g;simp only[af];cases hg:ek g with
 |false=>simp only[Bool.not_false,aj,aD,Bool.false_and]
 |true=>
  have key:=oq (l:=j7) (step:=iJ j7 (g,true)) (λ i (s:Int)=>(s,(i:Int))) (λ y s=>Xl g s y) (λ s=>s) (λ i hi s=>by
   simp only[iJ,bI hi,aj,bf hi,af,y7,aK i,Xl];cases h1:ek g with
   |false=>rfl
   |true=>
    cases h2:ek j7[i]with
    |false=>rfl
    |true=>
     cases h3:ek (Fx g j7[i])with
     |false=>rfl
     |true=>simp only[Bool.and_self,aj,C8 h3,af]) (λ s=>by simp only[iJ,bS,ak]) n (by omega) 0
  rw[show ((0:Nat):Int)=0 from rfl]at key;simp only[Bool.not_true,ak,key,af,C8 hg,aD,aj,Bool.true_and];congr 2
def Qr(p:Int->Bool):Nat->Int->Int->Int
 | 0,lo,_=>lo
 |k+1,lo,hi=>bif decide (lo<hi)then(bif p ((lo+hi+1)/2)then Qr p k ((lo+hi+1)/2) hi else Qr p k lo ((lo+hi+1)/2 -1))else lo
theorem ab8(p:Int->Bool):∀k lo hi,lo<=hi->lo<=Qr p k lo hi/\Qr p k lo hi<=hi
 | 0,lo,hi,h=>by simp only[Qr];omega
 |k+1,lo,hi,h=>by
  simp only[Qr];by_cases h1:lo<hi
  .have e:decide (lo<hi)=true:=(by simpa using h1);rw[e,aj];cases p ((lo+hi+1)/2)with
   |true=>have:=ab8 p k ((lo+hi+1)/2) hi (by omega);simp only[aj];omega
   |false=>have:=ab8 p k lo ((lo+hi+1)/2 -1) (by omega);simp only[ak];omega
  .have e:decide (lo<hi)=false:=(by simpa using h1);rw[e,ak];omega
theorem agZ{v:aH}(hv:ek (iC v)=true)(a2:U fw)(a3:U cB)(a4:U dN)(a5:U bV)(a6:U fZ)(a7:U eU)(a8:U bW)(a9:Int){j7:U ax}(td:U aH)(hl:j7.length<=1000)(hn:1001<=n):
 ∀(k:Nat) lo hi m,0<=lo->lo<=hi->hi<=1048576->hi -lo<2 ^ k->k<m->iter (eX n v) m (lo,hi,a2,a3,a4,a5,a6,a7,a8,a9,j7,td)=some (Qr (EW j7 (iC v)) k lo hi,a2,a3,a4,a5,a6,a7,a8,a9,j7,td):=by
 intro k
 induction k with
 |zero=>
  intro lo hi m h0 h1 h2 h3 hm;obtain⟨q,rfl⟩:∃q,m=q+1:=⟨m -1,by omega⟩;have:lo=hi:=by simp at h3;omega
  subst this;refine fG ?_;have e:decide (lo<lo)=false:=by simp
  simp only[eX,e,ak,aD,aj,Qr]
 |succ k ih=>
  intro lo hi m h0 h1 h2 h3 hm;obtain⟨q,rfl⟩:∃q,m=q+1:=⟨m -1,by omega⟩;have hp:(2:Int) ^ (k+1)=2*2 ^ k:=by rw[Int.pow_succ];omega
  rw[hp]at h3;by_cases hlt:lo<hi
  .have e:decide (lo<hi)=true:=(by simpa using hlt);have e2:((2:Nat) !=0)=true:=rfl;have em:i64.wrap (Int.tdiv (i64.wrap (i64.wrap (lo+hi)+1)) 2)=(lo+hi+1)/2:=(by rw[dQ (x:=lo+hi),dQ (x:=lo+hi+1),Int.tdiv_eq_ediv_of_nonneg (by omega),dQ (by omega) (by omega)]);have hi2:=ajX (n:=n) (iC v) ((lo+hi+1)/2) a2 a3 a4 a5 a6 a7 a8 a9 (j7:=j7) td hv (by omega) (by omega) hl hn;unfold iC at hi2;cases hc:EW j7 (iC v) ((lo+hi+1)/2)with
   |true=>
    rw[iO (v':=((lo+hi+1)/2,hi,a2,a3,a4,a5,a6,a7,a8,a9,j7,td)) (by
     unfold iC at hc;simp only[eX,e,aj,e2,aD,em,hi2,af,hc]),ih _ _ _ (by omega) (by omega) (by omega) (by omega) (by omega)]
    simp only[Qr,e,aj,hc]
   |false=>
    rw[iO (v':=(lo,(lo+hi+1)/2 -1,a2,a3,a4,a5,a6,a7,a8,a9,j7,td)) (by
     unfold iC at hc;simp only[eX,e,aj,e2,aD,em,hi2,af,hc,ak,dQ (x:=(lo+hi+1)/2 -1)]),ih _ _ _ (by omega) (by omega) (by omega) (by omega) (by omega)]
    simp only[Qr,e,aj,hc,ak]
  .have e:decide (lo<hi)=false:=(by simpa using hlt);refine fG ?_;simp only[eX,e,ak,aD,aj,Qr]
def qU(area:U ax)(l:U aH):Int:=l.foldl (λ b v=>Qr (EW area (iC v)) 21 0 b) 1048576
theorem ag0(a0:U fw)(a1:U cB)(a2:U dN)(a3:U bV)(a4:U fZ)(a5:U eU)(a6:U bW)(a7:Int){a8:U ax}{a9:U aH}(hv:∀v∈a9,okV v=true)(hl:a9.length<=1000)(h8:a8.length<=1000)(hn:1001<=n):jo n a0 a1 a2 a3 a4 a5 a6 a7 a8 a9=some (qU a8 a9,a0,a1,a2,a3,a4,a5,a6,a7,a8,a9):=by
 have key:=fE (l:=a9) (step:=iw n a9) (λ i (s:Int)=>(s,(i:Int),a0,a1,a2,a3,a4,a5,a6,a7,a8,a9)) (λ v s=>Qr (EW a8 (iC v)) 21 0 s) (λ s=>(s,a0,a1,a2,a3,a4,a5,a6,a7,a8,a9)) (λ _ s=>0<=s/\s<=1048576) (λ i hi s hs=>by
  have h1:=agZ (n:=n) (Xt (hv _ (getElem_mem hi))) a0 a1 a2 a3 a4 a5 a6 a7 (j7:=a8) a9 h8 hn 21 0 s n (by omega) hs.1 hs.2 (by have:(2:Int) ^ 21=2097152:=rfl;omega) (by omega);have h2:=ab8 (EW a8 (iC a9[i])) 21 0 s hs.1;refine⟨?_,by omega,by omega⟩;simp only[iw,bI hi,aj,aU hi,aX hi,af,aD,h1,aK i]) (λ s _=>by simp only[iw,bS,ak,aD,aj]) n (by omega) 1048576 (by omega)
 rw[show ((0:Nat):Int)=0 from rfl]at key;unfold jo;simp only[aD,aj,key,af];rfl
def fC(d:bg):U aH:=((kK d).take 40).filter okV
theorem ab9(d:bg):∀v∈fC d,okV v=true:=λv hv=>(mem_filter.1 hv).2
theorem Y7(d:bg):(fC d).length<=40:=Nat.le_trans (length_filter_le _ _) (by rw[length_take];omega)
def mZ(lot:bU):U ax:=bif cT lot.area then lot.area else []
theorem apE{l:U aH}(a0:U fw)(a1:U cB)(a2:U dN)(a3:U bV)(a4:U fZ)(a5:U eU)(a6:U bW)(a7:Int)(a8:U ax)(hl:l.length<=9223372036854775807)(hn:l.length<n):
 iter (qJ l) n ((0:Int),a0,a1,a2,a3,a4,a5,a6,a7,a8,([]:U aH))=some (a0,a1,a2,a3,a4,a5,a6,a7,a8,(l.take 40).filter okV):=by
 refine oF (step:=qJ l) (λ i=>((i:Int),a0,a1,a2,a3,a4,a5,a6,a7,a8,((l.take i).take 40).filter okV)) l.length _ (by simp) (λ i hi=>?_) ?_ n hn
 .have hlen:(((l.take i).take 40).filter okV).length<=40:=Nat.le_trans (length_filter_le _ _) (by rw[length_take];omega);have e40:decide ((i:Int)<40)=decide (i<40):=by rw[decide_eq_decide];omega
  have hs:sub ([l[i]]:U aH) 0 1=[l[i]]:=rfl;have hN:((l.take (i+1)).take 40).filter okV=((l.take i).take 40).filter okV++(bif decide (i<40)&&okV l[i]then [l[i]]else []):=by
   by_cases h:i<40
   .have h1:(l.take i).take 40=l.take i:=take_of_length_le (by rw[length_take];omega);have h2:(l.take (i+1)).take 40=l.take (i+1):=take_of_length_le (by rw[length_take];omega);have h3:decide (i<40)=true:=(by simpa using h);rw[h1,h2,gB hi,List.filter_append,h3];cases h4:okV l[i]<;>simp[h4]
   .have h3:decide (i<40)=false:=(by simpa using h);rw[List.take_take,List.take_take,h3,show min 40 (i+1)=40 by omega,show min 40 i=40 by omega];simp
  rw[hN];generalize ((l.take i).take 40).filter okV=L at hlen;have hap:bP L.length L.length 1 1 72=true:=dm (by omega) (by simp only[maxLen];omega);simp only[qJ,bI hi,aj,aU hi,aX hi,af,e40,uH,aK i];cases decide (i<40)with
  |false=>simp only[ak,af,aD,aj,Bool.false_and,append_nil]
  |true=>
   simp only[aj,af,Bool.true_and];cases okV l[i]with
   |false=>simp only[ak,aD,aj,af,append_nil]
   |true=>simp only[aj,hs,length_singleton,hap,dR,aD,af]
 .simp only[qJ,bS,ak,aD,aj,List.take_length]
def amd(n:Nat)(p:bq):Prop:=p.tables.length<n/\p.tables.length<=9223372036854775807/\∀t∈p.tables,t.rows.length<n/\t.rows.length<=9223372036854775807
def yB:ByteArray:=⟨#[115,101,116,98,97,99,107]⟩
theorem ame{p:bq}{lot:bU}{d:bg}(hp:amd n p)(hl:lot.area.length<=900)(hd:Xu d)(hn:2000000<=n):∃e1 e2 e3 e4 e5 e6 e7 e8:Int,∀(D:U fw)(Z:U dN)(R:U bV)(C:U fZ)(V:U eU)(S:U bW)(H:Int),iW n (bq.mk D p.tables Z R C V S H) lot d=some [⟨⟨#[97,114,101,97]⟩,e1⟩,⟨⟨#[99,111,118,101,114]⟩,e2⟩,⟨⟨#[102,108,111,111,114]⟩,e3⟩,⟨⟨#[102,108,111,111,114,115]⟩,e4⟩,⟨⟨#[104,101,105,103,104,116]⟩,e5⟩,⟨⟨#[104,111,109,101,115]⟩,e6⟩,⟨⟨#[114,117,110,111,102,102]⟩,e7⟩,⟨yB,qU (mZ lot) (fC d)⟩,⟨⟨#[116,114,97,102,102,105,99]⟩,e8⟩]:=by
 have hs1:mZ lot=(bif cT lot.area then lot.area else []):=rfl;have hsl:(mZ lot).length<=900:=by unfold mZ;cases cT lot.area<;>simp[hl]
 have hvl:=Y7 d;have hvo:=ab9 d;have hfl:=dE hd.2;have hd1:=hd.1;obtain⟨hp1,hp2,hp3⟩:=hp;have hz:az 0 ([]:U aH).length=true:=rfl;have HA:∀(D:U fw)(Z:U dN)(R:U bV)(C:U fZ)(V:U eU)(S:U bW)(H:Int),((bif cT lot.area then some (D,p.tables,Z,R,C,V,S,H,lot.area)else some (D,p.tables,Z,R,C,V,S,H,([]:(List ax)))):J ((List fw)×(List cB)×(List dN)×(List bV)×(List fZ)×(List eU)×(List bW)×Int×(List ax)))=some (D,p.tables,Z,R,C,V,S,H,mZ lot):=by intro D Z R C V S H;rw[hs1];cases cT lot.area<;>rfl
 obtain⟨e2,h2⟩:=amc (n:=n) p.tables (mZ lot) (a9:=fC d) (by omega) (by omega);obtain⟨e3,h3⟩:=ao0 (n:=n) p.tables (mZ lot) (a9:=fC d) (by omega) (by omega);obtain⟨e4,h4⟩:=al5 (n:=n) p.tables (mZ lot) (a9:=fC d) (by omega) (by omega);obtain⟨e5,h5⟩:=al6 (n:=n) p.tables (mZ lot) (a9:=fC d) (by omega) (by omega);obtain⟨e6,h6⟩:=ao1 (n:=n) p.tables (mZ lot) (a9:=fC d) (by omega) (by omega);have h8:=λ(D:List fw)(Z:List dN)(R:List bV)(C:List fZ)(V:List eU)(S:List bW)(H:Int)=>ag0 (n:=n) D p.tables Z R C V S H (a8:=mZ lot) (a9:=fC d) hvo (by omega) (by omega) (by omega);obtain⟨e9,h9⟩:=ao3 (n:=n) p.tables (mZ lot) (a9:=fC d) (by omega) (by omega) hvo hp1 hp2 hp3;refine⟨bif cT (mZ lot)then Li (mZ lot)else 0,e2,e3,e4,e5,e6,e2,e9,λD Z R C V S H=>?_⟩;unfold iW;rw[lV (by omega) (by omega) (by omega),Xv hd (by omega)];simp only[af,HA,hz,aj];rw[apE (n:=n) D p.tables Z R C V S H (mZ lot) (by show(kK d).length<=_;unfold kK;omega) (by show(kK d).length<_;unfold kK;omega)];have hr:((kK d).take 40).filter okV=fC d:=rfl;have s1:∀e:bR,sub ([e]:U bR) 0 1=[e]:=λ_=>rfl;have ap:∀k,k<=20->bP k k 1 1 24=true:=λk hk=>dm (by omega) (by simp only[maxLen];omega);have lot:mH n D p.tables Z R C V S H (mZ lot) (fC d)=some (bif cT (mZ lot)then Li (mZ lot)else 0,D,p.tables,Z,R,C,V,S,H,mZ lot,fC d):=by
  unfold mH;rw[Lj (by omega) (by omega)];simp only[af,aD,aj]
 simp only[hr,af,aD,aj,lot,s1,length_singleton,ap 0 (by omega),dR,h2,ap 1 (by omega),dM,ap 2 (by omega),h3,ap 3 (by omega),h4,ap 4 (by omega),h5,ap 5 (by omega),h6,ap 6 (by omega),h8,ap 7 (by omega),h9,ap 8 (by omega),Nat.reduceAdd,Nat.zero_add,bZ];rfl
theorem aoq{p:bq}{lot:bU}{d:bg}(hp:amd n p)(hl:lot.area.length<=900)(hd:Xu d)(hn:2000000<=n):∃e1 e2 e3 e4 e5 e6 e7 e8:Int,∀R:U bV,iW n (bq.mk p.defs p.tables p.zones R p.caps p.views p.nr p.hours) lot d=some [⟨⟨#[97,114,101,97]⟩,e1⟩,⟨⟨#[99,111,118,101,114]⟩,e2⟩,⟨⟨#[102,108,111,111,114]⟩,e3⟩,⟨⟨#[102,108,111,111,114,115]⟩,e4⟩,⟨⟨#[104,101,105,103,104,116]⟩,e5⟩,⟨⟨#[104,111,109,101,115]⟩,e6⟩,⟨⟨#[114,117,110,111,102,102]⟩,e7⟩,⟨yB,qU (mZ lot) (fC d)⟩,⟨⟨#[116,114,97,102,102,105,99]⟩,e8⟩]:=by
 have⟨e1,e2,e3,e4,e5,e6,e7,e8,h⟩:=ame (n:=n) hp hl hd hn;exact⟨e1,e2,e3,e4,e5,e6,e7,e8,λR=>h _ _ R _ _ _ _⟩
theorem aiG(ds:U (ByteArray×ET))(s:U UInt8):∀(k:Nat)(i:Int),Nl ds s k=some i->0<=i/\i<(k:Int)
 | 0,i,h=>by simp[Nl]at h
 |k+1,i,h=>by
  simp only[Nl]at h;split at h
  .cases h;omega
  .have:=aiG ds s k i h;omega
theorem anN{ds:U (ByteArray×ET)}(h:rj ds<=4000000):Y1 (oH ds) ds.length:=by
 have hl:=UA ds;refine⟨by simp[oH],by omega,λl hl=>?_⟩;simp only[oH,mem_map]at hl;obtain⟨d,hd,rfl⟩:=hl;have h1:=UB hd;have h2:=ET.oY d.2;have h3:=ad8 d.2.names;refine⟨Nat.le_trans (List.length_filterMap_le _ _) (by omega),λk hk=>?_⟩;simp only[iq,List.mem_filterMap]at hk;obtain⟨s,_,hk⟩:=hk;exact aiG ds s _ k hk
theorem aeK{M:U ByteArray}(hM:M.length<=1000)(hn:1001<=n)(w0:U (ByteArray×Bool)):∃w,iter (nX M) n ((0:Int),w0)=some w:=by
 obtain⟨o,h,_⟩:=dH (step:=nX M) (λ i (v:Int×List (ByteArray×Bool))=>∃w,v=((i:Int),w)/\i<=M.length) (λ _=>True) M.length (λ k v ⟨_,_,h⟩=>h) (by
  rintro i v ⟨w,rfl,hi⟩;by_cases hlt:i<M.length
  .simp only[nX,show decide ((i:Int)<(M.length:Int))=true from by simp;omega,aj,aU hlt,aX hlt,af,aK i];exact .inl ⟨_,rfl,_,rfl,hlt⟩
  .simp only[nX,show decide ((i:Int)<(M.length:Int))=false from by simp;omega,ak];exact .inr ⟨_,rfl,trivial⟩) n 0 ((0:Int),w0) ⟨_,rfl,Nat.zero_le _⟩ (by omega)
 exact⟨o,h⟩
theorem aeL{p:bq}(hp:p.defs.length<=4000000)(hn:4000001<=n)(w0:U (ByteArray×Bool)):iter (kV p) n ((0:Int),w0)=some (.inl ())\/iter (kV p) n ((0:Int),w0)=some (.inr ([],[],5)):=by
 obtain⟨o,h,h2⟩:=dH (step:=kV p) (λ i (v:Int×List (ByteArray×Bool))=>∃w,v=((i:Int),w)/\i<=p.defs.length) (λ o=>o= .inl ()\/o= .inr ([],[],5)) p.defs.length (λ k v ⟨_,_,h⟩=>h) (by
  rintro i v ⟨w,rfl,hi⟩;by_cases hlt:i<p.defs.length
  .simp only[kV,show decide ((i:Int)<(p.defs.length:Int))=true from by simp;omega,aj,bf hlt,af,aK i];cases (fP Gb.ll p.defs[i].name w).getD false with
   |true=>exact .inr ⟨_,rfl,.inr rfl⟩
   |false=>exact .inl ⟨_,rfl,_,rfl,hlt⟩
  .simp only[kV,show decide ((i:Int)<(p.defs.length:Int))=false from by simp;omega,ak];exact .inr ⟨_,rfl,.inl rfl⟩) n 0 ((0:Int),w0) ⟨_,rfl,Nat.zero_le _⟩ (by omega)
 rcases h2 with rfl |rfl
 .exact .inl h
 .exact .inr h
theorem aeM:∃M,wX=some M/\M.length=9:=⟨_,rfl,rfl⟩
def il(l:U fw):Prop:=rj (l.map toD)<=4000000
theorem il.len{l:U fw}(h:il l):l.length<=4000000:=by
 have:=UA (l.map toD);rw[length_map]at this;unfold il at h;omega
theorem il.body{l:U fw}(h:il l){d:fw}(hd:d∈l):(toE (cu.mk d.ir d.ly d.kw d.ii d.ep)).wt<=4000000:=by
 have h1:=UB (mem_map.2 ⟨d,hd,rfl⟩:toD d∈l.map toD);unfold il at h;simp only[toD,ET.wt]at h1;simp only[toE,ET.wt];omega
theorem SL{p:bq}(hp:il p.defs)(hn:5000003<=n):∃r,nM n p=some r/\r.1.length<=p.defs.length/\(∀ k∈r.1,0<=k/\k<(p.defs.length:Int))/\r.2.1.length<=p.defs.length+1:=by
 obtain⟨M,hM,hM9⟩:=aeM;obtain⟨w,hw⟩:=aeK (n:=n) (M:=M) (by omega) (by omega) [];have hg:Y1 (oH (p.defs.map toD)) p.defs.length:=by have:=anN hp;rwa [length_map]at this
 have HF:kU p.defs=some (p.defs,oH (p.defs.map toD)):=by
  unfold kU;rw[Nat.ble_eq_true_of_le hp];rfl
 simp only[nM,hM,af,hw];rcases aeL (n:=n) (p:=p) hp.len (by omega) w with h |h
 .have⟨c,hc,hc2,hc3⟩:=ael (n:=n) (a0:=p.defs) hg rfl hn;simp only[h,dW,HF,af,hc];cases h0:(c.length==0)with
  |true=>
   have e:c=[]:=List.eq_nil_of_length_eq_zero (by simpa using h0);obtain⟨l,hl,hll,hlr⟩:=alT (n:=n) (a0:=oU.mk p.defs (oH (p.defs.map toD))) hg rfl (hc2 e) (by omega);simp only[aj,af,ak,hl,bZ,aD];exact⟨_,rfl,by simp[hll],hlr,by simp⟩
  |false=>
   simp only[aj,af,ak,bZ,aD];exact⟨_,rfl,by simp,by simp,hc3⟩
 .simp only[h,iD];exact⟨_,rfl,by simp,by simp,by simp⟩
theorem y8(x:cu):cu.mk x.op x.n x.s x.key x.args=x:=by cases x;rfl
theorem Oo:∀l:U cu,Ij l=l.map toE
 |[]=>rfl
 |x::xs=>by simp only[Ij,aF,Oo xs]
theorem aiH:∀{l:U ET}{t:ET},t∈l->t.wt<=ET.tg l
 |x::l,t,h=>by
  simp only[ET.tg];rcases aN.1 h with rfl |h
  .omega
  .have:=aiH h;omega
theorem ZZ{e x:cu}(h:x∈e.args):(toE x).wt<(toE e).wt:=by
 have h1:(toE x).wt<=ET.tg (Ij e.args):=aiH (by rw[Oo];exact mem_map.2 ⟨x,h,rfl⟩);cases e;simp only[toE,ET.wt]at *;omega
theorem acd(e:cu):e.args.length<(toE e).wt:=by
 have h1:=ET.qT (Ij e.args);rw[Oo,length_map]at h1;cases e;simp only[toE,ET.wt,Oo]at *;omega
def VR:Nat->cu->Prop
 | 0,_=>False
 |k+1,e=>yU e.op=some ((e.args.length:Int),true)/\∀x∈e.args,VR k x
theorem ag2(op:Int):∃a b,yU op=some (a,b):=by
 simp only[yU];cases (op==0)<;>cases (op==1)<;>cases (op==2)<;>cases (op==3)<;>cases (op==9)<;>cases (op==15)<;>cases (op==16)<;>cases (decide (op>=0))<;>exact⟨_,_,rfl⟩
theorem aaL(hn:4000002<=n):∀(m:Nat)(e:cu)(a:Int),m<=9223372036854775000->0<=a->a<=12->13<=a+m->(toE e).wt<=4000000->∃r,sN n m e a=some r/\1<=r/\r<=13+m/\(r<=12->VR m e)
 | 0,_,_,_,_,_,h,_=>absurd h (by omega)
 |m+1,e,a,hm,h0,h1,h2,h3=>by
  have⟨x,b,hx⟩:=ag2 e.op;have hla:=acd e;show ∃r,Ak n (sN n m) e a=some r/\_;simp only[Ak,hx,af];have bad:∃r,some (13:Int)=some r/\1<=r/\r<=13+((m+1:Nat):Int)/\(r<=12->VR (m+1) e):=⟨13,rfl,by omega,by omega,λh=>absurd h (by omega)⟩;cases b with
  |false=>simpa only[Bool.not_false,aj,af]using bad
  |true=>
   simp only[Bool.not_true,ak];by_cases hxl:x=(e.args.length:Int)
   .subst hxl;simp only[show ((e.args.length:Int) !=(e.args.length:Int))=false from by simp,ak,af];by_cases ha:a>=12
    .simpa only[ha,decide_true,aj]using bad
    .simp only[ha,decide_false,ak]
     obtain⟨o,g1,g2,g3,g4⟩:=dH (step:=xP n (sN n m) e a) (λ i (v:Int×Int)=>v.2=(i:Int)/\i<=e.args.length/\0<=v.1/\v.1<=13+m/\(v.1<=11->∀y∈e.args.take i,VR m y))
      (λ o=>0<=o/\o<=13+m/\(o<=11->∀y∈e.args,VR m y)) e.args.length (λ k v h=>h.2.1) (by
      rintro i ⟨v2,v3⟩ ⟨hv,hi,i1,i2,i3⟩;simp only at hv i1 i2 i3;subst hv;by_cases hlt:i<e.args.length
      .left;have hwx:=ZZ (getElem_mem hlt);obtain⟨r,r1,r2,r3,r4⟩:=aaL hn m e.args[i] (a+1) (by omega) (by omega) (by omega) (by omega) (by omega);refine⟨(max v2 r,((i+1:Nat):Int)),?_,rfl,hlt,by show 0<=max v2 r;omega,by show max v2 r<=_;omega,λh y hy=>?_⟩
       .simp only[xP,show decide ((i:Int)<(e.args.length:Int))=true from by simp;omega,aj,bf hlt,af,y8,dQ (show -9223372036854775808<=a+1 by omega) (show a+1<=9223372036854775807 by omega),r1,aK i]
       .have h':max v2 r<=11:=h;rw[List.take_add_one,dL hlt]at hy;rw[aZ]at hy;rcases hy with hy |hy
        .exact i3 (by omega) y hy
        .simp at hy;subst hy;exact r4 (by omega)
      .right;refine⟨v2,?_,i1,i2,λh y hy=>i3 h y (by rw[take_of_length_le (by omega)];exact hy)⟩;simp only[xP,show decide ((i:Int)<(e.args.length:Int))=false from by simp;omega,ak]) n 0 ((0:Int),(0:Int)) ⟨rfl,Nat.zero_le _,by simp,by show(0:Int)<=_;omega,by simp⟩ (by omega)
     simp only[g1,af];rw[dQ (by omega) (by omega)];exact⟨o+1,rfl,by omega,by omega,λh=>⟨hx,g4 (by omega)⟩⟩
   .simpa only[show (x !=(e.args.length:Int))=true from by simpa using hxl,aj,af]using bad
theorem R4(hn:4000002<=n)(hn2:n<=9223372036854775000){e:cu}(h:(toE e).wt<=4000000):∃b,Ii n e=some b/\(b=true->VR n e):=by
 obtain⟨r,h1,h2,h3,h4⟩:=aaL hn n e 0 hn2 (by omega) (by omega) (by omega) h;refine⟨decide (r<=12),?_,λh=>h4 (by simpa using h)⟩;simp only[Ii,y8,Qc,h1,af]
def apF(tables:U cB)(s key:ByteArray):Int:=match tables.find? λt=>ByteArray.toList t.name==ByteArray.toList s with
 |some t=>apB t key
 |none=>0
def NB(ts:U cB):Prop:=ts.length<=4000000/\∀t∈ts,t.rows.length<=4000000
theorem ajY(hn:4000002<=n){a0:U fw}{ts:U cB}{a2:U dN}{a3:U bV}{a4:U fZ}{a5:U eU}{a6:U bW}{a7:Int}{zs:U ByteArray}(ht:NB ts)(e:cu)(kn:U (ByteArray×Int)):jr n a0 ts a2 a3 a4 a5 a6 a7 zs e kn=some (apF ts e.s e.key,kn):=by
 have h1:=ht.1;simp only[jr,y8];rw[FM (λ t=>ByteArray.toList t.name==ByteArray.toList e.s) (λ x _=>rfl) (by omega) (by omega)];simp only[af,apF];rcases Xk (λ t:cB=>ByteArray.toList t.name==ByteArray.toList e.s) ts with ⟨i,hi,h1,h2⟩ |⟨h1,h2⟩
 .rw[h1,h2];have d:decide ((i:Int)<0)=false:=by simp
  have hr:=ht.2 _ (getElem_mem hi);simp only[d,ak,bf hi,af];rw[FN (λ x=>ByteArray.toList x.name==ByteArray.toList e.key) (λ x _=>rfl) (by omega) (by omega)];simp only[af,apB];rcases Xk (λ x:bR=>ByteArray.toList x.name==ByteArray.toList e.key) ts[i].rows with ⟨j,hj,g1,g2⟩ |⟨g1,g2⟩
  .rw[g1,g2];have d:decide ((j:Int)>=0)=true:=(by simp);simp only[d,aj,bf hj,af]
  .rw[g1,g2];rfl
 .rw[h1,h2];rfl
theorem cZ{α:Type}{c:Bool}{x y:J α}(hx:∃r,x=some r)(hy:∃r,y=some r):∃r,(bif c then x else y)=some r:=by cases c<;>assumption
theorem Y8(a b:Int):∃r,wM a b=some r:=by
 simp only[wM];cases h:(b==0)with
 |true=>exact⟨_,rfl⟩
 |false=>
  have:(b !=0)=true:=by simp[bne,h]
  simp only[this,aj,ak];cases (Int.tmod a b !=0)<;>cases (decide (Int.tmod a b<0)==decide (b<0))<;>exact⟨_,rfl⟩
theorem Xx(b:Bool):∃r,yV b=some r:=cZ ⟨_,rfl⟩ ⟨_,rfl⟩
theorem sQ{α β:Type}{x:J α}{f:α->J β}(hx:∃r,x=some r)(hf:∀r,∃s,f r=some s):∃s,x.bind f=some s:=by obtain⟨r,rfl⟩:=hx;exact hf r
theorem aeN(op a b:Int):∃r,JI op a b=some r:=by
 have q:=Y8 a b;have t:=λc=>Xx c;unfold JI
 repeat' first
  |exact⟨_,rfl⟩
  |exact q
  |exact t _
  |apply cZ
  |(refine sQ ?_ λr=>?_)
theorem IL(h:0<n):cC 0 n=true:=by simp[cC];omega
theorem aeO(h:1<n):cC 1 n=true:=by simp[cC];omega
theorem amf(h:2<n):cC 2 n=true:=by simp[cC];omega
theorem Oq{α:Type}{l:U α}(h:0<l.length):bp l (((0:Nat):Int)+0)=some l[0]:=aX (i:=0) h
theorem aiJ{α:Type}{l:U α}(h:1<l.length):bp l (((0:Nat):Int)+1)=some l[1]:=aX (i:=1) h
theorem anO{α:Type}{l:U α}(h:2<l.length):bp l (((0:Nat):Int)+2)=some l[2]:=aX (i:=2) h
theorem Y9{l:U ByteArray}{s:ByteArray}(hl:l.length<=4000000)(hn:4000002<=n):∃r,fI n l s=some r:=by
 obtain⟨o,h,_⟩:=dH (step:=nI l s) (λ i (v:Int)=>v=(i:Int)/\i<=l.length) (λ _=>True) l.length (λ k v h=>h.2) (by
  rintro i v ⟨rfl,hi⟩;by_cases hlt:i<l.length
  .simp only[nI,show decide ((i:Int)<(l.length:Int))=true from by simp;omega,aj,bf hlt,af,aK i];cases (ByteArray.toList s==ByteArray.toList l[i])with
   |true=>exact .inr ⟨_,rfl,trivial⟩
   |false=>exact .inl ⟨_,rfl,rfl,hlt⟩
  .simp only[nI,show decide ((i:Int)<(l.length:Int))=false from by simp;omega,ak];exact .inr ⟨_,rfl,trivial⟩) n 0 0 ⟨rfl,Nat.zero_le _⟩ (by omega)
 simp only[fI,ru,h];cases o with
 |inl u=>cases u;simp only[dW,af];exact⟨_,rfl⟩
 |inr r=>simp only[iD,af];exact⟨_,rfl⟩
theorem ajZ{op a:Int}(h0:(op==0)=false)(h1:(op==1)=false)(h2:(op==2)=false)(h3:(op==3)=false)(h9:(op==9)=false)(L0:(op==15)=false)(h16:(op==16)=false)(h:yU op=some (a,true)):a=2:=by
 simp only[yU,h0,h1,h2,h3,h9,L0,h16,ak,af]at h;cases hd:decide (op>=0)with
 |true=>rw[hd]at h;simp only[aj,aA,Prod.mk.injEq]at h;exact h.1.symm
 |false=>rw[hd]at h;simp at h
section
variable {n:Nat} {a0:List fw} {ts:List cB} {a2:List dN} {a3:List bV} {a4:List fZ} {a5:List eU} {a6:List bW} {a7:Int} {zs:List ByteArray}
theorem Xy(hn:4000002<=n)(ht:NB ts)(hz:zs.length<=4000000):∀(m:Nat)(e:cu)(kn:U (ByteArray×Int)),VR m e->(toE e).wt<=4000000->∃v,cK n m a0 ts a2 a3 a4 a5 a6 a7 zs e kn=some (v,kn)
 | 0,_,_,h,_=>h.elim
 |m+1,e,kn,⟨ha,hr⟩,hw=>by
  have hla:=acd e;have hmx:maxLen=9223372036854775807:=rfl;show ∃v,fF n (cK n m) a0 ts a2 a3 a4 a5 a6 a7 zs e kn=some (v,kn)
  obtain⟨o,h1,l,rfl,hl⟩:=dH (step:=fu n (cK n m) a0 ts a2 a3 a4 a5 a6 a7 zs e) (λ i (v:Int×List (ByteArray×Int)×List Int)=>∃l,v=((i:Int),kn,l)/\i<=e.args.length/\l.length=i)
   (λ o=>∃l,o=(kn,l)/\l.length=e.args.length) e.args.length (λ k v ⟨_,_,h,_⟩=>h) (by
   rintro i v ⟨l,rfl,hi,hl⟩;by_cases hlt:i<e.args.length
   .left;have hwx:=ZZ (getElem_mem hlt);obtain⟨x,hx⟩:=Xy hn ht hz m e.args[i] kn (hr _ (getElem_mem hlt)) (by omega);have key:∃b,((bif (e.op==(16:Int))then(bif (decide ((i:Int)>(0:Int)))then(ck (cC 0 l.length) ((bp l ((0:Nat)+0:Int)).bind λx2=>some (!((x2 !=(0:Int))==((i:Int)==(1:Int))))))else some false)else some false):J (Bool))=some b:=by
     refine cZ ?_ ⟨_,rfl⟩;by_cases h0:(i:Int)>0
     .simp only[h0,decide_true,aj,IL (show 0<l.length by omega),Oq (show 0<l.length by omega),af];exact⟨_,rfl⟩
     .simp only[h0,decide_false,ak];exact⟨_,rfl⟩
    obtain⟨b,hb⟩:=key;have hap:∀z:Int,bP l.length l.length (sub [z] 0 1).length 1 8=true:=λz=>(by simp[bP,sub];omega);simp only[fu,show decide ((i:Int)<(e.args.length:Int))=true from by simp;omega,aj,bf hlt,af,hb,y8,hx,hap,dR,aD,aK i];cases b with
    |true=>exact⟨_,rfl,_,rfl,hlt,by simp[sub,hl]⟩
    |false=>exact⟨_,rfl,_,rfl,hlt,by simp[sub,hl]⟩
   .right;refine⟨(kn,l),?_,l,rfl,by omega⟩;simp only[fu,show decide ((i:Int)<(e.args.length:Int))=false from by simp;omega,ak,aD,aj]) n 0 ((0:Int),kn,[]) ⟨[],rfl,Nat.zero_le _,rfl⟩ (by omega)
  simp only[fF,length_nil,aD,aj,h1,af,y8,ajY hn ht];cases h0:(e.op==0)with
  |true=>exact⟨_,rfl⟩
  |false=>
  cases h1:(e.op==1)with
  |true=>exact⟨_,rfl⟩
  |false=>
  cases h2:(e.op==2)with
  |true=>exact⟨_,rfl⟩
  |false=>
  cases h3:(e.op==3)with
  |true=>
   have⟨r,hr⟩:=Y9 (n:=n) (l:=zs) (s:=e.s) hz hn;have⟨r2,hr2⟩:=Xx r;simp only[ak,aj,hr,hr2,af];exact⟨_,rfl⟩
  |false=>
  cases h9:(e.op==9)with
  |true=>
   have e9:e.op=9:=(by simpa using h9);rw[e9]at ha;have:l.length=1:=(by have h:some ((1:Int),true)=some ((e.args.length:Int),true):=ha;simp at h;omega);simp only[ak,aj,IL (show 0<l.length by omega),Oq (show 0<l.length by omega),af];exact⟨_,rfl⟩
  |false=>
  cases L0:(e.op==15)with
  |true=>
   have e15:e.op=15:=(by simpa using L0);rw[e15]at ha;have:l.length=1:=(by have h:some ((1:Int),true)=some ((e.args.length:Int),true):=ha;simp at h;omega);obtain⟨r2,hr2⟩:=Xx (l[0]'(by omega)==0);simp only[ak,aj,IL (show 0<l.length by omega),Oq (show 0<l.length by omega),af,hr2];exact⟨_,rfl⟩
  |false=>
  cases h16:(e.op==16)with
  |true=>
   have e16:e.op=16:=(by simpa using h16);rw[e16]at ha;have:l.length=3:=(by have h:some ((3:Int),true)=some ((e.args.length:Int),true):=ha;simp at h;omega);simp only[ak,aj,IL (show 0<l.length by omega),Oq (show 0<l.length by omega),aeO (show 1<l.length by omega),aiJ (show 1<l.length by omega),amf (show 2<l.length by omega),anO (show 2<l.length by omega),af];cases (l[0]'(by omega) !=0)<;>exact⟨_,rfl⟩
  |false=>
   have:l.length=2:=(by have:=ajZ h0 h1 h2 h3 h9 L0 h16 ha;omega);obtain⟨r,hr⟩:=aeN e.op (l[0]'(by omega)) (l[1]'(by omega));simp only[ak,aj,IL (show 0<l.length by omega),Oq (show 0<l.length by omega),aeO (show 1<l.length by omega),aiJ (show 1<l.length by omega),af,hr];exact⟨_,rfl⟩
end
theorem ag3{ms:U bR}(h:ms.length<=4000000)(hn:4000002<=n):∃o,iter (j4 n ms) n ((0:Int),([]:U (ByteArray×Int)),([]:U (ByteArray×Bool)))=some o:=by
 obtain⟨o,h,_⟩:=dH (step:=j4 n ms) (λ i (v:Int×List (ByteArray×Int)×List (ByteArray×Bool))=>∃a b,v=((i:Int),a,b)/\i<=ms.length) (λ _=>True) ms.length (λ k v ⟨_,_,_,h⟩=>h) (by
  rintro i v ⟨a,b,rfl,hi⟩;by_cases hlt:i<ms.length
  .left;simp only[j4,show decide ((i:Int)<(ms.length:Int))=true from by simp;omega,aj,bf hlt,af,aK i];cases (!((fP Gb.ll ms[i].name b).getD false))<;>exact⟨_,rfl,_,_,rfl,hlt⟩
  .right;simp only[j4,show decide ((i:Int)<(ms.length:Int))=false from by simp;omega,ak];exact⟨_,rfl,trivial⟩) n 0 _ ⟨[],[],rfl,Nat.zero_le _⟩ (by omega)
 exact⟨o,h⟩
structure ZS(p:bq):Prop where
 defs:il p.defs
 tabs:NB p.tables
theorem Lm{p:bq}{ms:U bR}{zs:U ByteArray}(hp:ZS p)(hm:ms.length<=4000000)(hz:zs.length<=4000000)(hn:5000003<=n)(hn2:n<=9223372036854775000):∃kn ab,mh n p ms zs=some (p.defs,p.tables,p.zones,p.rules,p.caps,p.views,p.nr,p.hours,zs,kn,ab)/\ab.length=p.defs.length:=by
 obtain⟨⟨w1,w2⟩,hs1⟩:=ag3 (n:=n) hm (by omega);have⟨r,hr,hrl,hrr,_⟩:=SL (n:=n) hp.defs hn;have hl:=hp.defs.len;have hmx:maxLen=9223372036854775807:=rfl;have hmk:zH (p.defs.length:Int) 8=true:=by simp[zH];omega
 simp only[mh,hs1,af,Int.le_refl,decide_true,Bool.true_and,show decide ((0:Int)<=(p.defs.length:Int))=true from by simp,hmk,aj,hr];cases hb:(r.2.2 !=(0:Int))with
 |true=>
  simp only[aj,Int.toNat_natCast,List.length_replicate,aD];exact⟨_,_,rfl,by simp⟩
 |false=>
  obtain⟨o,h1,kn,ab,rfl,h2⟩:=dH (step:=gL n p zs w2 r) (λ i (v:Int×List (ByteArray×Int)×List Int)=>∃kn ab,v=((i:Int),kn,ab)/\i<=r.1.length/\ab.length=p.defs.length)
   (λ o=>∃kn ab,o=(kn,ab)/\ab.length=p.defs.length) r.1.length (λ k v ⟨_,_,_,h,_⟩=>h) (by
   rintro i v ⟨kn,ab,rfl,hi,hol⟩;by_cases hlt:i<r.1.length
   .left;have hk:=hrr r.1[i] (getElem_mem hlt);obtain⟨k,hk2⟩:=Int.eq_ofNat_of_zero_le hk.1;have hkd:k<p.defs.length:=(by omega);have hko:k<ab.length:=(by omega);have hbw:=hp.defs.body (getElem_mem hkd);obtain⟨b,hb1,hb2⟩:=R4 (n:=n) (by omega) hn2 hbw;simp only[gL,show decide ((i:Int)<(r.1.length:Int))=true from by simp;omega,aj,aU hlt,aX hlt,af,hk2,bf hkd,hb1,Int.toNat_natCast,aU hkd,aX hko,aK i,show(((0:Nat):Int)+(k:Int)).toNat=k by omega];have step2:∀(Q1:U (ByteArray×Int)) (out':U Int),out'.length=p.defs.length->∃QQ,((bif (!((fP Gb.ll p.defs[k].name w2).getD false))then(bp out' ((0:Nat)+(k:Int):Int)).bind λx5=>some ((rP Gb.ll p.defs[k].name x5 Q1),out')else some (Q1,out')):J ((List (ByteArray×Int))×(List Int)))=some (QQ,out'):=by
     intro Q1 out' ho;cases (!((fP Gb.ll p.defs[k].name w2).getD false))with
     |true=>simp only[aj,aX (show k<out'.length by omega),af];exact⟨_,rfl⟩
     |false=>exact⟨_,rfl⟩
    cases b with
    |true=>
     obtain⟨v,hv⟩:=Xy (n:=n) (a0:=p.defs) (a2:=p.zones) (a3:=p.rules) (a4:=p.caps) (a5:=p.views) (a6:=p.nr) (a7:=p.hours) (by omega) hp.tabs hz n _ kn (hb2 rfl) hbw;simp only[gq,hv,aj,af];obtain⟨kn2,h2⟩:=step2 kn (ab.set k v) (by simp[hol]);rw[h2];exact⟨_,rfl,_,_,rfl,hlt,by simp[hol]⟩
    |false=>
     simp only[ak,af];have⟨kn2,h2⟩:=step2 kn ab hol;rw[h2];exact⟨_,rfl,_,_,rfl,hlt,hol⟩
   .right;simp only[gL,show decide ((i:Int)<(r.1.length:Int))=false from by simp;omega,ak];exact⟨_,rfl,_,_,rfl,hol⟩) n 0 ((0:Int),w1,List.replicate p.defs.length 0) ⟨_,_,rfl,Nat.zero_le _,by simp⟩ (by omega)
  simp only[ak,Int.toNat_natCast,h1,af,h2,aD,aj];exact⟨_,_,rfl,h2⟩
theorem all_eq{d:bg}(h:Xu d)(hn:1001<=n):wK n d=some (kK d):=by simp only[wK,Xv h hn,af,bZ,aD,aj]
theorem Za(a b:ByteArray)(h:a.size<=4000000):∃r,strings_Contains a b=some r:=by
 simp only[strings_Contains,Nat.ble_eq_true_of_le h,aj];exact⟨_,rfl⟩
theorem R5(c:Int):∃b,Er c=some b:=cZ ⟨_,rfl⟩ ⟨_,rfl⟩
theorem ag5(c:Int):∃b,Qb c=some b:=cZ ⟨_,rfl⟩ ⟨_,rfl⟩
theorem aj0(c:Int):∃b,Ah c=some b:=sQ (R5 c) λ_=>cZ ⟨_,rfl⟩ (sQ (ag5 c) λ_=>⟨_,rfl⟩)
theorem aeP{s:ByteArray}{i:Nat}(h:i<s.size):∃c,Rw s (i:Int)=some c:=by
 simp only[Rw,show decide (0<=(i:Int))=true from by simp,aj,Int.toNat_natCast];rw[getElem?_pos s i h];exact⟨_,rfl⟩
theorem aj1{s:ByteArray}{φ:(Int×Unit)->J Bool}(h:∀c,∃b,φ (c,())=some b)(hs:s.size<=4000000)(hn:4000002<=n):∃r,NR n s φ=some r:=by
 obtain⟨o,h1,_⟩:=dH (step:=Ag s φ) (λ i (v:Int)=>v=(i:Int)/\i<=s.size) (λ _=>True) s.size (λ k v h=>h.2) (by
  rintro i v ⟨rfl,hi⟩;by_cases hlt:i<s.size
  .have⟨c,hc⟩:=aeP hlt;have⟨b,hb⟩:=h c;simp only[Ag,show decide ((i:Int)<(s.size:Int))=true from by simp;omega,aj,hc,af,hb,aK i];cases b with
   |true=>exact .inl ⟨_,rfl,rfl,hlt⟩
   |false=>exact .inr ⟨_,rfl,trivial⟩
  .simp only[Ag,show decide ((i:Int)<(s.size:Int))=false from by simp;omega,ak,af];exact .inr ⟨_,rfl,trivial⟩) n 0 0 ⟨rfl,Nat.zero_le _⟩ (by omega)
 simp only[NR,h1,af];exact⟨_,rfl⟩
theorem aj2(s:ByteArray)(hn:4000002<=n):∃b,NS n s=some b/\(b=true->s.size<=20):=by
 simp only[NS];cases h0:(ByteArray.toList s==ByteArray.toList (⟨#[]⟩))with
 |true=>exact⟨false,by simp only[aj,af],λh=>(by cases h)⟩
 |false=>
  have hs:0<s.size:=by
   refine Nat.pos_of_ne_zero λh=>?_;have:s=⟨#[]⟩:=by
    obtain⟨⟨l⟩⟩:=s;have:l.length=0:=h;rw[List.eq_nil_of_length_eq_zero this]
   rw[this]at h0;simp at h0
  have⟨c,hc⟩:=aeP hs;have hc':Rw s 0=some c:=hc;have⟨b,hb⟩:=R5 c;simp only[ak,hc',af,hb];cases b with
  |false=>exact⟨false,by simp only[Bool.not_false,aj,af],λh=>(by cases h)⟩
  |true=>
   simp only[Bool.not_true,ak,af];by_cases h20:(s.size:Int)>20
   .exact⟨false,by simp only[h20,decide_true,aj],λh=>(by cases h)⟩
   .obtain⟨r,hr⟩:=aj1 (n:=n) (s:=s) (φ:=λ(y1:Int×Unit)=>Ah y1.1) (λ c=>aj0 c) (by omega) hn;simp only[h20,decide_false,ak,hr,af];exact⟨_,rfl,λ_=>by omega⟩
theorem aj3(s:ByteArray)(hn:4000002<=n):∃b,wL n s=some b:=by
 have⟨b,hb,h20⟩:=aj2 (n:=n) s hn;simp only[wL,hb,af];cases b with
 |false=>exact⟨_,rfl⟩
 |true=>
  have hs:=h20 rfl;have hmx:maxLen=9223372036854775807:=rfl;have c1:Vy (⟨#[32]⟩) s=true:=by
   have:(⟨#[32]⟩:ByteArray).size=1:=rfl;simp only[Vy,aV];omega
  have c2:Vy ((⟨#[32]⟩)++s) (⟨#[32]⟩)=true:=by
   have h1:(⟨#[32]⟩:ByteArray).size=1:=rfl;simp only[Vy,aV,ByteArray.size_append];omega
  simp only[aj,c1,c2];refine sQ (Za _ _ (Nat.le_of_ble_eq_true ?_)) λ_=>⟨_,rfl⟩
  kernel_rfl
theorem aj4(a b:DH):∃r,xL a b=some r:=by
 unfold xL;rw[y7];exact cZ (cZ ⟨_,rfl⟩ ⟨_,rfl⟩) ⟨_,rfl⟩
theorem fV{l:U aH}{φ:(aH×Unit)->J Bool}(p:aH->Bool)(h:∀x∈l,φ (x,())=some (p x))(hl:l.length<1099511627776)(hn:l.length<n):fJ n l φ=some (l.any p):=by
 have:qm n l φ=some (xD p l):=gG p h hl hn;simp only[fJ,this,af,xE]
theorem xZ{l:U aH}{φ:(aH×Unit)->J Bool}(h:∀x∈l,∃b,φ (x,())=some b)(hl:l.length<1099511627776)(hn:l.length<n):fJ n l φ=some (l.any λx=>(φ (x,())).getD false):=
 fV _ (λ x hx=>by have⟨b,hb⟩:=h x hx;rw[hb];rfl) hl hn
def IN(d:bg):Prop:=∀p∈d.phases,p.gives.length<=1000
theorem ag6{l:U aH}(hl:l.length<=1000000)(hn:4000002<=n):iter (kP n l) n (0:Int)=some (.inr false)\/(iter (kP n l) n (0:Int)=some (.inl ())/\∀v∈l,okV v=true):=by
 obtain⟨o,h1,h2⟩:=dH (step:=kP n l) (λ i (v:Int)=>v=(i:Int)/\i<=l.length/\∀x∈l.take i,okV x=true) (λ o=>o= .inr false\/(o= .inl ()/\∀v∈l,okV v=true)) l.length (λ k v h=>h.2.1) (by
  rintro i v ⟨rfl,hi,hall⟩;by_cases hlt:i<l.length
  .simp only[kP,show decide ((i:Int)<(l.length:Int))=true from by simp;omega,aj,aU hlt,aX hlt,af,uH,aK i];cases hv:okV l[i]with
   |false=>exact .inr ⟨_,by simp only[Bool.not_false,aj,af];rfl,.inl rfl⟩
   |true=>
    have hsub:(sub l 0 i).length=i:=(by simp[sub];omega);have hc:=xZ (n:=n) (l:=sub l 0 i) (φ:=λ(y1:aH×Unit)=>rf y1.1 l[i]) (λ x _=>sQ (aj4 _ _) λ_=>⟨_,rfl⟩) (by omega) (by omega);simp only[Bool.not_true,ak,yx (show (0:Int)<=0 by omega) (show (0:Int)<=(i:Int)by omega) (show (i:Int)<=(l.length:Int)by omega),aj,Int.toNat_natCast,Ed hsub,hc,af];cases ((sub l 0 i).any λx=>((λ (y1:aH×Unit)=>rf y1.1 l[i]) (x,())).getD false)with
    |true=>exact .inr ⟨_,rfl,.inl rfl⟩
    |false=>
     refine .inl ⟨_,rfl,rfl,hlt,λx hx=>?_⟩;rw[List.take_add_one,dL hlt,aZ]at hx;rcases hx with hx |hx
     .exact hall x hx
     .simp at hx;subst hx;exact hv
  .refine .inr ⟨.inl (),?_,.inr ⟨rfl,λv hv=>hall v (by rw[take_of_length_le (by omega)];exact hv)⟩⟩;simp only[kP,show decide ((i:Int)<(l.length:Int))=false from by simp;omega,ak]) n 0 0 ⟨rfl,Nat.zero_le _,by simp⟩ (by omega)
 rcases h2 with rfl |⟨rfl,h2⟩
 .exact .inl h1
 .exact .inr ⟨h1,h2⟩
theorem ag7{p:ql}(hp:p.gives.length<=1000)(hn:4000002<=n):iter (kQ n p) n ((0:Int),([]:U (ByteArray×Bool)))=some (.inl ())\/iter (kQ n p) n ((0:Int),([]:U (ByteArray×Bool)))=some (.inr (.inr (.inr false))):=by
 obtain⟨o,h1,h2⟩:=dH (step:=kQ n p) (λ i (v:Int×List (ByteArray×Bool))=>∃m,v=((i:Int),m)/\i<=p.gives.length) (λ o=>o= .inl ()\/o= .inr (.inr (.inr false))) p.gives.length (λ k v ⟨_,_,h⟩=>h) (by
  rintro i v ⟨m,rfl,hi⟩;by_cases hlt:i<p.gives.length
  .have key:∃b,((bif ((fP Gb.ll p.gives[i].name m).getD false)then some true else(wL n p.gives[i].name).bind λr4=>(bif (!r4)then some true else(bif (decide (p.gives[i].n<(0:Int)))then some true else some (decide (p.gives[i].n>(1073741824:Int)))))):J (Bool))=some b:=
    cZ ⟨_,rfl⟩ (sQ (aj3 _ hn) λ_=>cZ ⟨_,rfl⟩ (cZ ⟨_,rfl⟩ ⟨_,rfl⟩))
   obtain⟨b,hb⟩:=key;simp only[kQ,show decide ((i:Int)<(p.gives.length:Int))=true from by simp;omega,aj,bf hlt,af,hb,aK i];cases b with
   |true=>exact .inr ⟨_,rfl,.inr rfl⟩
   |false=>exact .inl ⟨_,rfl,_,rfl,hlt⟩
  .simp only[kQ,show decide ((i:Int)<(p.gives.length:Int))=false from by simp;omega,ak];exact .inr ⟨_,rfl,.inl rfl⟩) n 0 _ ⟨[],rfl,Nat.zero_le _⟩ (by omega)
 rcases h2 with rfl |rfl
 .exact .inl h1
 .exact .inr h1
theorem ag8{d:bg}(hd:Xu d)(hg:IN d)(hn:4000002<=n):iter (kR n d) n (0:Int)=some (.inl ())\/iter (kR n d) n (0:Int)=some (.inr false):=by
 have hd1:=hd.1;obtain⟨o,h1,h2⟩:=dH (step:=kR n d) (λ i (v:Int)=>v=(i:Int)/\i<=d.phases.length) (λ o=>o= .inl ()\/o= .inr false) d.phases.length (λ k v h=>h.2) (by
  rintro i v ⟨rfl,hi⟩;by_cases hlt:i<d.phases.length
  .simp only[kR,show decide ((i:Int)<(d.phases.length:Int))=true from by simp;omega,aj,bf hlt,af,aK i];rcases ag7 (n:=n) (hg _ (getElem_mem hlt)) hn with h |h
   .simp only[h,dW];cases decide ((d.phases[i].gives.length:Int)>30)with
    |true=>exact .inr ⟨_,rfl,.inr rfl⟩
    |false=>exact .inl ⟨_,rfl,rfl,hlt⟩
   .simp only[h,iD];exact .inr ⟨_,rfl,.inr rfl⟩
  .simp only[kR,show decide ((i:Int)<(d.phases.length:Int))=false from by simp;omega,ak];exact .inr ⟨_,rfl,.inl rfl⟩) n 0 0 ⟨rfl,Nat.zero_le _⟩ (by omega)
 rcases h2 with rfl |rfl
 .exact .inl h1
 .exact .inr h1
theorem JR{d:bg}(hd:Xu d):(kK d).length<=1000000:=by
 have:=dE hd.2;have:=hd.1;unfold kK;omega
theorem anP{d:bg}(hd:Xu d)(hg:IN d)(hn:4000002<=n):∃b,xM n d=some b/\(b=true->∀v∈kK d,okV v=true):=by
 simp only[xM,all_eq hd (show 1001<=n by omega),af];have key:∀c1 c2 c3 c4 c5 c6:Bool,∃b,((bif c1 then some true else(bif c2 then some true else(bif c3 then some true else(bif c4 then some true else(bif c5 then some true else some c6))))):J Bool)=some b:=by
  intro c1 c2 c3 c4 c5 c6;exact cZ ⟨_,rfl⟩ (cZ ⟨_,rfl⟩ (cZ ⟨_,rfl⟩ (cZ ⟨_,rfl⟩ (cZ ⟨_,rfl⟩ ⟨_,rfl⟩))))
 have⟨b,hb⟩:=key (decide (d.lot<0)) (decide (d.lot>1073741824)) (decide ((d.phases.length:Int)<1)) (decide ((d.phases.length:Int)>8)) (decide (((kK d).length:Int)<1)) (decide (((kK d).length:Int)>40));rw[hb];cases b with
 |true=>exact⟨false,rfl,λh=>(by cases h)⟩
 |false=>
  simp only[af,ak];rcases ag6 (n:=n) (JR hd) hn with h |⟨h,hall⟩
  .simp only[h,iD];exact⟨false,rfl,λh=>(by cases h)⟩
  .simp only[h,dW];rcases ag8 (n:=n) hd hg hn with h2 |h2
   .simp only[h2,dW];exact⟨true,rfl,λ_=>hall⟩
   .simp only[h2,iD];exact⟨false,rfl,λh=>(by cases h)⟩
theorem EX{l:U fZ}{φ:(fZ×Unit)->J Bool}(p:fZ->Bool)(h:∀x∈l,φ (x,())=some (p x))(hl:l.length<1099511627776)(hn:l.length<n):mG n l φ=some (l.any p):=by
 have:vo n l φ=some (xD p l):=gG p h hl hn;simp only[mG,this,af,xE]
theorem amh{lot:bU}{l:U aH}(ha:lot.area.length<=900)(hv:∀v∈l,okV v=true)(hl:l.length<=1000000)(hn:4000002<=n):iter (jZ n lot l) n (0:Int)=some (.inl ())\/iter (jZ n lot l) n (0:Int)=some (.inr false):=by
 obtain⟨o,h1,h2⟩:=dH (step:=jZ n lot l) (λ i (v:Int)=>v=(i:Int)/\i<=l.length) (λ o=>o= .inl ()\/o= .inr false) l.length (λ k v h=>h.2) (by
  rintro i v ⟨rfl,hi⟩;by_cases hlt:i<l.length
  .have hb:=Xt (hv _ (getElem_mem hlt));have hcl:=Oh (keep:=λp q=>p&&q) lot.area [iC l[i]];have hc:=Og (n:=n) (a:=lot.area) (b:=[iC l[i]]) (by omega) (by simp) (by omega) (by simp;omega) (by omega);have hA:=Lj (n:=n) (a:=(pu (λ p q=>p&&q) lot.area [iC l[i]]).1) (by omega) (by omega);have hr:=C8 hb;simp only[iC]at hc hA hr;simp only[jZ,show decide ((i:Int)<(l.length:Int))=true from by simp;omega,aj,aU hlt,aX hlt,af,show ∀r:ax,sub [r] 0 1=[r]from λ_=>rfl,length_singleton,aD,hc,hA,hr,aK i];have key:∀c x:Bool,∃b,((bif c then some true else some x):J Bool)=some b:=λc x=>cZ ⟨_,rfl⟩ ⟨_,rfl⟩;obtain⟨b,hb2⟩:=key ((pu (λ p q=>p&&q) lot.area [⟨l[i].bx,l[i].ci,l[i].bu,l[i].cg⟩]).2 !=0) (decide ((bif cT (pu (λ p q=>p&&q) lot.area [⟨l[i].bx,l[i].ci,l[i].bu,l[i].cg⟩]).1 then Li (pu (λ p q=>p&&q) lot.area [⟨l[i].bx,l[i].ci,l[i].bu,l[i].cg⟩]).1 else 0)<K0 ⟨l[i].bx,l[i].ci,l[i].bu,l[i].cg⟩));rw[hb2];cases b with
   |true=>exact .inr ⟨_,rfl,.inr rfl⟩
   |false=>exact .inl ⟨_,rfl,rfl,hlt⟩
  .simp only[jZ,show decide ((i:Int)<(l.length:Int))=false from by simp;omega,ak];exact .inr ⟨_,rfl,.inl rfl⟩) n 0 0 ⟨rfl,Nat.zero_le _⟩ (by omega)
 rcases h2 with rfl |rfl
 .exact .inl h1
 .exact .inr h1
theorem ami{p:bq}{ph:ql}(hc:p.caps.length<=1000)(hp:ph.gives.length<=1000)(hn:4000002<=n):iter (fK n p ph) n (0:Int)=some (.inl ())\/iter (fK n p ph) n (0:Int)=some (.inr (.inr (.inr false))):=by
 obtain⟨o,h1,h2⟩:=dH (step:=fK n p ph) (λ i (v:Int)=>v=(i:Int)/\i<=ph.gives.length) (λ o=>o= .inl ()\/o= .inr (.inr (.inr false))) ph.gives.length (λ k v h=>h.2) (by
  rintro i v ⟨rfl,hi⟩;by_cases hlt:i<ph.gives.length
  .simp only[fK,show decide ((i:Int)<(ph.gives.length:Int))=true from by simp;omega,aj,bf hlt,af,EX (n:=n) (l:=p.caps) (φ:=λ(y1:fZ×Unit)=>vk y1.1 ph.gives[i]) (λ c=>ByteArray.toList c.name==ByteArray.toList ph.gives[i].name) (λ _ _=>rfl) (by omega) (by omega),aK i];cases (p.caps.any λc=>ByteArray.toList c.name==ByteArray.toList ph.gives[i].name)with
   |false=>exact .inr ⟨_,rfl,.inr rfl⟩
   |true=>exact .inl ⟨_,rfl,rfl,hlt⟩
  .simp only[fK,show decide ((i:Int)<(ph.gives.length:Int))=false from by simp;omega,ak];exact .inr ⟨_,rfl,.inl rfl⟩) n 0 0 ⟨rfl,Nat.zero_le _⟩ (by omega)
 rcases h2 with rfl |rfl
 .exact .inl h1
 .exact .inr h1
theorem amj{p:bq}{d:bg}(hc:p.caps.length<=1000)(hd:Xu d)(hg:IN d)(hn:4000002<=n):iter (fM n p d) n (0:Int)=some (.inl ())\/iter (fM n p d) n (0:Int)=some (.inr false):=by
 have hd1:=hd.1;obtain⟨o,h1,h2⟩:=dH (step:=fM n p d) (λ i (v:Int)=>v=(i:Int)/\i<=d.phases.length) (λ o=>o= .inl ()\/o= .inr false) d.phases.length (λ k v h=>h.2) (by
  rintro i v ⟨rfl,hi⟩;by_cases hlt:i<d.phases.length
  .simp only[fM,show decide ((i:Int)<(d.phases.length:Int))=true from by simp;omega,aj,bf hlt,af,aK i];rcases ami (n:=n) hc (hg _ (getElem_mem hlt)) hn with h |h
   .simp only[h,dW];exact .inl ⟨_,rfl,rfl,hlt⟩
   .simp only[h,iD];exact .inr ⟨_,rfl,.inr rfl⟩
  .simp only[fM,show decide ((i:Int)<(d.phases.length:Int))=false from by simp;omega,ak];exact .inr ⟨_,rfl,.inl rfl⟩) n 0 0 ⟨rfl,Nat.zero_le _⟩ (by omega)
 rcases h2 with rfl |rfl
 .exact .inl h1
 .exact .inr h1
theorem aj5{p:bq}{lot:bU}{d:bg}(hc:p.caps.length<=1000)(ha:lot.area.length<=900)(hd:Xu d)(hg:IN d)(hn:4000002<=n):∃b,iY n p lot d=some b/\(b=true->∀v∈kK d,okV v=true):=by
 have⟨b,hb,hv⟩:=anP (n:=n) hd hg hn;simp only[iY,hb,af];cases b with
 |false=>exact⟨false,by simp only[Bool.not_false,aj,af],λh=>(by cases h)⟩
 |true=>
  simp only[Bool.not_true,ak,lV (n:=n) (l:=lot.area) (by omega) (by omega) (by omega),af];cases (lot.id !=d.lot)with
  |true=>exact⟨false,by simp only[aj,af],λh=>(by cases h)⟩
  |false=>
   cases cT lot.area with
   |false=>exact⟨false,by simp only[Bool.not_false,aj,ak,af],λh=>(by cases h)⟩
   |true=>
    simp only[Bool.not_true,ak,af,all_eq hd (show 1001<=n by omega)];rcases amh (n:=n) ha (hv rfl) (JR hd) hn with h |h
    .simp only[h,dW];rcases amj (n:=n) hc hd hg hn with h2 |h2
     .simp only[h2,dW];exact⟨true,rfl,λ_=>hv rfl⟩
     .simp only[h2,iD];exact⟨false,rfl,λh=>(by cases h)⟩
    .simp only[h,iD];exact⟨false,rfl,λh=>(by cases h)⟩
end Go.Proofs
