import Derived.Test.YtnkhciolifefdaaGreatTD1
open Go.IntKind (i64)
open List (length_take mem_map all_eq_true getElem_mem length_map mem_iff_getElem append_nil length_drop length_nil foldl_cons take_of_length_le mem_filter any_eq_true length_singleton pairwise_cons length_filter_le map_append pairwise_append getElem_drop)
namespace Go.Proofs
open Go.Gb Go.RowKit
variable {n:Nat}
theorem kI(a b:Int):cmp_Compare_int a b=some (if a<b then -1 else if b<a then 1 else 0):=by
 by_cases h1:a<b
 .simp[cmp_Compare_int,cmp_isNaN_int,h1]
 .by_cases h2:b<a
  .simp[cmp_Compare_int,cmp_isNaN_int,h1,h2]
  .simp[cmp_Compare_int,cmp_isNaN_int,h1,h2]
theorem pM{l:U Int}(hl:l.length<1099511627776)(_:l.length<n):pI n l=some (ku ox l):=by
 show Lq l=_;unfold Lq;rw[Nat.ble_eq_true_of_le (show l.length<=1099511627775 by omega),aj]
theorem uD{l:U Int}(hl:l.length<1099511627776)(hn:l.length<n):pJ n l=some ((),gJ l):=by
 rw[<- aea];exact YQ (eq:=λx y=>x==y) (ne:=λx y=>x !=y) (λ x y=>by simp[bne]) hl hn
theorem SV{l:U Int}{a:Int}(hl:l.length<1099511627776)(hn:l.length<n):ED n l a=some (xg (λ x=>a==x) l):=RZ hl hn
theorem L8{l:U Int}{a:Int}(hl:l.length<1099511627776)(hn:l.length<n):rq n l a=some (l.any λx=>a==x):=by
 unfold rq;rw[SV hl hn,af,xM]
theorem Gf{l:U dx}{φ:(dx×Unit)->J Bool}(p:dx->Bool)(h:∀x∈l,φ (x,())=some (p x))(hl:l.length<1099511627776)(hn:l.length<n):rR n l φ=some (xg p l):=fK p h hl hn
theorem Gg{l:U bX}{φ:(bX×Unit)->J Bool}(p:bX->Bool)(h:∀x∈l,φ (x,())=some (p x))(hl:l.length<1099511627776)(hn:l.length<n):kE n l φ=some (xg p l):=fK p h hl hn
theorem Qn{l:U aA}(h:l.length<1099511627776):Bp l=some l:=R3 (b:=32) (by omega) (by simp only[maxLen];omega)
theorem Oj{l:U (List aA)}(hf:l.flatten.length<1099511627776)(hl:l.length<1099511627776)(hn:l.length<n):yZ n l=some l.flatten:=ND (aA.mk 0 0 0 0) (b:=32) hf (by omega) hl hn
theorem Dh{a b:U aA}(hl:a.length<1099511627776)(hn:a.length<n):oK n a b=some (decide (a=b)):=by
 have e:oK n a b=UA n (λ x1 x2:aA=>!((x1.x0==(x2.x0:Int))&&((x1.y0==(x2.y0:Int))&&((x1.x1==(x2.x1:Int))&&((x1.y1==(x2.y1:Int))&&true))))) a b:=by kernel_rfl
 rw[e];refine R4 (λ x y=>?_) hl hn;obtain⟨a,b,c,d⟩:=x;obtain⟨e,f,g,h⟩:=y;simp only[aA.mk.injEq,Bool.and_true];rw[iY];simp
theorem Di{a b:U aP}(hl:a.length<1099511627776)(hn:a.length<n):vL n a b=some (decide (a=b)):=by
 have e:vL n a b=UA n (λ x1 x2:aP=>!((x1.from_==(x2.from_:Int))&&((x1.to==(x2.to:Int))&&true))) a b:=by kernel_rfl
 rw[e];refine R4 (λ x y=>?_) hl hn;obtain⟨a,b⟩:=x;obtain⟨c,d⟩:=y;simp only[aP.mk.injEq,Bool.and_true];rw[iY];simp
abbrev s6(a b:aP):Bool:=decide (a.from_<b.from_)
theorem Ol:Go.Sort.SWO s6 where
 irrefl x:=by simp[s6]
 trans x y z h1 h2:=by simp only[s6,aW]at *;omega
 ntrans x y z h1 h2:=by simp only[s6,dL]at *;omega
theorem KE{l:U aP}{φ:(aP×aP×Unit)->J Int}(f:aP->aP->Int)(hφ:∀x y,φ (x,y,())=some (f x y))(hf:∀x y,decide (f x y<0)=s6 x y)(hl:l.length<1099511627776)(_:l.length<n):vg n l φ=some (lH s6 l):=
 aek f hφ hf Ol hl
theorem AR{V O:Type}{step:V->J (V⊕O)}(Inv:V->Prop)(Post:O->Prop)(μ:V->Nat)
 (h:∀v,Inv v->(∃ v',step v=some (.inl v')/\Inv v'/\μ v'< μ v)\/∃o,step v=some (.inr o)/\Post o):∀(n:Nat)(v:V),Inv v->μ v<n->∃o,iter step n v=some o/\Post o
 | 0,_,_,hn=>absurd hn (Nat.not_lt_zero _)
 |n+1,v,hi,hn=>by
  rcases h v hi with ⟨v',h1,h2,h3⟩ |⟨o,h1,h2⟩
  .rw[ic h1];exact AR Inv Post μ h n v' h2 (by omega)
  .exact⟨o,fF h1,h2⟩
theorem IX:∀(N:Nat)(l:U Nat),l.Nodup->(∀ y∈l,y<N)->l.length<=N
 | 0,[],_,_=>aG _
 | 0,x::l,_,h=>absurd (h x (by simp)) (by omega)
 |N+1,l,hn,h=>by
  have h1:=IX N (l.filter λy=>decide (y≠N)) (hn.filter _) (λ y hy=>by
   rw[mem_filter]at hy;have:=h y hy.1;have:=hy.2;simp only[aW]at this;omega)
  have h2:=List.length_eq_countP_add_countP (λ y=>decide (y≠N)) (l:=l);rw[List.countP_eq_length_filter]at h2;have h3:List.countP (λ a=>decide ¬(decide (a≠N)=true)) l=l.count N:=by
   rw[List.count];refine List.countP_congr λy _=>?_;simp
  have h4:=List.nodup_iff_count.1 hn N;omega
def YV(us:U (List Int))(N:Nat):Prop:=us.length=N/\N<=4000000/\∀l∈us,l.length<=4000000/\∀k∈l,0<=k/\k<(N:Int)
structure BI(us:List (List Int))(N to h:Nat)(d:List Int)(F:List Nat):Prop where
 dl:d.length=N
 nd:F.Nodup
 rg:∀x∈F,x<N
 mem:∀i:Nat,i<N->(0<=d.getD i 0↔i∈F)
 ub:∀j x:Nat,F[j]? =some x->d.getD x 0<=(j:Int)
 pre:∀j x:Nat,F[j]? =some x->0<j->∃p y:Nat,p<j/\F[p]? =some y/\(y:Int)∈us.getD x []/\d.getD y 0=d.getD x 0 -1
 hd:F[0]? =some to/\d.getD to 0=0
 hh:h<=F.length
 cl:∀p y:Nat,p<h->F[p]? =some y->∀i:Nat,i<N->(y:Int)∈us.getD i []->0<=d.getD i 0
theorem BI.len{us:U (List Int)}{N to h:Nat}{d:U Int}{F:U Nat}(b:BI us N to h d F):F.length<=N:=by exact IX N F b.nd b.rg
theorem BI.push{us:U (List Int)}{N to h:Nat}{d:U Int}{F:U Nat}(b:BI us N to h d F){i x p:Nat}(hi:i<N)(hd:d.getD i 0<0)(hp:F[p]? =some x)(hx:(x:Int)∈us.getD i []):
 BI us N to h (d.set i (d.getD x 0+1)) (F++[i]):=by
 have hiF:i∉F:=λhm=>by have:=(b.mem i hi).2 hm;omega
 have Sp:x∈F:=dD hp;have hne:∀y,y∈F->i≠y:=λy hy e=>hiF (e ▸ hy);have hset:∀y,y∈F->(d.set i (d.getD x 0+1)).getD y 0=d.getD y 0:=λy hy=>by simp only[List.getD,List.getElem?_set_ne (hne y hy)]
 have vm:(d.set i (d.getD x 0+1)).getD i 0=d.getD x 0+1:=by
  have:i<d.length:=by rw[b.dl];exact hi
  simp[List.getD,this]
 have hx0:0<=d.getD x 0:=(b.mem x (b.rg x Sp)).2 Sp;have hlt:p<F.length:=(dJ.1 hp).1;refine⟨by simpa using b.dl,?_,?_,?_,?_,?_,?_,?_,?_⟩
 .rw[List.nodup_append];exact⟨b.nd,by simp,λa ha c hc=>by simp at hc;subst hc;exact λe=>hiF (e ▸ ha)⟩
 .intro y hy;rw[bn]at hy;rcases hy with hy |hy
  .exact b.rg y hy
  .simp at hy;omega
 .intro j hj;by_cases e:i=j
  .subst e;rw[vm];exact⟨λ _=>by simp,λ_=>by omega⟩
  .simp only[List.getD,List.getElem?_set_ne e];rw[bn];have:=b.mem j hj;simp only[List.getD]at this;rw[this];simp[Ne.symm e]
 .intro j y hy;rw[List.getElem?_append]at hy;split at hy
  .rw[hset y (dD hy)];exact b.ub j y hy
  .rename_i hj;have:y=i/\j=F.length:=by
    cases h:j -F.length with
    |zero=>rw[h]at hy;simp at hy;exact⟨hy.symm,by omega⟩
    |succ z=>rw[h]at hy;simp at hy
   obtain⟨rfl,rfl⟩:=this;rw[vm];have:=b.ub p x hp;omega
 .intro j y hy hj;rw[List.getElem?_append]at hy;split at hy
  .have⟨p',y',h1,h2,h3,h4⟩:=b.pre j y hy hj;exact⟨p',y',h1,by rw[List.getElem?_append_left (by have:=(dJ.1 h2).1;exact this)];exact h2,h3,by rw[hset y' (dD h2),hset y (dD hy)];exact h4⟩
  .rename_i hj';have:y=i/\j=F.length:=by
    cases h:j -F.length with
    |zero=>rw[h]at hy;simp at hy;exact⟨hy.symm,by omega⟩
    |succ z=>rw[h]at hy;simp at hy
   obtain⟨rfl,rfl⟩:=this;exact⟨p,x,hlt,by rw[List.getElem?_append_left hlt];exact hp,hx,by rw[vm,hset x Sp];omega⟩
 .have h0:=(dJ.1 b.hd.1).1;exact⟨by rw[List.getElem?_append_left h0];exact b.hd.1,by rw[hset _ (dD b.hd.1)];exact b.hd.2⟩
 .have:=b.hh;simp;omega
 .intro p' y hp' hy j hj hm;rw[List.getElem?_append_left (by have:=b.hh;omega)]at hy;have:=b.cl p' y hp' hy j hj hm;rw[hset j ((b.mem j hj).1 this)];exact this
theorem py{α:Type}(o:Nat)(l:U α):VB o l=l.drop o:=by cases o<;>simp[VB]
def BS(us:U (List Int))(N to h x:Nat):(Int×Int×List Int×List Int)->Prop
 |(v4,v5,d,v7)=>∃(o i:Nat)(F:U Nat),v4=(o:Int)/\v5=(i:Int)/\o<=v7.length/\v7.drop o=(F.drop (h+1)).map (λ k:Nat=>(k:Int))/\i<=N/\BI us N to h d F/\F[h]? =some x/\∀i',i'<i->(x:Int)∈us.getD i' []->0<=d.getD i' 0
theorem aoh{n N to h x:Nat}{a0:pF}{r1:U Int}(hg:YV a0.uses N)(hr:r1.length=N)(hn:4000001<=n)(v:Int×Int×List Int×List Int)(hv:BS a0.uses N to h x v):
 (∃ v',fZ n a0 r1 x v=some (.inl v')/\BS a0.uses N to h x v'/\N -v'.2.1.toNat<N -v.2.1.toNat)\/
 ∃q,fZ n a0 r1 x v=some (.inr q)/\∃(o:Nat)(F:U Nat),q.1=(o:Int)/\o<=q.2.2.length/\q.2.2.drop o=(F.drop (h+1)).map (λ k:Nat=>(k:Int))/\BI a0.uses N to (h+1) q.2.1 F:=by
 obtain⟨v4,v5,d,v7⟩:=v;obtain⟨o,i,F,rfl,rfl,ho,hq,hi,hb,hx,hc⟩:=hv;have hx':x<N:=hb.rg x (dD hx);have Fk:=hg.1;have hdl:=hb.dl;by_cases hlt:i<N
 .left;have wn:i<a0.uses.length:=by omega
  have hl:=hg.2.2 a0.uses[i] (getElem_mem wn);have hcon:=L8 (n:=n) (l:=a0.uses[i]) (a:=(x:Int)) (by omega) (by omega);have hud:a0.uses.getD i []=a0.uses[i]:=by simp[List.getD,wn]
  have hdi:d[i]'(by omega)=d.getD i 0:=by simp[List.getD,show i<d.length by omega]
  have Fl:d[x]'(by omega)=d.getD x 0:=by simp[List.getD,show x<d.length by omega]
  simp only[fZ,show decide ((i:Int)<((a0.uses.length:Int)))=true from by simp;omega,aj,bq wn,af,aV (show i<r1.length by omega),aV (show x<r1.length by omega),
   aX (show i<d.length by omega),aX (show x<d.length by omega),hcon,hdi,Fl]
  have hFl:=hb.len;have hN:=hg.2.1;have hlen:v7.length -o=F.length -(h+1):=by have:=congrArg List.length hq;simpa using this
  have hmx:maxLen=9223372036854775807:=rfl;by_cases hA:d.getD i 0<0/\(x:Int)∈a0.uses[i]
  .have h1:(a0.uses[i].any λy=>(x:Int)==y)=true:=any_eq_true.2 ⟨_,hA.2,by simp⟩;have hx0:0<=d.getD x 0:=(hb.mem x hx').2 (dD hx);have hxu:=hb.ub h x hx;have TZ:h<F.length:=(dJ.1 hx).1;have hap:bP (v7.drop o).length (v7.length -o) (sub [(i:Int)] 0 1).length 1 8=true:=(by simp[bP,sub];omega);have hw:i64.wrap (d.getD x 0+1)=d.getD x 0+1:=dX (by omega) (by omega);refine⟨(((0:Nat):Int),((i+1:Nat):Int),d.set i (d.getD x 0+1),v7.drop o++[(i:Int)]),?_,?_,by show N -((i+1:Nat):Int).toNat<N -(i:Int).toNat;omega⟩
   .simp only[hA.1,decide_true,aj,af,h1,Int.toNat_natCast,py,hap,dS,hw,aM i];simp[aE,sub]
   .refine⟨0,i+1,F++[i],rfl,rfl,Nat.zero_le _,?_,by omega,hb.push hlt hA.1 hx (by rw[hud];exact hA.2),by rw[List.getElem?_append_left TZ];exact hx,?_⟩
    .rw[List.drop_zero,hq,List.drop_append_of_le_length (by omega)];simp
    .intro i' hi' hm;have hpush:=hb.push hlt hA.1 hx (by rw[hud];exact hA.2);by_cases e:i'=i
     .subst e;exact(hpush.mem i' hlt).2 (by simp)
     .have:=hc i' (by omega) hm;exact(hpush.mem i' (by omega)).2 (List.mem_append_left _ ((hb.mem i' (by omega)).1 this))
  .have hB:(bif decide (d.getD i 0<0)then some (a0.uses[i].any λy=>(x:Int)==y)else some false)=some false:=by
    by_cases h2:d.getD i 0<0
    .simp only[h2,decide_true,aj,aC];cases hc:(a0.uses[i].any λy=>(x:Int)==y)with
     |false=>rfl
     |true=>
      obtain⟨y,hy,e⟩:=any_eq_true.1 hc;obtain rfl:(x:Int)=y:=(by simpa using e);exact absurd ⟨h2,hy⟩ hA
    .simp only[h2,decide_false,ak]
   refine⟨((o:Int),((i+1:Nat):Int),d,v7),?_,?_,by show N -((i+1:Nat):Int).toNat<N -(i:Int).toNat;omega⟩
   .rw[hB];simp only[af,ak,Int.toNat_natCast,Ey (show o+(v7.length -o)=v7.length by omega),aj,aM i]
   .refine⟨o,i+1,F,rfl,rfl,ho,hq,by omega,hb,hx,λi' hi' hm=>?_⟩;by_cases e:i'=i
    .subst e;rw[hud]at hm;exact Int.not_lt.1 λh2=>hA ⟨h2,hm⟩
    .exact hc i' (by omega) hm
 .right;have hiN:i=N:=by omega
  have TZ:h<F.length:=(dJ.1 hx).1;refine⟨((o:Int),d,v7),?_,o,F,rfl,ho,hq,?_⟩
  .simp only[fZ,show decide ((i:Int)<((a0.uses.length:Int)))=false from by simp;omega,ak,Int.toNat_natCast,Ey (show o+(v7.length -o)=v7.length by omega),aj]
  .refine⟨hb.dl,hb.nd,hb.rg,hb.mem,hb.ub,hb.pre,hb.hd,TZ,λp y hp hy j hj hm=>?_⟩;by_cases e:p=h
   .subst e;rw[hx]at hy;cases hy;exact hc j (by omega) hm
   .exact hb.cl p y (by omega) hy j hj hm
def BO(us:U (List Int))(N to h:Nat):(Int×List Int×List Int)->Prop
 |(v1,d,v3)=>∃(o:Nat)(F:U Nat),v1=(o:Int)/\o<=v3.length/\v3.drop o=(F.drop h).map (λ k:Nat=>(k:Int))/\BI us N to h d F
theorem aoi{n N to h:Nat}{a0:pF}{r1:U Int}(hg:YV a0.uses N)(hr:r1.length=N)(hn:4000001<=n)(v:Int×List Int×List Int)(hv:BO a0.uses N to h v):
 (∃ v',eD n a0 r1 v=some (.inl v')/\BO a0.uses N to (h+1) v')\/∃d,eD n a0 r1 v=some (.inr d)/\∃F,BI a0.uses N to F.length d F:=by
 obtain⟨v1,d,v3⟩:=v;obtain⟨o,F,rfl,ho,hq,hb⟩:=hv;have hlen:v3.length -o=F.length -h:=by have:=congrArg List.length hq;simpa using this
 by_cases hlt:h<F.length
 .left;obtain⟨x,hx⟩:∃x,F[h]? =some x:=⟨_,dU hlt⟩;have hox:v3[o]? =some (x:Int):=by
   have:=congrArg (λ l=>l[0]?) hq;simpa[hx]using this
  have hdr:v3.drop (o+1)=(F.drop (h+1)).map (λ k:Nat=>(k:Int)):=by
   have:=congrArg (λ l=>l.drop 1) hq;simpa using this
  obtain⟨q,hq1,o2,F2,hq2,hq3,hq4,hq5⟩:=AR (BS a0.uses N to h x) (λ q:Int×List Int×List Int=>∃(o:Nat)(F:U Nat),q.1=(o:Int)/\o<=q.2.2.length/\q.2.2.drop o=(F.drop (h+1)).map (λ k:Nat=>(k:Int))/\BI a0.uses N to (h+1) q.2.1 F)
   (λ v=>N -v.2.1.toNat) (aoh (r1:=r1) hg hr hn) n (((o+1:Nat):Int),0,d,v3) ⟨o+1,0,F,rfl,rfl,by omega,hdr,Nat.zero_le _,hb,hx,λi' hi'=>absurd hi' (Nat.not_lt_zero _)⟩ (by have:=hg.2.1;simp;omega)
  obtain⟨w1,w2,w3⟩:=q;simp only at hq2 hq3 hq4 hq5;subst hq2;refine⟨((o2:Int),w2,w3),?_,o2,F2,rfl,hq3,hq4,hq5⟩;have hat:bo v3 ((o:Int)+0)=some (x:Int):=by rw[Int.add_zero,agF];exact hox
  simp only[eD,Int.toNat_natCast,show decide (((v3.length -o:Nat):Int)>0)=true from by simp;omega,aj,show cN 0 (v3.length -o)=true from by simp[cN];omega,hat,af,
   pX (show (0:Int)<=1 by omega) (show (1:Int)<=((v3.length -o:Nat):Int)by omega) (Int.le_refl _),Ey (show o+1+(v3.length -o -1)=v3.length by omega),hq1,Ey (show o2+(w3.length -o2)=w3.length by omega)]
 .right;have hhF:h=F.length:=by have:=hb.hh;omega
  refine⟨d,?_,F,hhF ▸ hb⟩;simp only[eD,Int.toNat_natCast,show decide (((v3.length -o:Nat):Int)>0)=false from by simp;omega,ak]
theorem dK{V O:Type}{step:V->J (V⊕O)}(Inv:Nat->V->Prop)(Post:O->Prop)(K:Nat)(hK:∀k v,Inv k v->k<=K)
 (h:∀k v,Inv k v->(∃ v',step v=some (.inl v')/\Inv (k+1) v')\/∃o,step v=some (.inr o)/\Post o):∀(n k:Nat)(v:V),Inv k v->K<n+k->∃o,iter step n v=some o/\Post o
 | 0,k,v,hi,hn=>absurd (hK k v hi) (by omega)
 |n+1,k,v,hi,hn=>by
  rcases h k v hi with ⟨v',h1,h2⟩ |⟨o,h1,h2⟩
  .rw[ic h1];exact dK Inv Post K hK h n (k+1) v' h2 (by omega)
  .exact⟨o,fF h1,h2⟩
theorem abY{n N to:Nat}{a0:pF}(hg:YV a0.uses N)(hd:a0.defs.length=N)(hn:4000002<=n)(ht:to<N):∃d F,jG n a0 to=some d/\BI a0.uses N to F.length d F:=by
 have hN:=hg.2.1;have hr:qL (sub ([(-1)]:U Int) 0 1) (N:Int)=some (List.replicate N (-1)):=by
  show(ck (decide (0<=(N:Int))&&decide ((N:Int)<=1000000000000)) (some (List.replicate (N:Int).toNat (-1))))=_;rw[show decide (0<=(N:Int))=true by simp,show decide ((N:Int)<=1000000000000)=true by simp;omega];rfl
 have hlr:(List.replicate N (-1:Int)).length=N:=List.length_replicate;have hb0:BI a0.uses N to 0 ((List.replicate N (-1:Int)).set to 0) [to]:=by
  have hto:((List.replicate N (-1:Int)).set to 0).getD to 0=0:=by simp[List.getD,ht]
  refine⟨by simp,by simp,λx hx=>by simp at hx;omega,λi hi=>?_,λj x hx=>?_,λj x hx hj=>?_,⟨rfl,hto⟩,by simp,λp y hp=>absurd hp (Nat.not_lt_zero _)⟩
  .by_cases e:to=i
   .subst e;rw[hto];simp
   .simp only[List.getD,List.getElem?_set_ne e];simp[hi,Ne.symm e]
  .cases j with
   |zero=>simp at hx;subst hx;rw[hto];simp
   |succ j=>simp at hx
  .cases j with
   |zero=>omega
   |succ j=>simp at hx
 obtain⟨d,h1,F,h2⟩:=dK (step:=eD n a0 (List.replicate N (-1))) (λ h v=>BO a0.uses N to h v) (λ d=>∃F,BI a0.uses N to F.length d F) N (λ h v ⟨_,_,_,_,_,hb⟩=>Nat.le_trans hb.hh hb.len) (λ h v hv=>aoi (n:=n) (r1:=List.replicate N (-1)) hg hlr (by omega) v hv) n 0
  (((0:Nat):Int),(List.replicate N (-1:Int)).set to 0,[(to:Int)]) ⟨0,[to],rfl,Nat.zero_le _,rfl,hb0⟩ (by omega)
 refine⟨d,F,?_,h2⟩;have hdl:d.length=N:=h2.dl;have h1':iter (eD n a0 (List.replicate N (-1))) n ((0:Int),(List.replicate N (-1:Int)).set to 0,[(to:Int)])=some d:=h1;simp only[jG,hd,hr,af,hlr,aV ht,aX (show to<(List.replicate N (-1:Int)).length by omega),aj,show(((0:Nat):Int)+(to:Int)).toNat=to by omega,h1,h1'];simp[aE,sub,hdl];exact take_of_length_le (Nat.le_of_eq hdl)
def Nr(d:U Int)(l:U Int)(w:Int):Prop:=
 (w= -1/\∀k∈l,d.getD k.toNat 0<0)\/(w∈l/\0<=d.getD w.toNat 0/\∀k∈l,0<=d.getD k.toNat 0->d.getD w.toNat 0<=d.getD k.toNat 0)
theorem Nr.snoc{d l:U Int}{w k:Int}(h:Nr d l w)(hk:0<=k)(hl:∀x∈l,0<=x):Nr d (l++[k]) (if 0<=d.getD k.toNat 0/\(w<0\/d.getD k.toNat 0<d.getD w.toNat 0)then k else w):=by
 split
 .rename_i h1;refine .inr ⟨by simp,h1.1,λz hz h0=>?_⟩;rw[bn]at hz;rcases hz with hz |hz
  .rcases h with ⟨rfl,h⟩ |⟨hw,hw0,h⟩
   .have:=h z hz;omega
   .have h2:=h z hz h0;have:=hl w hw;rcases h1.2 with h3 |h3<;>omega
  .simp at hz;subst hz;exact Int.le_refl _
 .rename_i h1;rcases h with ⟨rfl,h⟩ |⟨hw,hw0,h⟩
  .refine .inl ⟨rfl,λz hz=>?_⟩;rw[bn]at hz;rcases hz with hz |hz
   .exact h z hz
   .simp at hz;subst hz;exact Int.not_le.1 λh2=>h1 ⟨h2,.inl (by omega)⟩
  .refine .inr ⟨List.mem_append_left _ hw,hw0,λz hz h0=>?_⟩;rw[bn]at hz;rcases hz with hz |hz
   .exact h z hz h0
   .simp at hz;subst hz;exact Int.not_lt.1 λh2=>h1 ⟨h0,.inr h2⟩
theorem aoj{n N:Nat}{d l:U Int}(hd:d.length=N)(hl:l.length<=4000000)(hr:∀k∈l,0<=k/\k<(N:Int))(hn:4000001<=n):∃w,iter (iF d l) n ((-1:Int),(0:Int))=some w/\Nr d l w:=by
 refine dK (λ i (v:Int×Int)=>i<=l.length/\v.2=(i:Int)/\Nr d (l.take i) v.1) (λ w=>Nr d l w) l.length (λ k v h=>h.1) ?_ n 0 _ ⟨Nat.zero_le _,rfl,.inl ⟨rfl,by simp⟩⟩ (by omega);rintro i ⟨v3,v4⟩ ⟨hi,rfl,hN⟩;by_cases hlt:i<l.length
 .left;have hk:=hr l[i] (getElem_mem hlt);obtain⟨k,hk2⟩:=Int.eq_ofNat_of_zero_le hk.1;have hkN:k<d.length:=by omega
  have HT:d[k]=d.getD k 0:=by simp[List.getD,hkN]
  have htk:l.take (i+1)=l.take i++[l[i]]:=by rw[List.take_add_one,dU hlt];rfl
  have hlk:∀x∈l.take i,0<=x:=λx hx=>(hr x (List.mem_of_mem_take hx)).1;have hsn:=hN.snoc hk.1 hlk;refine⟨(if 0<=d.getD (l[i]).toNat 0/\(v3<0\/d.getD (l[i]).toNat 0<d.getD v3.toNat 0)then l[i]else v3,((i+1:Nat):Int)),?_,hlt,rfl,by rw[htk];exact hsn⟩;simp only[iF,show decide ((i:Int)<(l.length:Int))=true from by simp;omega,aj,bq hlt,af,hk2,aV hkN,aX hkN,HT,Int.toNat_natCast,aM i];by_cases h0:0<=d.getD k 0
  .by_cases h1:v3<0
   .simp only[h0,h1,ge_iff_le,decide_true,aj,af,true_and,true_or,if_true]
   .have hv:v3∈l.take i:=by
     rcases hN with ⟨rfl,_⟩ |⟨h,_⟩
     .omega
     .exact h
    have A5:=hr v3 (List.mem_of_mem_take hv);obtain⟨z,hz⟩:=Int.eq_ofNat_of_zero_le A5.1;subst hz;have Fc:z<d.length:=(by omega);have hgz:d[z]=d.getD z 0:=(by simp[List.getD,Fc]);simp only[h0,ge_iff_le,decide_true,aj,h1,decide_false,ak,aV Fc,aX Fc,af,hgz,Int.toNat_natCast,true_and,false_or];by_cases h2:d.getD k 0<d.getD z 0
    .simp only[h2,decide_true,aj,if_true,af]
    .simp only[h2,decide_false,ak,if_false,af]
  .simp only[h0,ge_iff_le,decide_false,ak,af,false_and,if_false]
 .right;refine⟨v3,?_,?_⟩
  .simp only[iF,show decide ((i:Int)<(l.length:Int))=false from by simp;omega,ak]
  .rw[take_of_length_le (by omega)]at hN;exact hN
theorem BI.step{us:U (List Int)}{N to h:Nat}{d:U Int}{F:U Nat}(b:BI us N to h d F){x:Nat}(hx:x<N)(hne:x≠to)(h0:0<=d.getD x 0):∃y:Nat,(y:Int)∈us.getD x []/\d.getD y 0=d.getD x 0 -1/\0<=d.getD y 0:=by
 obtain⟨j,hj,hjx⟩:=mem_iff_getElem.1 ((b.mem x hx).1 h0);have hj':F[j]? =some x:=by rw[dU hj,hjx]
 have hj0:0<j:=by
  cases j with
  |zero=>rw[b.hd.1]at hj';cases hj';exact absurd rfl hne
  |succ j=>exact Nat.succ_pos _
 have⟨p,y,_,h2,h3,h4⟩:=b.pre j x hj' hj0;have hyF:=dD h2;exact⟨y,h3,h4,(b.mem y (b.rg y hyF)).2 hyF⟩
theorem aki{n N fr:Nat}{a1:U eT}{us:U (List Int)}(hg:YV us N)(hd:a1.length=N)(hn:4000003<=n)(hf:fr<N):∃d F c,BI us N fr F.length d F/\jI n fr a1 us=some (a1,us,c)/\c.length<=N+1/\(c=[]->∀k∈us.getD fr [],d.getD k.toNat 0<0):=by
 obtain⟨d,F,hdi,hb⟩:=abY (n:=n) (a0:=pF.mk a1 us) hg hd (by omega) hf;have hN:=hg.2.1;have Fk:=hg.1;have hmx:maxLen=9223372036854775807:=rfl;have hloop:∃o,iter (kR n fr a1 us d) n ((fr:Int),([]:U ByteArray))=some o/\∃c,o= .inr (a1,us,c)/\c.length<=N+1/\(c=[]->∀k∈us.getD fr [],d.getD k.toNat 0<0):=by
  refine dK (λ k (v:Int×List ByteArray)=>∃at_:Nat,v.1=(at_:Int)/\at_<N/\v.2.length=k/\k<=N/\((k=0/\at_=fr)\/(0<k/\at_≠fr/\0<=d.getD at_ 0/\d.getD at_ 0+k<=N))) _ N (λ k v ⟨_,_,_,_,h,_⟩=>h) ?_ n 0 _ ⟨fr,rfl,hf,rfl,Nat.zero_le _,.inl ⟨rfl,rfl⟩⟩ (by omega);rintro k ⟨v1,v2⟩ ⟨x,rfl,hx,hv2,hkN,hst⟩;simp only at hv2;have hxa:x<a1.length:=by omega
  have hxu:x<us.length:=by omega
  have hl:=hg.2.2 us[x] (getElem_mem hxu);obtain⟨w,hw,hnr⟩:=aoj (n:=n) (d:=d) (l:=us[x]) hb.dl hl.1 hl.2 (by omega);have hgu:us.getD x []=us[x]:=by simp[List.getD,hxu]
  have hap:bP v2.length v2.length (sub [a1[x].name] 0 1).length 1 16=true:=by simp[bP,sub];omega
  simp only[kR,bq hxa,bq hxu,af,hap,aj,dS,hw];have hsl:(v2++sub [a1[x].name] 0 1).length=k+1:=by simp[sub,hv2]
  have hne:((v2++sub [a1[x].name] 0 1).length==0)=false:=by rw[hsl];simp
  rcases hnr with ⟨rfl,hno⟩ |⟨hwm,hw0,hmin⟩
  .right;refine⟨.inr (a1,us,[]),by simp[aE],[],rfl,by simp,λ_=>?_⟩;rcases hst with ⟨_,rfl⟩ |⟨_,So,hx0,_⟩
   .rw[hgu];exact hno
   .have⟨y,hy,_,hy0⟩:=hb.step hx So hx0;have hy':(y:Int)∈us[x]:=(by rw[<- hgu];exact hy);have:=hno _ hy';simp only[Int.toNat_natCast]at this;omega
  .have hwr:=hl.2 w hwm;obtain⟨z,rfl⟩:=Int.eq_ofNat_of_zero_le hwr.1;simp only[Int.toNat_natCast]at hw0 hmin;by_cases hzf:z=fr
   .right;subst hzf;refine⟨.inr (a1,us,v2++sub [a1[x].name] 0 1),?_,_,rfl,by omega,λh=>by rw[h]at hsl;simp at hsl⟩;simp only[show decide ((z:Int)<0)=false from by simp,ak,beq_self_eq_true,aj,hne,Bool.not_false,Bool.true_and,aF,Option.map_some]
   .left;have Fc:z<N:=(by omega);have hb1:d.getD z 0+((k+1:Nat):Int)<=N:=by
     rcases hst with ⟨hk0,rfl⟩ |⟨_,So,hx0,hle⟩
     .have hzF:=(hb.mem z Fc).1 hw0;obtain⟨j,hj,hjz⟩:=mem_iff_getElem.1 hzF;have h3:=hb.ub j z (by rw[dU hj,hjz]);have:=hb.len;omega
     .have⟨y,hy,hyd,hy0⟩:=hb.step hx So hx0;have:=hmin y (by rw[<- hgu];exact hy) (by simpa using hy0);simp only[Int.toNat_natCast]at this;omega
    refine⟨((z:Int),v2++sub [a1[x].name] 0 1),?_,z,rfl,Fc,hsl,by omega,.inr ⟨Nat.succ_pos _,hzf,hw0,hb1⟩⟩;simp only[show decide ((z:Int)<0)=false from by simp,ak,show((z:Int)==(fr:Int))=false from by simp;omega,aF,aj]
 obtain⟨o,h1,c,rfl,h2⟩:=hloop;refine⟨d,F,c,hb,?_,h2⟩;simp only[jI,hdi,af,h1];simp[aE]
theorem abZ(a b:ByteArray):∃r,nJ a b=some r:=by
 simp only[nJ,cmp_isNaN_string,af];cases (!a.toList==a.toList)<;>cases (!b.toList==b.toList)<;>cases Vx a b<;>cases (a.toList==b.toList)<;>exact⟨_,rfl⟩
theorem ab0{a b:U ByteArray}(ha:a.length<=5000000)(hn:5000001<=n):∃r,lJ n a b=some r:=by
 obtain⟨o,h,_⟩:=dK (step:=lI a b) (λ i (v:Int)=>v=(i:Int)/\i<=a.length) (λ _=>True) a.length (λ k v h=>h.2) (by
  rintro i v ⟨rfl,hi⟩;by_cases hlt:i<a.length
  .simp only[lI,show decide ((i:Int)<(a.length:Int))=true from by simp;omega,aj,bq hlt,af];by_cases hb:i<b.length
   .have⟨r,hr⟩:=abZ a[i] b[i];simp only[show decide ((i:Int)>=(b.length:Int))=false from by simp;omega,ak,bq hb,af,hr];cases hr0:(r !=(0:Int))with
    |true=>exact .inr ⟨_,rfl,trivial⟩
    |false=>exact .inl ⟨_,rfl,by rw[bQ (by omega)],by omega⟩
   .simp only[show decide ((i:Int)>=(b.length:Int))=true from by simp;omega,aj];exact .inr ⟨_,rfl,trivial⟩
  .simp only[lI,show decide ((i:Int)<(a.length:Int))=false from by simp;omega,ak];exact .inr ⟨_,rfl,trivial⟩) n 0 0 ⟨rfl,Nat.zero_le _⟩ (by omega)
 simp only[lJ,h];cases o with
 |inl u=>cases u;simp only[eO];cases decide ((a.length:Int)<(b.length:Int))<;>exact⟨_,rfl⟩
 |inr r=>exact⟨r,by simp⟩
def tf(us:U (List Int))(N j:Nat):Prop:=∃d F,BI us N j F.length d F/\∀k∈us.getD j [],d.getD k.toNat 0<0
theorem aes{n N:Nat}{a0:U eT}{us:U (List Int)}(hg:YV us N)(hd:a0.length=N)(hn:5000003<=n):∃c,iV n a0 us=some (a0,us,c)/\(c=[]->∀j,j<N->tf us N j)/\c.length<=N+1:=by
 have hN:=hg.2.1
 obtain⟨o,h1,c,rfl,h2⟩:=dK (step:=gU n a0) (λ i (v:Int×List eT×List (List Int)×List ByteArray)=>∃c,v=((i:Int),a0,us,c)/\i<=N/\c.length<=N+1/\(c=[]->∀j,j<i->tf us N j))
  (λ o=>∃c,o=(a0,us,c)/\(c=[]->∀j,j<N->tf us N j)/\c.length<=N+1) N (λ k v ⟨_,_,h,_⟩=>h) (by
  rintro i v ⟨c,rfl,hi,hcl,hc⟩;by_cases hlt:i<N
  .left;obtain⟨d,F,c2,hb,hci,Tl,hc2⟩:=aki (n:=n) (a1:=a0) hg hd (by omega) hlt;simp only[gU,show decide ((i:Int)<(a0.length:Int))=true from by simp;omega,aj,hci,af,aM i,bZ,aF];have hfin:∀c':U ByteArray,c'.length<=N+1->(c'=[]->c=[]/\c2=[])->∃c'',(((i+1:Nat):Int),a0,us,c')=(((i+1:Nat):Int),a0,us,c'')/\i+1<=N/\c''.length<=N+1/\(c''=[]->∀j,j<i+1->tf us N j):=λc' hl' he=>
    ⟨c',rfl,hlt,hl',λe j hj=>by
     have⟨e1,e2⟩:=he e;by_cases h:j=i
     .subst h;exact⟨d,F,hb,hc2 e2⟩
     .exact hc e1 j (by omega)⟩
   obtain⟨r,hr⟩:=ab0 (n:=n) (a:=c2) (b:=c) (by omega) (by omega);cases h0:(c2.length==0)with
   |true=>
    have e2:c2=[]:=List.eq_nil_of_length_eq_zero (by simpa using h0);exact⟨_,by simp only[aj,af],hfin c hcl λe=>⟨e,e2⟩⟩
   |false=>
    have hne:c2≠[]:=λe=>(by rw[e]at h0;simp at h0);simp only[ak,af];have key:∃b,(bif c.length==0 then some true else bif decide ((c2.length:Int)<(c.length:Int))then some true else bif(c2.length:Int)==(c.length:Int)then(lJ n c2 c).bind λr2=>some (decide (r2<0))else some false)=some b/\(c.length=0->b=true):=by
     cases h3:(c.length==0)with
     |true=>exact⟨true,rfl,λ_=>rfl⟩
     |false=>
      have hcn:c.length≠0:=(by simpa using h3);simp only[ak,hr,af];cases decide ((c2.length:Int)<(c.length:Int))<;>cases ((c2.length:Int)==(c.length:Int))<;>exact⟨_,rfl,λe=>absurd e hcn⟩
    obtain⟨b,hb1,hb2⟩:=key;rw[hb1];cases b with
    |true=>exact⟨_,by simp only[aj,af],hfin c2 Tl λe=>absurd e hne⟩
    |false=>exact⟨_,by simp only[ak,af],hfin c hcl λe=>by rw[e]at hb2;exact absurd (hb2 rfl) (by simp)⟩
  .right;refine⟨(a0,us,c),?_,c,rfl,λe j hj=>hc e j (by omega),hcl⟩;simp only[gU,show decide ((i:Int)<(a0.length:Int))=false from by simp;omega,ak,aF,aj]) n 0 ((0:Int),a0,us,[]) ⟨[],rfl,Nat.zero_le _,by simp,λ_ j hj=>absurd hj (Nat.not_lt_zero _)⟩ (by omega)
 exact⟨c,by simp[iV,h1,aE],h2⟩
theorem BI.back{us:U (List Int)}{N to:Nat}{d:U Int}{F:U Nat}(b:BI us N to F.length d F){i y:Nat}(hi:i<N)(hy:y<N)(h:(y:Int)∈us.getD i [])(h0:0<=d.getD y 0):0<=d.getD i 0:=by
 obtain⟨j,hj,hjy⟩:=mem_iff_getElem.1 ((b.mem y hy).1 h0);exact b.cl j y hj (by rw[dU hj,hjy]) i hi h
theorem aok{us:U (List Int)}{N:Nat}(hg:YV us N)(hf:∀j,j<N->tf us N j)(done:Nat->Prop){i0:Nat}(h0:i0<N)(hd0:¬done i0):∃i,i<N/\¬done i/\∀k∈us.getD i [],done k.toNat:=by
 refine rX λhno=>?_;have hstep:∀i:{i:Nat // i<N/\¬done i},∃k:{k:Nat // k<N/\¬done k},(k.1:Int)∈us.getD i.1 []:=by
  rintro⟨i,hi,hnd⟩;refine rX λh=>hno ⟨i,hi,hnd,λk hk=>rX λhkd=>h ?_⟩;have hl:us.getD i []∈us:=by
   have:i<us.length:=(by rw[hg.1];exact hi);simp[List.getD,this]
  have hr:=(hg.2.2 _ hl).2 k hk;exact⟨⟨k.toNat,by omega,hkd⟩,by show(k.toNat:Int)∈_;rw[Int.toNat_of_nonneg hr.1];exact hk⟩
 obtain⟨f,hfs⟩:=Classical.axiomOfChoice hstep
 let g:Nat->{i:Nat // i<N/\¬done i}:=λj=>Nat.rec ⟨i0,h0,hd0⟩ (λ _ x=>f x) j
 have hgs:∀j,((g (j+1)).1:Int)∈us.getD (g j).1 []:=λj=>hfs (g j);have hnd:¬((List.range (N+1)).map λj=>(g j).1).Nodup:=λh=>by
  have:=IX N _ h λy hy=>by
   obtain⟨j,_,rfl⟩:=mem_map.1 hy;exact(g j).2.1
  rw[length_map,List.length_range]at this;omega
 obtain⟨a,b,hab,he⟩:∃a b,a<b/\(g a).1=(g b).1:=by
  refine rX λh=>hnd ?_;rw[List.nodup_iff_pairwise_ne,List.pairwise_map];exact List.pairwise_lt_range.imp λ{x y} hxy e=>h ⟨x,y,hxy,e⟩
 obtain⟨d,F,hb,hneg⟩:=hf _ (g a).2.1;have hall:∀c,a<b -c->c<b -a->0<=d.getD (g (b -c)).1 0:=by
  intro c
  induction c with
  |zero=>intro _ _;rw[Nat.sub_zero,<- he,hb.hd.2];exact Int.le_refl _
  |succ c ih=>
   intro h1 h2;have:=ih (by omega) (by omega);have e:b -c=b -(c+1)+1:=(by omega);rw[e]at this;exact hb.back (g (b -(c+1))).2.1 (g (b -(c+1)+1)).2.1 (hgs (b -(c+1))) this
 have h1:=hall (b -a -1) (by omega) (by omega);have e:b -(b -a -1)=a+1:=by omega
 rw[e]at h1;have h2:=hneg _ (hgs a);simp only[Int.toNat_natCast]at h2;omega
theorem aeu{n N:Nat}{l:U Int}{done:U Bool}(hd:done.length=N)(hl:l.length<=4000000)(hr:∀k∈l,0<=k/\k<(N:Int))(hn:4000001<=n):
 ∃r,iq n l done=some (r,done)/\(r=false↔∀k∈l,done.getD k.toNat false=true):=by
 obtain⟨o,h1,h2⟩:=dK (step:=jH l) (λ i (v:Int×List Bool)=>v=((i:Int),done)/\i<=l.length/\∀k∈l.take i,done.getD k.toNat false=true)
  (λ o=>(o= .inl done/\∀k∈l,done.getD k.toNat false=true)\/∃i:Nat,o= .inr ((i:Int),done)/\∃k∈l,done.getD k.toNat false=false) l.length (λ k v h=>h.2.1) (by
  rintro i v ⟨rfl,hi,hall⟩;by_cases hlt:i<l.length
  .have hk:=hr l[i] (getElem_mem hlt);obtain⟨k,hk2⟩:=Int.eq_ofNat_of_zero_le hk.1;have hkN:k<done.length:=(by omega);have HT:done[k]=done.getD k false:=(by simp[List.getD,hkN]);have htk:l.take (i+1)=l.take i++[l[i]]:=(by rw[List.take_add_one,dU hlt];rfl);simp only[jH,show decide ((i:Int)<(l.length:Int))=true from by simp;omega,aj,bq hlt,af,aF,hk2,mE,aV hkN,aX hkN,HT];cases hdk:done.getD k false with
   |true=>
    refine .inl ⟨_,by simp only[Bool.not_true,ak];rfl,by rw[bQ (by omega)],hlt,λz hz=>?_⟩;rw[htk,bn]at hz;rcases hz with hz |hz
    .exact hall z hz
    .simp only[aR]at hz;rw[hz,hk2];simpa using hdk
   |false=>exact .inr ⟨_,by simp only[Bool.not_false,aj,Option.map_some],.inr ⟨i,rfl,l[i],getElem_mem hlt,by rw[hk2];simpa using hdk⟩⟩
  .refine .inr ⟨.inl done,?_,.inl ⟨rfl,by rw[take_of_length_le (by omega)]at hall;exact hall⟩⟩;simp only[jH,show decide ((i:Int)<(l.length:Int))=false from by simp;omega,ak,aF,aj]) n 0 ((0:Int),done) ⟨rfl,Nat.zero_le _,by simp⟩ (by omega)
 rcases h2 with ⟨rfl,h2⟩ |⟨i,rfl,k,hk,hkd⟩
 .exact⟨false,by simp[iq,mO,h1],λ_=>h2,λ_=>rfl⟩
 .refine⟨true,by simp[iq,mO,h1],λh=>(by cases h),λh=>?_⟩;rw[h k hk]at hkd;cases hkd
def L2(us:U (List Int))(N:Nat)(done:U Bool)(i:Nat)(w:Int):Prop:=
 (w= -1/\∀j,j<i->¬(done.getD j false=false/\∀k∈us.getD j [],done.getD k.toNat false=true))\/∃j:Nat,w=(j:Int)/\j<i/\done.getD j false=false
theorem amg{n N:Nat}{a0:pF}{done:U Bool}(hg:YV a0.uses N)(hd:a0.defs.length=N)(hl:done.length=N)(hn:4000002<=n):∃w,iter (iJ n a0) n ((-1:Int),(0:Int),done)=some (w,done)/\L2 a0.uses N done N w:=by
 have hN:=hg.2.1;have Fk:=hg.1;obtain⟨o,h1,w,rfl,h2⟩:=dK (step:=iJ n a0) (λ i (v:Int×Int×List Bool)=>∃w,v=(w,(i:Int),done)/\i<=N/\L2 a0.uses N done i w) (λ o=>∃w,o=(w,done)/\L2 a0.uses N done N w) N (λ k v ⟨_,_,h,_⟩=>h) (by
  rintro i v ⟨w,rfl,hi,hw⟩;by_cases hlt:i<N
  .left;have hiu:i<a0.uses.length:=(by omega);have hid:i<a0.defs.length:=(by omega);have hib:i<done.length:=(by omega);have hl2:=hg.2.2 a0.uses[i] (getElem_mem hiu);obtain⟨r,hr1,hr2⟩:=aeu (n:=n) hl hl2.1 hl2.2 (by omega);have hgi:a0.uses.getD i []=a0.uses[i]:=(by simp[List.getD,hiu]);have hdi:done[i]=done.getD i false:=(by simp[List.getD,hib]);simp only[iJ,show decide ((i:Int)<(a0.uses.length:Int))=true from by simp;omega,aj,bq hiu,af,aF,hr1,aV hib,aX hib,hdi,aM i];have keep:(done.getD i false=true\/r=true)->L2 a0.uses N done (i+1) w:=by
    intro hno;rcases hw with ⟨rfl,hw⟩ |⟨j,rfl,hj,hw⟩
    .refine .inl ⟨rfl,λj hj h=>?_⟩;by_cases e:j=i
     .subst e;rw[hgi]at h;rcases hno with h3 |h3
      .rw[h3]at h;exact absurd h.1 (by simp)
      .have:=hr2.2 h.2;rw[h3]at this;cases this
     .exact hw j (by omega) h
    .exact .inr ⟨j,rfl,by omega,hw⟩
   cases hdn:done.getD i false with
   |true=>exact⟨_,by simp only[Bool.not_true,ak,af],w,rfl,hlt,keep (.inl hdn)⟩
   |false=>
    cases r with
    |true=>exact⟨_,by simp only[Bool.not_false,Bool.not_true,aj,ak,af],w,rfl,hlt,keep (.inr rfl)⟩
    |false=>
     have an:L2 a0.uses N done (i+1) i:= .inr ⟨i,rfl,by omega,hdn⟩;rcases hw with ⟨rfl,hw⟩ |⟨j,rfl,hj,hw⟩
     .exact⟨_,by simp only[Bool.not_false,aj,show decide ((-1:Int)<0)=true from rfl,af],_,rfl,hlt,an⟩
     .have hjd:j<a0.defs.length:=(by omega);simp only[Bool.not_false,aj,show decide ((j:Int)<0)=false from by simp,ak,bq hid,bq hjd,af];cases Vx a0.defs[i].name a0.defs[j].name with
      |true=>exact⟨_,rfl,_,rfl,hlt,an⟩
      |false=>exact⟨_,rfl,_,rfl,hlt,.inr ⟨j,rfl,by omega,hw⟩⟩
  .right;have hiN:i=N:=(by omega);refine⟨(w,done),?_,w,rfl,hiN ▸ hw⟩;simp only[iJ,show decide ((i:Int)<(a0.uses.length:Int))=false from by simp;omega,ak,aF,aj]) n 0 ((-1:Int),(0:Int),done) ⟨_,rfl,Nat.zero_le _,.inl ⟨rfl,λj hj=>absurd hj (Nat.not_lt_zero _)⟩⟩ (by omega)
 exact⟨w,h1,h2⟩
theorem amh{n N:Nat}{a0:pF}(hg:YV a0.uses N)(hd:a0.defs.length=N)(hf:∀j,j<N->tf a0.uses N j)(hn:4000002<=n):∃l,nK n a0=some l/\l.length=N/\∀k∈l,0<=k/\k<(N:Int):=by
 have hN:=hg.2.1;have hmx:maxLen=9223372036854775807:=rfl
 obtain⟨o,h1,h2⟩:=dK (step:=kJ n a0) (λ c (v:Int×List Int×List Bool)=>∃ab done,v=((c:Int),ab,done)/\c<=N/\ab.length=c/\(∀ k∈ab,0<=k/\k<(N:Int))/\done.length=N/\done.count false=N -c)
  (λ o=>o.length=N/\∀k∈o,0<=k/\k<(N:Int)) N (λ k v ⟨_,_,_,h,_⟩=>h) (by
  rintro c v ⟨ab,done,rfl,hc,hol,hor,hdl,hcf⟩;by_cases hlt:c<N
  .left;have⟨w,hw1,hw2⟩:=amg (n:=n) hg hd hdl hn;have hopen:∃i0,i0<N/\done.getD i0 false=false:=by
    have hm:false∈done:=List.count_pos_iff.1 (by omega);obtain⟨i0,h0,e⟩:=mem_iff_getElem.1 hm;exact⟨i0,by omega,by simp[List.getD,h0,e]⟩
   obtain⟨i0,h0,h0d⟩:=hopen;obtain⟨i,hi,hid,hia⟩:=aok hg hf (λ j=>done.getD j false=true) h0 (by rw[h0d];simp);rcases hw2 with ⟨rfl,hw2⟩ |⟨j,rfl,hj,hjd⟩
   .exact absurd ⟨Bool.eq_false_iff.2 hid,hia⟩ (hw2 i hi)
   .have hjl:j<done.length:=(by omega);have hap:bP ab.length ab.length (sub [(j:Int)] 0 1).length 1 8=true:=(by simp[bP,sub];omega);have hset:(done.set j true).length=done.length:=(by simp);refine⟨(((c+1:Nat):Int),ab++[(j:Int)],done.set j true),?_,_,_,rfl,hlt,by simp[hol],?_,by simp[hdl],?_⟩
    .simp only[kJ,show decide ((c:Int)<(a0.defs.length:Int))=true from by simp;omega,aj,aF,hw1,af,aV hjl,aX hjl,hap,dS,aM c,show(((0:Nat):Int)+(j:Int)).toNat=j by omega,Ey hset.symm];simp[sub]
    .intro k hk;rw[bn]at hk;rcases hk with hk |hk
     .exact hor k hk
     .simp at hk;subst hk;omega
    .have hjf:done[j]=false:=(by simpa[List.getD,hjl]using hjd);rw[List.count_set hjl,hcf,hjf];simp;omega
  .right;have:c=N:=(by omega);refine⟨ab,?_,by omega,hor⟩;simp only[kJ,show decide ((c:Int)<(a0.defs.length:Int))=false from by simp;omega,ak,aF,aj]) n 0 ((0:Int),[],List.replicate N false) ⟨[],_,rfl,Nat.zero_le _,rfl,by simp,by simp,by simp⟩ (by omega)
 refine⟨o,?_,h2⟩;have hmk:xK (N:Int) 1=true:=by simp[xK];omega
 simp only[nK,hd,Int.le_refl,decide_true,Bool.true_and,show decide ((0:Int)<=(N:Int))=true from by simp,hmk,aj,Int.toNat_natCast,h1,af,bZ,aF];simp[aE]
def pg(ab:U aP)(s:aP):U aP:=
 match ab.getLast? with
 |some q=>bif decide (s.from_<=q.to)then ab.dropLast++[⟨q.from_,max q.to s.to⟩]else ab++[s]
 |none=>[s]
theorem WZ(ab:U aP)(s:aP):(pg ab s).length<=ab.length+1:=by
 unfold pg;cases ab.getLast? with
 |none=>simp
 |some q=>simp only;cases decide (s.from_<=q.to)<;>simp<;>omega
theorem agY(o:U aP)(q s:aP):pg (o++[q]) s=bif decide (s.from_<=q.to)then o++[⟨q.from_,max q.to s.to⟩]else o++[q]++[s]:=by simp[pg]
abbrev E0(s:aP):Prop:=s.from_<s.to
def ix(l:U aP)(y:Int):Bool:=l.any λs=>decide (s.from_<=y)&&decide (y<s.to)
def Can(l:U aP):Prop:=l.Pairwise (λ a b=>a.to<b.from_)/\∀s∈l,E0 s
theorem Om(l:U aP)(y:Int):ix l y=true↔∃s∈l,s.from_<=y/\y<s.to:=by simp[ix]
theorem E5(l m:U aP)(y:Int):ix (l++m) y=(ix l y || ix m y):=by simp[ix]
theorem Ko(y:Int):ix [] y=false:=rfl
theorem ow(s:aP)(l:U aP)(y:Int):ix (s::l) y=((decide (s.from_<=y)&&decide (y<s.to)) || ix l y):=by simp[ix]
theorem aev{l m:U aP}(h:l.Perm m)(y:Int):ix l y=ix m y:=by
 rw[iY,Om,Om];exact⟨λ ⟨s,hs,h1⟩=>⟨s,h.mem_iff.1 hs,h1⟩,λ⟨s,hs,h1⟩=>⟨s,h.mem_iff.2 hs,h1⟩⟩
theorem aiX:Can []:=⟨List.Pairwise.nil,by simp⟩
theorem ami{ab:U aP}{s:aP}(hc:Can ab)(hs:E0 s)(hb:∀o∈ab,o.from_<=s.from_):
 Can (pg ab s)/\(∀ o∈pg ab s,o.from_<=s.from_)/\∀y,ix (pg ab s) y=(ix ab y || ix [s] y):=by
 rcases List.eq_nil_or_concat ab with rfl |⟨o,q,rfl⟩
 .refine⟨⟨by simp[pg],by simp[pg];exact hs⟩,by simp[pg],λy=>by simp[pg,ix]⟩
 .rw[List.concat_eq_append]at*;obtain⟨h1,h2⟩:=hc;rw[pairwise_append]at h1;obtain⟨p1,_,p3⟩:=h1;have hq:E0 q:=h2 q (by simp);have hqs:q.from_<=s.from_:=hb q (by simp);rw[agY];by_cases hj:s.from_<=q.to
  .simp only[hj,decide_true,aj];refine⟨⟨?_,?_⟩,?_,?_⟩
   .rw[pairwise_append];refine⟨p1,by simp,λa ha b hb'=>?_⟩;rw[aR]at hb';subst hb';exact p3 a ha q (by simp)
   .intro a ha;rcases bn.1 ha with ha |ha
    .exact h2 a (by simp[ha])
    .rw[aR]at ha;subst ha;show q.from_<max q.to s.to;have:q.from_<q.to:=hq;omega
   .intro a ha;rcases bn.1 ha with ha |ha
    .exact hb a (by simp[ha])
    .rw[aR]at ha;subst ha;exact hqs
   .intro y;rw[E5,E5,Bool.or_assoc];congr 1;simp only[ow,Ko,Bool.or_false];rw[iY];simp only[aN,Bool.or_eq_true,aW];have:q.from_<q.to:=hq;have:s.from_<s.to:=hs;omega
  .simp only[hj,decide_false,ak];refine⟨⟨?_,?_⟩,?_,?_⟩
   .rw[pairwise_append];refine⟨?_,by simp,λa ha b hb'=>?_⟩
    .rw[pairwise_append];exact⟨p1,by simp,p3⟩
    .rw[aR]at hb';subst hb';rcases bn.1 ha with ha |ha
     .have:=p3 a ha q (by simp);have:q.from_<q.to:=hq;omega
     .rw[aR]at ha;subst ha;omega
   .intro a ha;rcases bn.1 ha with ha |ha
    .exact h2 a ha
    .rw[aR]at ha;subst ha;exact hs
   .intro a ha;rcases bn.1 ha with ha |ha
    .exact hb a ha
    .rw[aR]at ha;subst ha;exact Int.le_refl _
   .intro y;rw[E5]
theorem Qo:∀(l ab:U aP),Can ab->(∀ s∈l,E0 s)->l.Pairwise (λ x y=>x.from_<=y.from_)->(∀ o∈ab,∀s∈l,o.from_<=s.from_)->Can (l.foldl pg ab)/\∀y,ix (l.foldl pg ab) y=(ix ab y || ix l y)
 |[],ab,hc,_,_,_=>⟨hc,λy=>by simp[Ko]⟩
 |s::l,ab,hc,hv,hp,hb=>by
  rw[pairwise_cons]at hp;obtain⟨m1,m2,m3⟩:=ami hc (hv s (by simp)) (λ o ho=>hb o ho s (by simp));obtain⟨f1,f2⟩:=Qo l (pg ab s) m1 (λ t ht=>hv t (by simp[ht])) hp.2 (λ o ho t ht=>Int.le_trans (m2 o ho) (hp.1 t ht));refine⟨f1,λy=>?_⟩;rw[foldl_cons,f2,m3,Bool.or_assoc,<- E5];rfl
theorem aew{a:aP}{l:U aP}(h:Can (a::l)):Can l:=⟨(pairwise_cons.1 h.1).2,λs hs=>h.2 s (by simp[hs])⟩
theorem Kq{a:aP}{l:U aP}(h:Can (a::l)){y:Int}(hy:ix l y=true):a.to<y:=by
 obtain⟨s,hs,h1,_⟩:=(Om _ _).1 hy;have:=(pairwise_cons.1 h.1).1 s hs;omega
theorem aaB{a:aP}{l:U aP}(h:Can (a::l)){y:Int}(hy:ix (a::l) y=true):a.from_<=y:=by
 rw[ow,Bool.or_eq_true]at hy;rcases hy with hy |hy
 .simp only[aN,aW]at hy;exact hy.1
 .have:=Kq h hy;have:a.from_<a.to:=h.2 a (by simp);omega
theorem W9:∀{l m:U aP},Can l->Can m->(∀ y,ix l y=ix m y)->l=m
 |[],[],_,_,_=>rfl
 |[],b::m,_,hm,h=>by
  have:=h b.from_;have hb:b.from_<b.to:=hm.2 b (by simp);rw[Ko,ow]at this;simp[hb]at this
 |a::l,[],hl,_,h=>by
  have:=h a.from_;have ha:a.from_<a.to:=hl.2 a (by simp);rw[Ko,ow]at this;simp[ha]at this
 |a::l,b::m,hl,hm,h=>by
  have ha:a.from_<a.to:=hl.2 a (by simp);have hb:b.from_<b.to:=hm.2 b (by simp);have ina:ix (a::l) a.from_=true:=by rw[ow];simp[ha]
  have R1:ix (b::m) b.from_=true:=by rw[ow];simp[hb]
  have e1:a.from_=b.from_:=by
   have h1:=aaB hm (by rw[<- h];exact ina);have h2:=aaB hl (by rw[h];exact R1);omega
  have nl:∀(c:aP)(k:U aP),Can (c::k)->ix (c::k) c.to=false:=by
   intro c k hk;cases hc:ix (c::k) c.to with
   |false=>rfl
   |true=>
    rw[ow,Bool.or_eq_true]at hc;rcases hc with hc |hc
    .simp at hc
    .have:=Kq hk hc;omega
  have e2:a.to=b.to:=by
   rcases Int.lt_trichotomy a.to b.to with hlt |he |hlt
   .have h1:=nl a l hl;rw[h,ow]at h1;simp only[Bool.or_eq_false_iff,Bool.and_eq_false_iff,dL]at h1;omega
   .exact he
   .have h1:=nl b m hm;rw[<- h,ow]at h1;simp only[Bool.or_eq_false_iff,Bool.and_eq_false_iff,dL]at h1;omega
  have e:a=b:=by cases a;cases b;simp only at e1 e2;rw[e1,e2]
  subst e;rw[W9 (aew hl) (aew hm) λy=>?_];have hy:=h y;rw[ow,ow]at hy;cases h1:ix l y with
  |true=>
   have:=Kq hl h1;have z:(decide (a.from_<=y)&&decide (y<a.to))=false:=(by rw[Bool.and_eq_false_iff,dL,dL];omega);rw[z,h1,Bool.false_or,Bool.false_or]at hy;rw[<- hy]
  |false=>
   cases h2:ix m y with
   |false=>rfl
   |true=>
    have:=Kq hm h2;have z:(decide (a.from_<=y)&&decide (y<a.to))=false:=(by rw[Bool.and_eq_false_iff,dL,dL];omega);rw[z,h1,h2]at hy;simp at hy
def DP(l:U aP):U aP:=(ku s6 l).foldl pg []
theorem amj{l:U aP}(h:l.Pairwise λx y=>s6 y x=false):l.Pairwise λx y=>x.from_<=y.from_:=
 h.imp λ{x y} hxy=>by simp only[s6,dL]at hxy;omega
theorem aaC{l:U aP}(h:∀s∈l,E0 s):Can (DP l)/\∀y,ix (DP l) y=ix l y:=by
 have hp:=EC s6 l;obtain⟨h1,h2⟩:=Qo (ku s6 l) [] aiX (λ s hs=>h s (hp.mem_iff.1 hs)) (amj (alP Ol l)) (by simp);exact⟨h1,λy=>by rw[DP,h2,Ko,Bool.false_or,aev hp]⟩
theorem akj{l:U aP}(h:∀s∈l,E0 s):(lH s6 l).foldl pg []=DP l:=by
 have hp:=LX Ol l;obtain⟨h1,h2⟩:=Qo (lH s6 l) [] aiX (λ s hs=>h s (hp.mem_iff.1 hs)) (amj (EA Ol l)) (by simp);have⟨h3,h4⟩:=aaC h;exact W9 h1 h3 λy=>by rw[h2,Ko,Bool.false_or,aev hp,h4]
theorem aex(l:U aP):(DP l).length<=l.length:=by
 have:∀(ys ab:U aP),(ys.foldl pg ab).length<=ab.length+ys.length:=by
  intro ys
  induction ys with
  |nil=>intro ab;simp
  |cons y ys ih=>
   intro ab;simp only[foldl_cons,bG];have:=ih (pg ab y);have:=WZ ab y;omega
 have h:=this (ku s6 l) [];rw[eY]at h;simpa[DP]using h
abbrev ey(r:aA):Bool:=decide (0<=r.x0)&&(decide (r.x0<r.x1)&&(decide (r.x1<=1048576)&&(decide (0<=r.y0)&&(decide (r.y0<r.y1)&&decide (r.y1<=1048576)))))
theorem P3(a b:Bool):(bif a then some b else some false)=some (a&&b):=by cases a<;>rfl
theorem iy(r:aA):nL r=some (ey r):=by simp only[nL,P3]
def jV(l:U aA)(x:Int):U aP:=(l.filter λr=>decide (r.x0<=x)&&decide (x<r.x1)).map λr=>⟨r.y0,r.y1⟩
def dI(l:U aA)(x:Int):U aP:=DP (jV l x)
theorem IY(l:U aA)(x:Int):(jV l x).length<=l.length:=by simp only[jV,length_map];exact length_filter_le _ _
theorem ze(l:U aA)(x:Int):(dI l x).length<=l.length:=
 Nat.le_trans (aex _) (IY l x)
theorem aqg{r:aA}(h:ey r=true):r.y0<r.y1:=by simp only[ey,aN,aW]at h;omega
theorem Xa{l:U aA}(h:∀r∈l,ey r=true)(x:Int):∀s∈jV l x,E0 s:=by
 intro s hs;simp only[jV,mem_map,mem_filter]at hs;obtain⟨r,⟨hr,_⟩,rfl⟩:=hs;exact aqg (h r hr)
theorem Qp{l:U aA}{x:Int}(hl:l.length<1099511627776){n:Nat}(hn:l.length<n):iter (tT l x) n ((0:Int),([]:U aP))=some (jV l x):=by
 have:=fC (l:=l) (step:=tT l x) (λ i (s:List aP)=>((i:Int),s)) (λ r s=>bif decide (r.x0<=x)&&decide (x<r.x1)then s++[⟨r.y0,r.y1⟩]else s) (λ s=>s) (λ i s=>s.length<=i)
  (λ i hi s hs=>?_) (λ s hs=>by simp[tT]) n hn [] (aG _)
 .rw[show ((0:Nat):Int)=0 from rfl]at this;rw[this];congr 1;have gen:∀(ys:U aA)(s:U aP),ys.foldl (λ s r=>bif decide (r.x0<=x)&&decide (x<r.x1)then s++[⟨r.y0,r.y1⟩]else s) s=s++jV ys x:=by
   intro ys
   induction ys with
   |nil=>intro s;simp[jV]
   |cons y ys ih=>
    intro s;simp only[foldl_cons,ih];cases h:(decide (y.x0<=x)&&decide (x<y.x1))with
    |true=>simp[jV,h]
    |false=>simp[jV,h]
  simpa using gen l []
 .have hi':decide ((i:Int)<(l.length:Int))=true:=by simpa using hi
  have ap:bP s.length s.length (sub ([(aP.mk l[i].y0 l[i].y1)]:U aP) 0 1).length 1 16=true:=dm (n:=1);simp only[tT,hi',aj,bq hi,af,P3];cases h:(decide (l[i].x0<=x)&&decide (x<l[i].x1))with
  |true=>
   simp only[aj,ap,dS,aF,af];refine⟨?_,by simp;omega⟩;rw[bQ (by omega)];rfl
  |false=>
   simp only[ak,aF,aj,af];exact⟨by rw[bQ (by omega)],by omega⟩
theorem Qq(w1 r2:U aP)(hw:w1.length=r2.length)(hl:r2.length<1099511627776)(hn:r2.length<n):iter (tV w1 r2) n ((0:Int),([]:U aP))=some (r2.foldl pg []):=by
 have:=fC (l:=r2) (step:=tV w1 r2) (λ i (s:List aP)=>((i:Int),s)) (λ r s=>pg s r) (λ s=>s) (λ i s=>s.length<=i)
  (λ i hi s hs=>?_) (λ s hs=>by simp[tV,hw]) n hn [] (aG _)
 .rw[show ((0:Nat):Int)=0 from rfl]at this;exact this
 .refine⟨?_,by have:=WZ s r2[i];omega⟩;have hi':decide ((i:Int)<(w1.length:Int))=true:=by simp;omega
  have ib:cN (i:Int) w1.length=true:=aV (by omega);have ap:bP s.length s.length (sub ([r2[i]]:U aP) 0 1).length 1 16=true:=dm (n:=1);simp only[tV,hi',aj,ib,aX hi,af];rcases List.eq_nil_or_concat s with rfl |⟨s0,q,HJ⟩
  .have d0:decide (((([]:U aP).length:Nat):Int)>0)=false:=(by simp);simp only[d0,ak,af,ap,aj,dS,aF];rw[bQ (by omega)];rfl
  .rw[List.concat_eq_append]at HJ;subst HJ;have d0:decide (((((s0++[q]).length:Nat):Int))>0)=true:=(by simp<;>omega);have A2:(s0++[q]).length=s0.length+1:=(by simp);have wp:i64.wrap ((((s0++[q]).length:Nat):Int) -1)=(s0.length:Int):=(by rw[mX (by simp) (by omega),A2];rfl);have R2:cN (s0.length:Int) (s0++[q]).length=true:=aV (by omega);have g:bo (s0++[q]) (((0:Nat):Int)+(s0.length:Int))=some q:=(by rw[Ew];simp);have z:(((0:Nat):Int)+(s0.length:Int)).toNat=s0.length:=(by simp);have st:(s0++[q]).set s0.length (aP.mk q.from_ (max q.to r2[i].to))=s0++[⟨q.from_,max q.to r2[i].to⟩]:=(by simp);have m:pg (s0++[q]) r2[i]=bif decide (r2[i].from_<=q.to)then s0++[⟨q.from_,max q.to r2[i].to⟩]else s0++[q]++[r2[i]]:=(by simp[pg]);simp only[d0,aj,wp,R2,g,af,m,z,st];cases decide (r2[i].from_<=q.to)with
   |true=>
    have e:aE (s0++[q]).length (s0++[(⟨q.from_,max q.to r2[i].to⟩:aP)]).length=true:=(by simp);simp only[aj,e,af,aF];rw[bQ (by omega)]
   |false=>
    simp only[ak,ap,aj,dS,aF,af];rw[bQ (by omega)];rfl
theorem ab2{l:U aA}{x:Int}(hv:∀r∈l,ey r=true)(hl:l.length<1099511627776)(hn:l.length<n):Ke n l x=some (dI l x):=by
 have h1:=IY l x;have h2:(lH s6 (jV l x)).length=(jV l x).length:=xN Ol _;unfold Ke;simp only[length_nil,aF,aj,Qp (x:=x) (l:=l) (by omega) (n:=n) (by omega),af];rw[KE (λ a b=>if a.from_<b.from_ then -1 else if b.from_<a.from_ then 1 else 0) (λ a b=>by show xQ a b=_;unfold xQ;rw[kI];rfl) (λ a b=>by
  by_cases h1:a.from_<b.from_
  .simp[h1]
  .by_cases h2:b.from_<a.from_<;>simp[h1,h2]) (by omega) (by omega)]
 simp only[af];rw[Qq _ _ h2.symm (by omega) (by omega)];simp only[af,bZ,aF,aj];rw[akj (Xa hv x)];rfl
def gX(l:U aA):U Int:=GM (l.flatMap λr=>[r.x0,r.x1])
def jc{α:Type}(f:Int->Int->α):U Int->U α
 |a::b::l=>f a b::jc f (b::l)
 |_=>[]
def bE(l:U aA):U cB:=jc (λ a b=>⟨a,b,dI l a⟩) (gX l)
theorem rW{α:Type}(f:Int->Int->α):∀(l:U Int),(jc f l).length=l.length -1/\∀i (h:i+1<l.length) (h':i<(jc f l).length),(jc f l)[i]=f l[i] l[i+1]
 |[]=>⟨rfl,λi h=>by simp at h⟩
 |[a]=>⟨rfl,λi h=>by simp at h⟩
 |a::b::l=>by
  have⟨h1,h2⟩:=rW f (b::l);refine⟨by simp only[jc,bG,h1];simp,λi h h'=>?_⟩;cases i with
  |zero=>rfl
  |succ i=>
   simp only[jc,List.getElem_cons_succ];exact h2 i (by simpa using h) _
theorem wS(l:U aA):(l.flatMap λr=>[r.x0,r.x1]).length=2*l.length:=by
 induction l with
 |nil=>rfl
 |cons x l ih=>simp only[List.flatMap_cons,dP,ih,bG,length_nil];omega
theorem rG(l:U Int):(gJ l).length<=l.length:=by
 match l with
 |[]=>simp[gJ]
 |[x]=>simp[gJ]
 |x::y::l=>
  have:=rG (y::l);simp only[gJ];cases x==y<;>simp at* <;>omega
theorem Lr(l:U aA):(gX l).length<=2*l.length:=by
 have h:=rG (ku (λ a b=>decide (a<b)) (l.flatMap λr=>[r.x0,r.x1]));rw[eY,wS]at h;exact h
theorem Qr{l:U aA}(hl:l.length<10995116277)(hn:l.length<n):iter (tX l) n ((0:Int),([]:U Int))=some (l.flatMap λr=>[r.x0,r.x1]):=by
 have:=fC (l:=l) (step:=tX l) (λ i (s:List Int)=>((i:Int),s)) (λ r s=>s++[r.x0,r.x1]) (λ s=>s) (λ i s=>s.length<=2*i)
  (λ i hi s hs=>?_) (λ s hs=>by simp[tX]) n hn [] (aG _)
 .rw[show ((0:Nat):Int)=0 from rfl]at this;rw[this];have gen:∀(ys:U aA)(s:U Int),ys.foldl (λ s r=>s++[r.x0,r.x1]) s=s++ys.flatMap λr=>[r.x0,r.x1]:=by
   intro ys
   induction ys with
   |nil=>intro s;simp
   |cons y ys ih=>intro s;simp[ih]
  congr 1;simpa using gen l []
 .have hi':decide ((i:Int)<(l.length:Int))=true:=by simpa using hi
  have ap:bP s.length s.length (sub ([l[i].x0,l[i].x1]:U Int) 0 2).length 2 8=true:=dm (n:=2);simp only[tX,hi',aj,aV hi,aX hi,af,ap,dS,aF];refine⟨?_,by simp;omega⟩;rw[bQ (by omega)];rfl
theorem yu{ls:U (List aA)}(hv:∀r∈ls.flatten,ey r=true)(hl:ls.flatten.length<10995116277)(hls:ls.length<1099511627776)(hn:2*ls.flatten.length<n)(hn2:ls.length<n):oJ n ls=some (bE ls.flatten):=by
 unfold oJ;rw[Oj (by omega) hls hn2];generalize ls.flatten=l at*;have he:=Lr l;simp only[af,length_nil,aF,aj,Qr (l:=l) (n:=n) (by omega) (by omega)];rw[pM (by rw[wS];omega) (by rw[wS];omega)];simp only[af,eY,aF,aj];rw[uD (by rw[eY,wS];omega) (by rw[eY,wS];omega)];simp only[af];have hE:gJ (ku ox (l.flatMap λr=>[r.x0,r.x1]))=gX l:=rfl;rw[hE];obtain⟨p1,p2⟩:=rW (λ a b=>(⟨a,b,dI l a⟩:cB)) (gX l);have key:iter (tY n l ((),gX l)) n ((1:Int),([]:U cB))=some (bE l):=by
  have:=mM (step:=tY n l ((),gX l)) (λ i=>(((i+1:Nat):Int),(bE l).take i)) (bE l).length (bE l) (λ i hi=>?_) ?_ n (by unfold bE;omega)
  .simpa using this
  .have hi2:i+1<(gX l).length:=(by unfold bE at hi;omega);have d:decide (((i+1:Nat):Int)<(((gX l).length:Nat):Int))=true:=(by simp;omega);have wp:i64.wrap (((i+1:Nat):Int) -1)=(i:Int):=(by rw[mX (by omega) (by omega)];rfl);have ap:bP ((bE l).take i).length ((bE l).take i).length (sub ([(cB.mk ((gX l)[i]'(by omega)) (gX l)[i+1] (dI l ((gX l)[i]'(by omega))))]:U cB) 0 1).length 1 40=true:=by
    refine dm (n:=1) ?_ ?_
    .rw[length_take];unfold bE;omega
    .rw[length_take];unfold bE;simp only[maxLen];omega
   have tk:(bE l).take (i+1)=(bE l).take i++[⟨(gX l)[i]'(by omega),(gX l)[i+1],dI l ((gX l)[i]'(by omega))⟩]:=by
    rw[je hi];congr 2;exact p2 i hi2 hi
   simp only[tY,d,aj,wp,aV (show i<(gX l).length by omega),aX (show i<(gX l).length by omega),af,aV hi2,aX hi2,bZ,aF,ab2 (l:=l) (n:=n) hv (by omega) (by omega),ap,dS];rw[bQ (by omega),tk];rfl
  .have d:decide ((((bE l).length+1:Nat):Int)<(((gX l).length:Nat):Int))=false:=(by unfold bE;simp;omega);simp only[tY,d,ak,List.take_length,aF,aj]
 rw[key];simp only[af,bZ,aF,aj]
def E8(x0 x1:Int)(c:U aP):U aA:=c.map λq=>⟨x0,q.from_,x1,q.to⟩
def D2(x0 x1:Int)(c:U aP):U cB->U aA
 |[]=>E8 x0 x1 c
 |s::l=>if s.column=c then D2 x0 s.x1 c l else E8 x0 x1 c++D2 s.x0 s.x1 s.column l
def nS:U cB->U aA
 |[]=>[]
 |s::l=>D2 s.x0 s.x1 s.column l
theorem aaD(x0:Int)(c:U aP):∀(l:U cB)(x1:Int)(k:Nat)(hk:k<=l.length),(∀ j (hj:j<k),(l[j]'(by omega)).column=c)->(∀ h:k<l.length,l[k].column≠c)->
 D2 x0 x1 c l=E8 x0 (if h:0<k then(l[k -1]'(by omega)).x1 else x1) c++nS (l.drop k)
 |l,x1,0,_,_,h2=>by
  cases l with
  |nil=>simp[D2,nS]
  |cons s l=>
   have:=h2 (by simp);simp only[List.getElem_cons_zero]at this;simp[D2,nS,this]
 |[],x1,k+1,hk,_,_=>by simp at hk
 |s::l,x1,k+1,hk,h1,h2=>by
  have e0:=h1 0 (by omega);simp only[List.getElem_cons_zero]at e0;simp only[D2,e0,if_true];rw[aaD x0 c l s.x1 k (by simpa using hk) (λ j hj=>by have:=h1 (j+1) (by omega);simpa using this) (λ h=>by have:=h2 (by simpa using h);simpa using this)];simp only[List.drop_succ_cons];congr 2;by_cases hk0:0<k
  .simp only[hk0,dite_true,Nat.zero_lt_succ,Nat.add_sub_cancel];obtain⟨m,rfl⟩:∃m,k=m+1:=⟨k -1,by omega⟩;simp
  .have:k=0:=(by omega);subst this;simp
theorem SY{l:U cB}{i k:Nat}(hi:i<l.length)(hk1:0<k)(hk:k<=l.length)(hl:l.length<10995116277)(x3:cB)(ab:U aA)(ho:ab.length<1099511627776)(hc:x3.column.length<1099511627776)(hn:x3.column.length<n):
 iter (wG l (i:Int) (k:Int) x3) n ((0:Int),ab)=some (ab++E8 l[i].x0 (l[k -1]'(by omega)).x1 x3.column):=by
 have:=fC (l:=x3.column) (step:=wG l (i:Int) (k:Int) x3) (λ j (s:List aA)=>((j:Int),s)) (λ q s=>s++[⟨l[i].x0,q.from_,(l[k -1]'(by omega)).x1,q.to⟩]) (λ s=>s) (λ j s=>s.length<=ab.length+j)
  (λ j hj s hs=>?_) (λ s hs=>by simp[wG]) n hn ab (aG _)
 .rw[show ((0:Nat):Int)=0 from rfl]at this;rw[this];have gen:∀(ys:U aP)(s:U aA),ys.foldl (λ s q=>s++[⟨l[i].x0,q.from_,(l[k -1]'(by omega)).x1,q.to⟩]) s=s++E8 l[i].x0 (l[k -1]'(by omega)).x1 ys:=by
   intro ys
   induction ys with
   |nil=>intro s;simp[E8]
   |cons y ys ih=>intro s;simp only[foldl_cons,ih];simp[E8]
  rw[gen]
 .have hj':decide ((j:Int)<(x3.column.length:Int))=true:=by simpa using hj
  have wp:i64.wrap ((k:Int) -1)=((k -1:Nat):Int):=mX hk1 (by omega);have ap:bP s.length s.length (sub ([(aA.mk l[i].x0 (x3.column[j]).from_ (l[k -1]'(by omega)).x1 (x3.column[j]).to)]:U aA) 0 1).length 1 32=true:=dm (n:=1);simp only[wG,hj',aj,bq hj,bq hi,wp,bq (show k -1<l.length by omega),af,ap,dS,aF];refine⟨?_,by simp;omega⟩;rw[bQ (by omega)];rfl
theorem Sb{l:U cB}{b:Nat}(hb:b<=100000)(hl:l.length<=100000)(hc:∀s∈l,s.column.length<=b)(hn:b<n)(hn2:l.length<n):IE n l=some (nS l):=by
 unfold IE;simp only[length_nil,aF,aj];have main:∀(m i:Nat)(ab:U aA)(k:Nat),i+m=l.length->m<k->ab.length<=i*b->iter (wH n l) k ((i:Int),ab)=some (ab++nS (l.drop i)):=by
  intro m
  induction m using Nat.strongRecOn with
  |ind m ih=>
   intro i ab k him hk ho;obtain⟨k,rfl⟩:∃j,k=j+1:=⟨k -1,by omega⟩;by_cases hm:m=0
   .subst hm;have:i=l.length:=(by omega);subst this;refine fF ?_;simp[wH,nS]
   .have hi:i<l.length:=(by omega);have di:decide ((i:Int)<(l.length:Int))=true:=(by simpa using hi);obtain⟨q,hq1,hq2,hq3,hq4⟩:∃q,i<q/\q<=l.length/\(∀ j,i<j->j<q->∀h:j<l.length,l[j].column=l[i].column)/\(∀ h:q<l.length,l[q].column≠l[i].column):=by
     rcases Lj (λ j=>if h:j<l.length then decide (l[j].column≠l[i].column)else false) (i+1) l.length with ⟨q,h1,h2,h3,h4⟩ |h
     .simp only[h2,dite_true,aW]at h3;refine⟨q,by omega,by omega,λj hj1 hj2 hj=>?_,λ_=>h3⟩;have:=h4 j (by omega) hj2;simp only[hj,dite_true,dL,ne_eq,Decidable.not_not]at this;exact this
     .refine⟨l.length,hi,aG _,λj hj1 hj2 hj=>?_,λh=>by omega⟩;have:=h j (by omega) hj;simp only[hj,dite_true,dL,ne_eq,Decidable.not_not]at this;exact this
    have cl:∀j (hj:j<l.length),l[j].column.length<=b:=λj hj=>hc _ (getElem_mem hj);have r2:iter (sJ n l (i:Int)) n (i64.wrap ((i:Int)+1))=some (q:Int):=by
     rw[bQ (by omega)];have:=mM (step:=sJ n l (i:Int)) (λ j=>((i+1+j:Nat):Int)) (q -(i+1)) (q:Int) (λ j hj=>?_) ?_ n (by omega)
     .simpa using this
     .have hjl:i+1+j<l.length:=(by omega);have dj:decide (((i+1+j:Nat):Int)<(l.length:Int))=true:=(by simp;omega);have hcc:=cl (i+1+j) hjl;simp only[sJ,dj,aj,bq hjl,bq hi,af];rw[Di (by omega) (by omega),hq3 (i+1+j) (by omega) (by omega) hjl];simp only[decide_true,af,aj];rw[bQ (by omega)];rfl
     .rw[show i+1+(q -(i+1))=q by omega];by_cases zc:q<l.length
      .have dj:decide ((q:Int)<(l.length:Int))=true:=(by simpa using zc);have hcc:=cl q zc;simp only[sJ,dj,aj,bq zc,bq hi,af];rw[Di (by omega) (by omega)];simp[hq4 zc]
      .have dj:decide ((q:Int)<(l.length:Int))=false:=(by simp;omega);simp only[sJ,dj,ak,af]
    have ob:i*b<=100000*100000:=Nat.mul_le_mul (by omega) hb;have hci:=cl i hi;have r3:=SY (n:=n) hi (show 0<q by omega) hq2 (by omega) l[i] ab (by omega) (by omega) (by omega);have step:wH n l ((i:Int),ab)=some (.inl ((q:Int),ab++E8 l[i].x0 (l[q -1]'(by omega)).x1 l[i].column)):=(by simp only[wH,di,aj,r2,bq hi,af,aF,r3]);rw[ic step,ih (l.length -q) (by omega) q _ k (by omega) (by omega) (by
     rw[dP,E8,length_map];have:(i+1)*b<=q*b:=Nat.mul_le_mul_right _ (by omega);rw[Nat.add_mul]at this;omega)]
    rw[aO];congr 2
    conv=>rhs;rw[List.drop_eq_getElem_cons hi]
    simp only[nS];rw[aaD l[i].x0 l[i].column (l.drop (i+1)) l[i].x1 (q -(i+1)) (by rw[length_drop];omega) (λ j hj=>by
     rw[getElem_drop];exact hq3 _ (by omega) (by omega) (by omega)) (λ h=>by
     rw[length_drop]at h;rw[getElem_drop];have:=hq4 (by omega);have hqq:i+1+(q -(i+1))=q:=(by omega);simp only[hqq];exact this)]
    rw[List.drop_drop,show i+1+(q -(i+1))=q by omega];congr 2;by_cases h0:0<q -(i+1)
    .simp only[h0,dite_true,getElem_drop];congr 2;omega
    .simp only[h0,dite_false];have:q -1=i:=(by omega);congr 2
 have:=main l.length 0 [] n (by omega) (by omega) (by simp);simp only[Int.natCast_zero,bT,List.drop_zero]at this;rw[this];simp
def sf(l:U aA):U aA×Int:=
 if l.all ey then(if l.length>400 then([],6)else if (nS (bE l)).length>200 then([],6)else(nS (bE l),0))else([],1)
def c8(l:U aA):Bool:=decide ((sf l).2=0)&&decide ((sf l).1=l)
theorem aey{l:U aA}{s:cB}(h:s∈bE l):s.column.length<=l.length:=by
 obtain⟨i,hi,rfl⟩:=List.getElem_of_mem h;obtain⟨p1,p2⟩:=rW (λ a b=>(⟨a,b,dI l a⟩:cB)) (gX l);have:(bE l)[i]=⟨(gX l)[i]'(by unfold bE at hi;omega),(gX l)[i+1]'(by unfold bE at hi;omega),dI l ((gX l)[i]'(by unfold bE at hi;omega))⟩:=p2 i (by unfold bE at hi;omega) hi;rw[this];exact ze l _
theorem uE(l:U aA):(bE l).length<=2*l.length:=by
 obtain⟨p1,_⟩:=rW (λ a b=>(⟨a,b,dI l a⟩:cB)) (gX l);have:=Lr l;unfold bE;omega
theorem amk{l:U aA}(hl:l.length<1099511627776)(hl2:l.length<n)(hn:1000<=n):O2 n l=some (sf l):=by
 unfold O2;have h1:=sF (l:=l) (step:=NZ l) (λ i=>(i:Int)) (λ r=>!ey r) () (λ _=>(([]:U aA),(1:Int))) (λ i hi=>?_) ?_ n (by omega)
 .rw[show ((0:Nat):Int)=0 from rfl]at h1;rw[h1];have h2:=pY (λ r=>!ey r) l;cases hf:nY (λ r=>!ey r) l with
  |some i=>
   rw[hf]at h2;have:l.all ey=false:=by
    rw[<- Bool.not_eq_true,all_eq_true];intro hall;have h3:=h2.symm;simp only[Option.isSome_some,any_eq_true]at h3;obtain⟨x,hx,hx2⟩:=h3;rw[hall x hx]at hx2;cases hx2
   simp[sf,this]
  |none=>
   rw[hf]at h2;have:l.all ey=true:=by
    rw[all_eq_true];intro x hx;cases h:ey x with
    |true=>rfl
    |false=>
     have:l.any (λ r=>!ey r)=true:=any_eq_true.2 ⟨x,hx,by rw[h];rfl⟩;rw[this]at h2;cases h2
   have hv:∀r∈l,ey r=true:=all_eq_true.1 this;by_cases xr:l.length>400
   .have d4:decide ((l.length:Int)>400)=true:=(by simp;omega);simp only[eO,d4,aj,sf,this,if_true,aZ xr]
   have d4:decide ((l.length:Int)>400)=false:=(by simp;omega);have ls:=uE l;simp only[eO,d4,ak];have fl:[l].flatten=l:=(by simp);rw[show (sub ([l]:U (List aA)) 0 1)=[l]from rfl,yu (ls:=[l]) (by rw[fl];exact hv) (by rw[fl];omega) (by simp) (by rw[fl];omega) (by simp;omega),fl];simp only[length_singleton,aF,aj,af,bZ];rw[Sb (b:=400) (by omega) (by omega) (λ s hs=>Nat.le_trans (aey hs) (by omega)) (by omega) (by omega)];simp only[af,bZ,aF,aj,y5,sf,this,if_true,aT xr];by_cases rh:(nS (bE l)).length>200
   .have:decide (((nS (bE l)).length:Int)>200)=true:=(by simp;omega);simp only[this,aj,af,rh,if_true]
   .have:decide (((nS (bE l)).length:Int)>200)=false:=(by simp;omega);simp only[this,ak,af,rh,if_false]
 .have hi':decide ((i:Int)<(l.length:Int))=true:=by simpa using hi
  simp only[NZ,hi',aj,bq hi,af,iy];cases ey l[i]with
  |false=>rfl
  |true=>simp only[Bool.not_true,ak];rw[bQ (by omega)]
 .simp[NZ]
theorem l6{l:U aA}(hl:l.length<1099511627776)(hl2:l.length<n)(hn:1000<=n):og n l=some (c8 l):=by
 unfold og c8;rw[amk hl hl2 hn];simp only[af];by_cases h:(sf l).2=0
 .have e:((sf l).2==0)=true:=by simp[h]
  have lo:(sf l).1.length<=200:=by
   unfold sf;split
   .split
    .simp
    .split
     .simp
     .simp;omega
   .simp
  by_cases hlen:(sf l).1.length<n
  .simp only[e,aj,h,decide_true,Bool.true_and];rw[Dh (by omega) hlen];rfl
  .have:(sf l).1.length≠l.length:=(by omega);have hne:(sf l).1≠l:=λe=>this (by rw[e]);simp only[e,aj,h,decide_true,Bool.true_and];unfold oK;have hb:(((sf l).1.length:Int) !=(l.length:Int))=true:=(by simp;omega);rw[hb];simp[hne]
 .have e:((sf l).2==0)=false:=by simp[h]
  simp[e,h]
theorem Oo{α:Type}(c:Bool)(a b:α):(bif c then some a else some b)=some (bif c then a else b):=by cases c<;>rfl
theorem aaE(i n:Nat):Int.tmod (i:Int) (n:Int)=((i%n:Nat):Int):=by rw[Int.tmod_eq_emod_of_nonneg (by omega)];omega
theorem bO{i n:Nat}(h:i<n):decide ((i:Int)<(n:Int))=true:=by simpa using h
theorem bW(n:Nat):decide ((n:Int)<(n:Int))=false:=by simp
theorem ab3{k b:Nat}(h:k*b<=140737488355328)(h2:k<=maxLen):xK (k:Int) b=true:=by
 have e:((k:Int)).toNat=k:=by omega
 simp only[xK,aN,aW,e];exact⟨⟨by omega,h⟩,h2⟩
def pZ(p:U bV)(i:Nat):bV:=p.getD i ⟨0,0⟩
def jd(p:U bV)(i:Nat):jB:=⟨(pZ p i).x,(pZ p i).y,(pZ p ((i+1)%p.length)).x,(pZ p ((i+1)%p.length)).y⟩
def gB(p:U bV):U jB:=(List.range p.length).map (jd p)
theorem UH{p:U bV}{i:Nat}(h:i<p.length):pZ p i=p[i]:=by simp[pZ,h]
theorem eG(p:U bV):(gB p).length=p.length:=by simp[gB]
theorem zf{p:U bV}{i:Nat}(h:i<(gB p).length):(gB p)[i]=jd p i:=by simp[gB]
theorem aml{α:Type}(A B:U α)(z x:α):(A++z::B).set A.length x=A++x::B:=by rw[List.set_append_right _ _ (aG _),Nat.sub_self];rfl
theorem AU{p:U bV}(hl:p.length<=100000)(hn:p.length<n):pG n p=some (gB p):=by
 unfold pG;have mk:xK (p.length:Int) 32=true:=ab3 (by omega) (by show p.length<=2 ^ 63 -1;omega);have main:=mM (step:=oW p) (λ i=>((i:Int),(List.range i).map (jd p)++List.replicate (p.length -i) (jB.mk 0 0 0 0))) p.length (gB p) (λ i hi=>?_) ?_ n hn
 .have z:((p.length:Int)).toNat=p.length:=by omega
  simp only[List.range_zero,List.map_nil,bT,Nat.sub_zero]at main;have d1:decide ((p.length:Int)<=(p.length:Int))=true:=by simp
  have d2:decide ((0:Int)<=(p.length:Int))=true:=by simp
  rw[mk,d1,d2,z];simp only[Bool.and_self,aj];rw[show ((0:Nat):Int)=0 from rfl]at main;rw[main];simp only[af];have e:sub (gB p) 0 p.length=gB p:=by rw[<- eG p];exact bZ _
  rw[e,eG];simp
 .have nz:((p.length:Int) !=0)=true:=by simp;intro h;rw[h]at hi;simp at hi
  have md:(i+1)%p.length<p.length:=Nat.mod_lt _ (by omega);have w:i64.wrap ((i:Int)+1)=((i+1:Nat):Int):=bQ (by omega);have z:((p.length:Int)).toNat=p.length:=by omega
  have rp:List.replicate (p.length -i) (jB.mk 0 0 0 0)=jB.mk 0 0 0 0::List.replicate (p.length -(i+1)) (jB.mk 0 0 0 0):=by rw[show p.length -i=(p.length -(i+1))+1 by omega,List.replicate_succ]
  have la:((List.range i).map (jd p)).length=i:=by simp
  have g:bo ((List.range i).map (jd p)++List.replicate (p.length -i) (jB.mk 0 0 0 0)) (((0:Nat):Int)+(i:Int))=some (jB.mk 0 0 0 0):=by rw[Ew,jD (by omega),la,rp,Nat.sub_self];rfl
  have z2:(((0:Nat):Int)+(i:Int)).toNat=i:=by omega
  have st:((List.range i).map (jd p)++List.replicate (p.length -i) (jB.mk 0 0 0 0)).set i (jd p i)=(List.range (i+1)).map (jd p)++List.replicate (p.length -(i+1)) (jB.mk 0 0 0 0):=by
   rw[rp];have:=aml ((List.range i).map (jd p)) (List.replicate (p.length -(i+1)) (jB.mk 0 0 0 0)) (jB.mk 0 0 0 0) (jd p i);rw[la]at this;rw[this,List.range_succ,map_append,aO];rfl
  simp only[oW,bO hi,aj,bq hi,af,nz,w,aaE,bq md,z,aV hi,g,z2];rw[<- UH hi,<- UH md];rw[show jB.mk (pZ p i).x (pZ p i).y (pZ p ((i+1)%p.length)).x (pZ p ((i+1)%p.length)).y=jd p i from rfl,st]
 .simp only[oW,bW,ak,Nat.sub_self,List.replicate_zero,append_nil];rfl
def UI(a:bV):Bool:=decide (0<=a.x)&&(decide (a.x<=1048576)&&(decide (0<=a.y)&&decide (a.y<=1048576)))
def ut(s:jB):Bool:=s.mi==s.mA
def P2(s t:jB):Bool:=decide (max (min s.mi s.mA) (min t.mi t.mA)<=min (max s.mi s.mA) (max t.mi t.mA))&&decide (max (min s.pS s.ue) (min t.pS t.ue)<=min (max s.pS s.ue) (max t.pS t.ue))
def UJ(a b:bV):Bool:=decide (a.x<b.x) || (a.x==b.x&&decide (a.y<b.y))
theorem Oq(a:bV):tN a=some (UI a):=by simp only[tN,P3,UI]
theorem Dj(s t:jB):lK s t=some (P2 s t):=by simp only[lK,P3,P2]
theorem ni(s:jB):gK s=some (ut s):=rfl
theorem Xb(a b:Int)(hn:3<=n):rQ n [a,b]=some (if a=0 then b else a):=by
 obtain⟨m,rfl⟩:∃m,n=m+3:=⟨n -3,by omega⟩;have w1:i64.wrap ((0:Int)+1)=1:=by decide
 have w2:i64.wrap ((1:Int)+1)=2:=by decide
 by_cases ha:a=0
 .by_cases hb:b=0
  .subst ha;subst hb;simp only[rQ,CY,vJ,w1,w2];rfl
  .have hb':(b !=0)=true:=(by simpa using hb);subst ha;simp only[rQ,CY,vJ,w1];simp[bo,hb',dH]
 .have ha':(a !=0)=true:=by simpa using ha
  simp only[rQ,CY,vJ];simp[bo,ha',dH,ha]
theorem L9(a b:bV)(hn:3<=n):∃r,ru n a b=some r/\decide (r>=0)=!UJ a b:=by
 unfold ru;rw[kI,kI];simp only[af];rw[show ∀u v:Int,sub [u,v] 0 2=[u,v]from λ_ _=>rfl,Xb _ _ hn];refine⟨_,rfl,?_⟩;unfold UJ;by_cases h1:a.x<b.x
 .simp[h1]
 .by_cases h2:b.x<a.x
  .have h3:¬a.x=b.x:=(by omega);simp[h1,h2,h3]
  .have h3:a.x=b.x:=(by omega);by_cases h4:a.y<b.y
   .simp[h3,h4]
   .by_cases h5:b.y<a.y<;>simp[h3,h4,h5]
def JT(p:U bV)(i:Nat):Bool:=
 (!UI (pZ p i) || ((((jd p i).mi==(jd p i).mA)==((jd p i).pS==(jd p i).ue)) || (ut (jd p i)==ut (jd p ((i+1)%p.length))))) || (decide (0<i)&&!UJ (pZ p 0) (pZ p i))
def S9(p:U bV)(i k:Nat):Bool:=decide (i+p.length -k>1)&&P2 (jd p i) (jd p k)
def Qs(p:U bV):Bool:=
 decide (4<=p.length)&&(decide (p.length<=60)&&(!((List.range p.length).any (JT p))&&(!((List.range p.length).any λi=>(List.range p.length).any λk=>decide (i+2<=k)&&S9 p i k)&&!ut (jd p 0))))
def ag1(l:U aA)(x y:Int):Bool:=l.any λr=>(decide (r.x0<=x)&&decide (x<r.x1))&&(decide (r.y0<=y)&&decide (y<r.y1))
theorem aez(l:U aA)(x y:Int):ix (jV l x) y=ag1 l x y:=by
 induction l with
 |nil=>rfl
 |cons r l ih=>
  unfold jV ag1 at*;rw[List.filter_cons,List.any_cons,<- ih];cases h:(decide (r.x0<=x)&&decide (x<r.x1))with
  |true=>simp only[if_true,aH,Bool.true_and];rw[ow]
  |false=>simp
theorem Ot{l:U aA}(h:∀r∈l,ey r=true)(x:Int):Can (dI l x)/\∀y,ix (dI l x) y=ag1 l x y:=by
 have⟨h1,h2⟩:=aaC (Xa h x);exact⟨h1,λy=>by rw[dI,h2,aez]⟩
def Xc:U cB->Prop
 |[]=>True
 |[s]=>s.x0<s.x1
 |s::t::l=>s.x0<s.x1/\s.x1=t.x0/\Xc (t::l)
def IZ:U cB->Int->U aP
 |[],_=>[]
 |s::l,x=>bif decide (s.x0<=x)&&decide (x<s.x1)then s.column else IZ l x
theorem zh(s:cB)(l:U cB)(x:Int):IZ (s::l) x=bif decide (s.x0<=x)&&decide (x<s.x1)then s.column else IZ l x:=rfl
def Runs:U cB->Prop
 |[]=>True
 |[s]=>s.x0<s.x1/\s.column≠[]
 |s::t::l=>(s.x0<s.x1/\s.column≠[])/\s.x1<=t.x0/\(s.x1=t.x0->s.column≠t.column)/\Runs (t::l)
theorem aol{s:cB}{l:U cB}{x:Int}(h1:s.x0<=x)(h2:x<s.x1):IZ (s::l) x=s.column:=by rw[zh,show(decide (s.x0<=x)&&decide (x<s.x1))=true by simp[h1,h2]];rfl
theorem qi{α:Type}(f:Int->Int->α)(a b:Int)(l:U Int):jc f (a::b::l)=f a b::jc f (b::l):=rfl
theorem Ou(g:Int->U aP):∀(es:U Int),es.Pairwise (· < ·)->Xc (jc (λ a b=>(⟨a,b,g a⟩:cB)) es)
 |[],_=>trivial
 |[_],_=>trivial
 |[a,b],h=>by
  have h1:=(pairwise_cons.1 h).1 b (by simp);exact h1
 |a::b::c::l,h=>by
  have h1:=(pairwise_cons.1 h).1 b (by simp);exact⟨h1,rfl,Ou g (b::c::l) (pairwise_cons.1 h).2⟩
theorem I4(g:Int->U aP)(x:Int):∀(es:U Int),(∀ e∈es,x<e)->IZ (jc (λ a b=>(⟨a,b,g a⟩:cB)) es) x=[]
 |[],_=>rfl
 |[_],_=>rfl
 |a::b::l,h=>by
  have ha:=h a (by simp);rw[qi,zh,show(decide (a<=x)&&decide (x<b))=false by rw[Bool.and_eq_false_iff,dL];left;omega,ak];exact I4 g x (b::l) λe he=>h e (eX _ he)
theorem I5(g:Int->U aP)(x:Int):∀(l:U Int)(a:Int),(a::l).Pairwise (· < ·)->a<=x->
 (∀ e∈a::l,e<=x->(∀ e'∈a::l,e'<=e\/x<e')->g e=g x)->((∀ e∈a::l,e<=x)->g x=[])->IZ (jc (λ a b=>(⟨a,b,g a⟩:cB)) (a::l)) x=g x
 |[],a,_,hx,_,h2=>(h2 (λ e he=>by have:e=a:=by simpa using he
                                  subst this;exact hx)).symm
 |b::l,a,hp,hx,h1,h2=>by
  have hab:=(pairwise_cons.1 hp).1 b (by simp);rw[qi,zh];by_cases hb:x<b
  .rw[show (decide (a<=x)&&decide (x<b))=true by simp[hx,hb],aj];refine h1 a (by simp) hx λe he=>?_;rcases aQ.1 he with rfl |he
   .exact .inl (Int.le_refl _)
   .right;rcases aQ.1 he with rfl |he
    .exact hb
    .have:=(pairwise_cons.1 (pairwise_cons.1 hp).2).1 e he;omega
  .rw[show (decide (a<=x)&&decide (x<b))=false by simp[hb],ak];refine I5 g x l b (pairwise_cons.1 hp).2 (by omega) (λ e he hex hc=>h1 e (eX _ he) hex λe' he'=>?_) λhall=>h2 λe he=>?_
   .rcases aQ.1 he' with rfl |he'
    .left;have:=(pairwise_cons.1 hp).1 e he;omega
    .exact hc e' he'
   .rcases aQ.1 he with rfl |he
    .exact hx
    .exact hall e he
theorem aeA(g:Int->U aP)(es:U Int)(hp:es.Pairwise (· < ·))(x:Int)
 (h1:∀e∈es,e<=x->(∀ e'∈es,e'<=e\/x<e')->g e=g x) (h2:(∀ e∈es,e<=x)->g x=[]) (h3:(∀ e∈es,x<e)->g x=[]):IZ (jc (λ a b=>(⟨a,b,g a⟩:cB)) es) x=g x:=by
 cases es with
 |nil=>exact(h3 (by simp)).symm
 |cons a l=>
  by_cases hx:a<=x
  .exact I5 g x l a hp hx h1 h2
  .have hall:∀e∈a::l,x<e:=by
    intro e he;rcases aQ.1 he with rfl |he
    .omega
    .have:=(pairwise_cons.1 hp).1 e he;omega
   rw[I4 g x _ hall,h3 hall]
theorem Xd{l:U aA}{z:Int}:z∈gX l↔∃r∈l,z=r.x0\/z=r.x1:=by
 rw[gX,alN,List.mem_flatMap];simp
theorem Ls(l:U aA):(gX l).Pairwise (· < ·):=ad6 _
theorem YW{l:U aA}{es:U Int}(hes:∀r∈l,r.x0∈es/\r.x1∈es){e x:Int}(hex:e<=x)(hc:∀e'∈es,e'<=e\/x<e'):jV l e=jV l x:=by
 unfold jV;congr 1;refine List.filter_congr λr hr=>?_;have⟨h0,h1⟩:=hes r hr;have:=hc _ h0;have:=hc _ h1;rw[iY,aN,aN,aW,aW,aW,aW];omega
theorem Ov{l:U aA}{x:Int}(h:∀r∈l,x<r.x0\/r.x1<=x):jV l x=[]:=by
 unfold jV;rw[List.map_eq_nil_iff,List.filter_eq_nil_iff];intro r hr;have:=h r hr;rw[aN,aW,aW];omega
theorem I6(l:U aA):Xc (bE l):=Ou _ _ (Ls l)
theorem Lu(l:U aA)(x:Int):IZ (bE l) x=dI l x:=by
 have hes:∀r∈l,r.x0∈gX l/\r.x1∈gX l:=λr hr=>⟨Xd.2 ⟨r,hr,.inl rfl⟩,Xd.2 ⟨r,hr,.inr rfl⟩⟩;refine aeA (dI l) (gX l) (Ls l) x (λ e _ hex hc=>?_) (λ hall=>?_) (λ hall=>?_)
 .unfold dI;rw[YW hes hex hc]
 .unfold dI;rw[Ov λr hr=> .inr (hall _ (hes r hr).2)];rfl
 .unfold dI;rw[Ov λr hr=> .inl (hall _ (hes r hr).1)];rfl
theorem akk{a:U aA}(h:c8 a=true):sf a=(a,0):=by
 unfold c8 at h;rw[aN,aW,aW]at h;obtain⟨h1,h2⟩:=h;exact Prod.ext h2 h1
theorem uF{a:U aA}(h:c8 a=true):(∀ r∈a,ey r=true)/\a.length<=200/\nS (bE a)=a:=by
 have h:=akk h;unfold sf at h;split at h
 .rename_i hall;split at h
  .simp at h
  .split at h
   .simp at h
   .rename_i rh;injection h with h _;refine⟨all_eq_true.1 hall,?_,h⟩;rw[<- h];omega
 .simp at h
def ext(ab:U aP)(p:aP):U aP:=
 match ab.getLast? with
 |some q=>bif q.to==p.from_ then ab.dropLast++[⟨q.from_,p.to⟩]else ab++[p]
 |none=>[p]
def k9(a b:U aP):U Int:=GM ((a++b).flatMap λs=>[s.from_,s.to])
def uG(keep:Bool->Bool->Bool)(a b:U aP):U aP:=
 ((jc aP.mk (k9 a b)).filter λp=>keep (ix a p.from_) (ix b p.from_)).foldl ext []
theorem ag2(o:U aP)(q p:aP):ext (o++[q]) p=bif q.to==p.from_ then o++[⟨q.from_,p.to⟩]else o++[q]++[p]:=by simp[ext]
def qY(keep:Bool->Bool->Bool)(a b:U aA):U cB:=
 jc (λ x x'=>(⟨x,x',uG keep (dI a x) (dI b x)⟩:cB)) (gX (a++b))
def nk(keep:Bool->Bool->Bool)(a b:U aA):U aA×Int:=
 if c8 a&&c8 b then(if (nS (qY keep a b)).length>200 then([],6)else(nS (qY keep a b),0))else([],1)
def Xe{α:Type}(a0:U α)(a1:Int)(a2:(α×Int×Unit)->J Int):(Int×Int)->J ((Int×Int)⊕Int)
 |(v1,v2)=>(bif (decide (v1<(v2:Int)))then(ck (decide (0<=1)&&decide (1<=IntKind.u64.bits)) ((bo a0 (i64.wrap ((IntKind.u64.wrap (i64.wrap (v1+v2)))/2 ^ (1:Int).toNat))).bind λx1=>(a2 (x1,a1,())).bind λr1=>(bif (decide (r1<(0:Int)))then some (.inl ((i64.wrap ((i64.wrap ((IntKind.u64.wrap (i64.wrap (v1+v2)))/2 ^ (1:Int).toNat))+1)),v2))else some (.inl (v1,(i64.wrap ((IntKind.u64.wrap (i64.wrap (v1+v2)))/2 ^ (1:Int).toNat)))))))else some (.inr v1))
theorem aeB{α:Type}{l:U α}{key:Int}{φ:(α×Int×Unit)->J Int}(p:α->Bool)(f:α->Int)(hφ:∀x,φ (x,key,())=some (f x))(hf:∀x,decide (f x<0)=p x)
 (hm:∀i j (hj:j<l.length) (hij:i<j),p l[j]=true->p (l[i]'(by omega))=true) (hl:l.length<1099511627776):
 ∀(m i j n:Nat),j -i<=m->i<=j->j<=l.length->(∀ k (hk:k<i) (hkl:k<l.length),p l[k]=true)->(∀ k (hk:j<=k) (hkl:k<l.length),p l[k]=false)->m<n->
 ∃w:Nat,w<=l.length/\iter (Xe l key φ) n ((i:Int),(j:Int))=some (w:Int)/\(∀ k (hk:k<w) (hkl:k<l.length),p l[k]=true)/\∀k (hk:w<=k) (hkl:k<l.length),p l[k]=false:=by
 intro m
 induction m with
 |zero=>
  intro i j n hm0 hij hjl h1 h2 hn;obtain⟨n,rfl⟩:∃q,n=q+1:=⟨n -1,by omega⟩;have:i=j:=by omega
  subst this;exact⟨i,hjl,fF (by simp[Xe]),h1,h2⟩
 |succ m ih=>
  intro i j n hm0 hij hjl h1 h2 hn;obtain⟨n,rfl⟩:∃q,n=q+1:=⟨n -1,by omega⟩;by_cases hlt:i<j
  .have c:decide ((i:Int)<(j:Int))=true:=(by simpa using hlt);have c1:(decide (0<=1)&&decide (1<=IntKind.u64.bits))=true:=rfl;have e:i64.wrap ((IntKind.u64.wrap (i64.wrap ((i:Int)+(j:Int))))/2 ^ (1:Int).toNat)=(((i+j)/2:Nat):Int):=by
    rw[aqA (by omega),aj5 (by omega),show((((i+j:Nat):Int))/2 ^ (1:Int).toNat)=(((i+j)/2:Nat):Int)by
     rw[show (1:Int).toNat=1 from rfl,Int.pow_one];omega,Io (by omega)]
   have hh:(i+j)/2<l.length:=(by omega);cases hp:p l[(i+j)/2]with
   |true=>
    have s:Xe l key φ ((i:Int),(j:Int))=some (.inl ((((i+j)/2+1:Nat):Int),(j:Int))):=by
     simp only[Xe,c,aj,c1,e,bq hh,af,hφ,hf,hp];rw[bQ (by omega)]
    rw[ic s];refine ih _ _ n (by omega) (by omega) hjl (λ k hk hkl=>?_) h2 (by omega);by_cases hk2:k<(i+j)/2
    .exact hm k _ hh hk2 hp
    .have:k=(i+j)/2:=(by omega);subst this;exact hp
   |false=>
    have s:Xe l key φ ((i:Int),(j:Int))=some (.inl ((i:Int),(((i+j)/2:Nat):Int))):=(by simp only[Xe,c,aj,c1,e,bq hh,af,hφ,hf,hp,ak]);rw[ic s];refine ih _ _ n (by omega) (by omega) (by omega) h1 (λ k hk hkl=>?_) (by omega);by_cases hk2:(i+j)/2<k
    .cases hpk:p l[k]with
     |false=>rfl
     |true=>have:=hm _ k hkl hk2 hpk;rw[hp]at this;cases this
    .have:k=(i+j)/2:=(by omega);subst this;exact hp
  .have:i=j:=(by omega);subst this;exact⟨i,hjl,fF (by simp[Xe]),h1,h2⟩
theorem amn(l:U cB)(key:Int)(φ:(cB×Int×Unit)->J Int):lT l key φ=Xe l key φ:=by funext ⟨a,b⟩;rfl
theorem aom(l:U aP)(key:Int)(φ:(aP×Int×Unit)->J Int):mK l key φ=Xe l key φ:=by funext ⟨a,b⟩;rfl
theorem Xf:∀{l:U cB},Xc l->l.Pairwise (λ s t=>s.x1<=t.x0)/\∀s∈l,s.x0<s.x1
 |[],_=>⟨List.Pairwise.nil,by simp⟩
 |[s],h=>⟨by simp,λt ht=>by have:t=s:=by simpa using ht
                            subst this;exact h⟩
 |s::t::l,h=>by
  obtain⟨h1,h2,h3⟩:=h;have⟨p1,p2⟩:=Xf h3;refine⟨?_,?_⟩
  .rw[pairwise_cons];refine⟨λ u hu=>?_,p1⟩;rcases aQ.1 hu with rfl |hu
   .omega
   .have:=(pairwise_cons.1 p1).1 u hu;have:=p2 t (by simp);omega
  .intro u hu;rcases aQ.1 hu with rfl |hu
   .exact h1
   .exact p2 u hu
theorem Ma{x:Int}:∀{l:U cB},(∀ s∈l,¬(s.x0<=x/\x<s.x1))->IZ l x=[]
 |[],_=>rfl
 |s::l,h=>by
  have:=h s (by simp);rw[zh,show(decide (s.x0<=x)&&decide (x<s.x1))=false by rw[Bool.and_eq_false_iff,dL,dL];omega,ak];exact Ma λt ht=>h t (by simp[ht])
theorem aaF{x:Int}:∀{l:U cB}{w:Nat}(hw:w<l.length),(∀ k (hk:k<w),¬((l[k]'(by omega)).x0<=x/\x<(l[k]'(by omega)).x1))->l[w].x0<=x->x<l[w].x1->IZ l x=l[w].column
 |[],w,hw,_,_,_=>by simp at hw
 |s::l,0,hw,_,h0,h1=>aol h0 h1
 |s::l,w+1,hw,hk,h0,h1=>by
  have hs:=hk 0 (by omega);simp only[List.getElem_cons_zero]at hs;rw[zh,show(decide (s.x0<=x)&&decide (x<s.x1))=false by rw[Bool.and_eq_false_iff,dL,dL];omega,ak];exact aaF (by simpa using hw) (λ k hk'=>by have:=hk (k+1) (by omega);simpa using this) h0 h1
theorem aeC{l:U cB}{x:Int}(h:Xc l)(hl:l.length<1099511627776)(hn:l.length<n):WX n l x=some (IZ l x):=by
 have⟨a1,a2⟩:=Xf h;rw[List.pairwise_iff_getElem]at a1
 have run:=aeB (l:=l) (key:=x) (φ:=λ(y1:cB×Int×Unit)=>wI y1.1 y1.2.1) (λ s=>decide (s.x1<=x)) (λ s=>if s.x1<=x then -1 else 1)
  (λ s=>by show wI s x=_;unfold wI;by_cases c:s.x1<=x<;>simp[c]) (λ s=>by by_cases c:s.x1<=x<;>simp[c])
  (λ i j hj hij hp=>by
   rw[aW]at hp ⊢;have:=a1 i j (by omega) hj hij;have:=a2 l[j] (getElem_mem _);omega) hl l.length 0 l.length n (by omega) (by omega) (aG _) (λ k hk=>by omega) (λ k hk hkl=>by omega) hn
 obtain⟨w,hw,e,h1,h2⟩:=run;unfold WX iZ;rw[amn];have e':iter (Xe l x λ(y1:cB×Int×Unit)=>wI y1.1 y1.2.1) n ((0:Int),(l.length:Int))=some (w:Int):=e;rw[e'];simp only[af];have aq:∀b:Int,∃bb,((bif (decide ((w:Int)<((l.length:Int):Int)))then(bo l (w:Int)).bind λx2=>(wI x2 x).bind λr2=>some ((w:Int),(r2==b))else some ((w:Int),false)):J (Int×Bool))=some ((w:Int),bb):=by
  intro b;by_cases c:w<l.length
  .have d:decide ((w:Int)<(l.length:Int))=true:=(by simpa using c);rw[d];simp only[aj];rw[bq c,af];unfold wI;cases decide (l[w].x1<=x)<;>exact⟨_,rfl⟩
  .have d:decide ((w:Int)<(l.length:Int))=false:=(by simp;omega);rw[d];exact⟨_,rfl⟩
 have⟨bb,hbb⟩:=aq 0;rw[hbb,af];simp only[];by_cases c:w<l.length
 .have d:decide ((w:Int)<(l.length:Int))=true:=by simpa using c
  simp only[d,aj,bq c,af];have hx1:=h2 w (aG _) c;rw[dL]at hx1;by_cases c2:l[w].x0<=x
  .simp only[c2,decide_true,aj];rw[aaF c (λ k hk hh=>?_) c2 (by omega)];have:=h1 k hk (by omega);rw[aW]at this;omega
  .simp only[c2,decide_false,ak];rw[Ma λs hs hh=>?_];obtain⟨k,hk,rfl⟩:=mem_iff_getElem.1 hs;rcases Nat.lt_trichotomy k w with BW |rfl |BW
   .have:=h1 k BW hk;rw[aW]at this;omega
   .omega
   .have:=a1 w k c hk BW;have:=a2 l[w] (getElem_mem _);omega
 .have d:decide ((w:Int)<(l.length:Int))=false:=by simp;omega
  simp only[d,ak,af];rw[Ma λs hs hh=>?_];obtain⟨k,hk,rfl⟩:=mem_iff_getElem.1 hs;have:=h1 k (by omega) hk;rw[aW]at this;omega
theorem Ow{l:U aP}{y:Int}(h:Can l)(hl:l.length<1099511627776)(hn:l.length<n):Db n l y=some (ix l y):=by
 obtain⟨a1,a2⟩:=h;rw[List.pairwise_iff_getElem]at a1
 have run:=aeB (l:=l) (key:=y) (φ:=λ(y1:aP×Int×Unit)=>lU y1.1 y1.2.1) (λ s=>decide (s.to<=y)) (λ s=>if s.to<=y then -1 else 1)
  (λ s=>by show lU s y=_;unfold lU;by_cases c:s.to<=y<;>simp[c]) (λ s=>by by_cases c:s.to<=y<;>simp[c])
  (λ i j hj hij hp=>by
   rw[aW]at hp ⊢;have:=a1 i j (by omega) hj hij;have:l[j].from_<l[j].to:=a2 l[j] (getElem_mem _);omega) hl l.length 0 l.length n (by omega) (by omega) (aG _) (λ k hk=>by omega) (λ k hk hkl=>by omega) hn
 obtain⟨w,hw,e,h1,h2⟩:=run;unfold Db jv;rw[aom];have e':iter (Xe l y λ(y1:aP×Int×Unit)=>lU y1.1 y1.2.1) n ((0:Int),(l.length:Int))=some (w:Int):=e;rw[e'];simp only[af];have aq:∀b:Int,∃bb,((bif (decide ((w:Int)<((l.length:Int):Int)))then(bo l (w:Int)).bind λx2=>(lU x2 y).bind λr2=>some ((w:Int),(r2==b))else some ((w:Int),false)):J (Int×Bool))=some ((w:Int),bb):=by
  intro b;by_cases c:w<l.length
  .have d:decide ((w:Int)<(l.length:Int))=true:=(by simpa using c);rw[d];simp only[aj];rw[bq c,af];unfold lU;cases decide (l[w].to<=y)<;>exact⟨_,rfl⟩
  .have d:decide ((w:Int)<(l.length:Int))=false:=(by simp;omega);rw[d];exact⟨_,rfl⟩
 have⟨bb,hbb⟩:=aq 0;rw[hbb,af];simp only[];by_cases c:w<l.length
 .have d:decide ((w:Int)<(l.length:Int))=true:=by simpa using c
  simp only[d,aj,bq c,af];have hx1:=h2 w (aG _) c;rw[dL]at hx1;congr 1;rw[iY,aW,Om];constructor
  .exact λhf=>⟨l[w],getElem_mem _,hf,by omega⟩
  .rintro⟨s,hs,g1,g2⟩;obtain⟨k,hk,rfl⟩:=mem_iff_getElem.1 hs;rcases Nat.lt_trichotomy k w with BW |rfl |BW
   .have:=h1 k BW hk;rw[aW]at this;omega
   .exact g1
   .have:=a1 w k c hk BW;omega
 .have d:decide ((w:Int)<(l.length:Int))=false:=by simp;omega
  simp only[d,ak];congr 1;symm;cases hh:ix l y with
  |false=>rfl
  |true=>
   obtain⟨s,hs,g1,g2⟩:=(Om _ _).1 hh;obtain⟨k,hk,rfl⟩:=mem_iff_getElem.1 hs;have:=h1 k (by omega) hk;rw[aW]at this;omega
theorem Ox{l:U (List aP)}(hf:l.flatten.length<1099511627776)(hl:l.length<1099511627776)(hn:l.length<n):y7 n l=some l.flatten:=ND (aP.mk 0 0) (b:=16) hf (by omega) hl hn
theorem Oy(l:U aP):(l.flatMap λr=>[r.from_,r.to]).length=2*l.length:=by
 induction l with
 |nil=>rfl
 |cons x l ih=>simp only[List.flatMap_cons,dP,ih,bG,length_nil];omega
theorem Ta{l:U aP}(hl:l.length<10995116277)(hn:l.length<n):iter (wJ l) n ((0:Int),([]:U Int))=some (l.flatMap λr=>[r.from_,r.to]):=by
 have:=fC (l:=l) (step:=wJ l) (λ i (s:List Int)=>((i:Int),s)) (λ r s=>s++[r.from_,r.to]) (λ s=>s) (λ i s=>s.length<=2*i)
  (λ i hi s hs=>?_) (λ s hs=>by simp[wJ]) n hn [] (aG _)
 .rw[show ((0:Nat):Int)=0 from rfl]at this;rw[this];have gen:∀(ys:U aP)(s:U Int),ys.foldl (λ s r=>s++[r.from_,r.to]) s=s++ys.flatMap λr=>[r.from_,r.to]:=by
   intro ys
   induction ys with
   |nil=>intro s;simp
   |cons y ys ih=>intro s;simp[ih]
  congr 1;simpa using gen l []
 .have hi':decide ((i:Int)<(l.length:Int))=true:=by simpa using hi
  have ap:bP s.length s.length (sub ([l[i].from_,l[i].to]:U Int) 0 2).length 2 8=true:=dm (n:=2);simp only[wJ,hi',aj,aV hi,aX hi,af,ap,dS,aF];refine⟨?_,by simp;omega⟩;rw[bQ (by omega)];rfl
theorem Mc{α β:Type}(p:α->Bool)(f:β->α->β):∀(l:U α)(s:β),(l.filter p).foldl f s=l.foldl (λ s x=>bif p x then f s x else s) s
 |[],s=>rfl
 |x::l,s=>by
  rw[List.filter_cons,foldl_cons];cases h:p x with
  |true=>simp only[if_true,foldl_cons,aj];exact Mc p f l _
  |false=>simp only[Bool.false_eq_true,if_false,ak];exact Mc p f l _
theorem Xg(ab:U aP)(p:aP):(ext ab p).length<=ab.length+1:=by
 unfold ext;cases ab.getLast? with
 |none=>simp
 |some q=>simp only;cases q.to==p.from_<;>simp<;>omega
theorem Xh(a b:U aP):(k9 a b).length<=2*(a.length+b.length):=by
 have h:=rG (ku (λ a b=>decide (a<b)) ((a++b).flatMap λr=>[r.from_,r.to]));rw[eY,Oy,dP]at h;exact h
theorem YX(keep:Bool->Bool->Bool)(a b:U aP):(uG keep a b).length<=2*(a.length+b.length):=by
 have gen:∀(ys ab:U aP),(ys.foldl ext ab).length<=ab.length+ys.length:=by
  intro ys
  induction ys with
  |nil=>intro ab;simp
  |cons y ys ih=>
   intro ab;simp only[foldl_cons,bG];have:=ih (ext ab y);have:=Xg ab y;omega
 have h:=gen ((jc aP.mk (k9 a b)).filter λp=>keep (ix a p.from_) (ix b p.from_)) [];have h2:=length_filter_le (λ p=>keep (ix a p.from_) (ix b p.from_)) (jc aP.mk (k9 a b));have h3:=(rW aP.mk (k9 a b)).1;have h4:=Xh a b;simp only[length_nil]at h;unfold uG;omega
theorem aeD{keep:Bool->Bool->Bool}{φ:(Bool×Bool×Unit)->J Bool}(hφ:∀p q,φ (p,q,())=some (keep p q)){a b:U aP}(ha:Can a)(hb:Can b)(hl:a.length+b.length<1099511627)(hn:2*(a.length+b.length)+2<n):II n a b φ=some (uG keep a b):=by
 have fl:[a,b].flatten=a++b:=by simp
 have s2:(sub ([a,b]:U (List aP)) 0 2)=[a,b]:=rfl;have q2:aE ([a,b]:U (List aP)).length 2=true:=rfl;have hys:=Xh a b;have hfl:((a++b).flatMap λr=>[r.from_,r.to]).length=2*(a.length+b.length):=by rw[Oy,dP]
 unfold II;rw[s2,q2];simp only[aj];rw[Ox (by rw[fl,dP];omega) (by simp) (by simp;omega),fl];simp only[af,length_nil,aF,aj,Ta (l:=a++b) (n:=n) (by rw[dP];omega) (by rw[dP];omega)];rw[pM (by rw[hfl];omega) (by rw[hfl];omega)];simp only[af,eY,aF,aj];rw[uD (by rw[eY,hfl];omega) (by rw[eY,hfl];omega)];simp only[af];have hE:gJ (ku ox ((a++b).flatMap λr=>[r.from_,r.to]))=k9 a b:=rfl;rw[hE];have⟨p1,p2⟩:=rW aP.mk (k9 a b);have key:iter (wK n a b φ ((),k9 a b)) n ((1:Int),([]:U aP))=some (uG keep a b):=by
  have:=fC (l:=jc aP.mk (k9 a b)) (step:=wK n a b φ ((),k9 a b)) (λ i (s:List aP)=>(((i+1:Nat):Int),s)) (λ p s=>bif keep (ix a p.from_) (ix b p.from_)then ext s p else s) (λ s=>s) (λ i s=>s.length<=i)
   (λ i hi s hs=>?_) (λ s hs=>?_) n (by omega) [] (aG _)
  .rw[show ((0+1:Nat):Int)=1 from rfl]at this;rw[this,uG,Mc]
  .have hi2:i+1<(k9 a b).length:=(by omega);have hi1:i<(k9 a b).length:=(by omega);have d:decide (((i+1:Nat):Int)<(((k9 a b).length:Nat):Int))=true:=(by simp;omega);have wp:i64.wrap (((i+1:Nat):Int) -1)=(i:Int):=(by rw[mX (by omega) (by omega)];rfl);have pe:(jc aP.mk (k9 a b))[i]=aP.mk (k9 a b)[i] (k9 a b)[i+1]:=p2 i hi2 hi;rw[pe];have lx:=Xg s (aP.mk (k9 a b)[i] (k9 a b)[i+1]);have ap:bP s.length s.length (sub ([(aP.mk (k9 a b)[i] (k9 a b)[i+1])]:U aP) 0 1).length 1 16=true:=dm (n:=1);have sb:(sub ([(aP.mk (k9 a b)[i] (k9 a b)[i+1])]:U aP) 0 1)=[aP.mk (k9 a b)[i] (k9 a b)[i+1]]:=rfl;refine⟨?_,by cases keep (ix a (k9 a b)[i]) (ix b (k9 a b)[i])<;>simp only[aj,ak]<;>omega⟩;simp only[wK,d,aj,wp,aV hi1,aX hi1,af,Ow (n:=n) ha (show a.length<1099511627776 by omega) (show a.length<n by omega),Ow (n:=n) hb (show b.length<1099511627776 by omega) (show b.length<n by omega),hφ];cases hk:keep (ix a (k9 a b)[i]) (ix b (k9 a b)[i])with
   |false=>
    simp only[Bool.not_false,aj,aF,af,ak];rw[bQ (by omega)]
   |true=>
    simp only[Bool.not_true,ak,aj];rcases List.eq_nil_or_concat s with rfl |⟨s0,q,HJ⟩
    .have d0:decide (((([]:U aP).length:Nat):Int)>0)=false:=(by simp);simp only[d0,ak,af,aV hi2,aX hi2,aj,ap,dS,aF];rw[bQ (by omega)];rfl
    .rw[List.concat_eq_append]at HJ;subst HJ;have d0:decide (((((s0++[q]).length:Nat):Int))>0)=true:=(by simp<;>omega);have A2:(s0++[q]).length=s0.length+1:=(by simp);have wq:i64.wrap ((((s0++[q]).length:Nat):Int) -1)=(s0.length:Int):=(by rw[mX (by simp) (by omega),A2];rfl);have R2:cN (s0.length:Int) (s0++[q]).length=true:=aV (by omega);have g:bo (s0++[q]) (((0:Nat):Int)+(s0.length:Int))=some q:=(by rw[Ew];simp);have z:(((0:Nat):Int)+(s0.length:Int)).toNat=s0.length:=(by simp);have st:(s0++[q]).set s0.length (aP.mk q.from_ (k9 a b)[i+1])=s0++[⟨q.from_,(k9 a b)[i+1]⟩]:=(by simp);simp only[d0,aj,wq,R2,g,af,ag2];cases hj:q.to==(k9 a b)[i]with
     |true=>
      simp only[aj,aV hi2,aX hi2,af,z,st];have e:aE (s0++[q]).length (s0++[(⟨q.from_,(k9 a b)[i+1]⟩:aP)]).length=true:=(by simp);simp only[e,aj,af,aF];rw[bQ (by omega)]
     |false=>
      rw[sb]at ap;simp only[ak,aV hi2,aX hi2,af,aj,sb,ap,dS,aF];rw[bQ (by omega)]
  .have d:decide ((((jc aP.mk (k9 a b)).length+1:Nat):Int)<(((k9 a b).length:Nat):Int))=false:=(by simp;omega);simp only[wK,d,ak,aF,aj]
 rw[key];simp only[af,bZ,aF,aj]
theorem Dk(keep:Bool->Bool->Bool)(a b:U aA):qY keep a b=(bE (a++b)).map λs=>⟨s.x0,s.x1,uG keep (dI a s.x0) (dI b s.x0)⟩:=by
 have gen:∀es:U Int,jc (λ x x'=>(⟨x,x',uG keep (dI a x) (dI b x)⟩:cB)) es=(jc (λ x x'=>(⟨x,x',dI (a++b) x⟩:cB)) es).map λs=>⟨s.x0,s.x1,uG keep (dI a s.x0) (dI b s.x0)⟩:=by
  intro es
  match es with
  |[]=>rfl
  |[_]=>rfl
  |x::y::l=>
   rw[qi,qi,aH];congr 1;have:∀es:U Int,jc (λ x x'=>(⟨x,x',uG keep (dI a x) (dI b x)⟩:cB)) es=(jc (λ x x'=>(⟨x,x',dI (a++b) x⟩:cB)) es).map λs=>⟨s.x0,s.x1,uG keep (dI a s.x0) (dI b s.x0)⟩:=by
    intro es
    induction es with
    |nil=>rfl
    |cons x es ih=>
     cases es with
     |nil=>rfl
     |cons y es=>rw[qi,qi,aH,ih]
   exact this (y::l)
 exact gen (gX (a++b))
theorem YZ{keep:Bool->Bool->Bool}{φ:(Bool×Bool×Unit)->J Bool}(hφ:∀p q,φ (p,q,())=some (keep p q)){a b:U aA}(ha:a.length<1099511627776)(hb:b.length<1099511627776)(hna:a.length<n)(hnb:b.length<n)(hn:1000<=n):EG n a b φ=some (nk keep a b):=by
 unfold EG nk;rw[l6 ha hna hn,af];cases hra:c8 a with
 |false=>rfl
 |true=>
  rw[l6 hb hnb hn];simp only[Bool.not_true,ak,af,Bool.true_and];cases hrb:c8 b with
  |false=>rfl
  |true=>
   have⟨a1,a2,_⟩:=uF hra;have⟨b1,b2,_⟩:=uF hrb;have fa:[a].flatten=a:=(by simp);have fb:[b].flatten=b:=(by simp);have fab:[a,b].flatten=a++b:=(by simp);have hab:∀r∈a++b,ey r=true:=λr hr=>by
    rcases bn.1 hr with hr |hr
    .exact a1 r hr
    .exact b1 r hr
   have sa:oJ n [a]=some (bE a):=by
    have:=yu (n:=n) (ls:=[a]) (by rw[fa];exact a1) (by rw[fa];omega) (by simp) (by rw[fa];omega) (by simp;omega)
    rwa [fa]at this
   have sb:oJ n [b]=some (bE b):=by
    have:=yu (n:=n) (ls:=[b]) (by rw[fb];exact b1) (by rw[fb];omega) (by simp) (by rw[fb];omega) (by simp;omega)
    rwa [fb]at this
   have lab:(a++b).length=a.length+b.length:=dP;have sab:oJ n [a,b]=some (bE (a++b)):=by
    have:=yu (n:=n) (ls:=[a,b]) (by rw[fab];exact hab) (by rw[fab,lab];omega) (by simp) (by rw[fab,lab];omega) (by simp;omega)
    rwa [fab]at this
   have e1:(sub ([a]:U (List aA)) 0 1)=[a]:=rfl;have e2:(sub ([b]:U (List aA)) 0 1)=[b]:=rfl;have e3:(sub ([a,b]:U (List aA)) 0 2)=[a,b]:=rfl;have q1:aE ([a]:U (List aA)).length 1=true:=rfl;have q2:aE ([b]:U (List aA)).length 1=true:=rfl;have q3:aE ([a,b]:U (List aA)).length 2=true:=rfl;have la:=uE a;have lb:=uE b;have lS:=uE (a++b);rw[lab]at lS;have mc:∀x,(dI a x).length<=200/\(dI b x).length<=200:=λx=>⟨Nat.le_trans (ze a x) a2,Nat.le_trans (ze b x) b2⟩;have lm:∀x,(uG keep (dI a x) (dI b x)).length<=800:=λx=>by
    have:=YX keep (dI a x) (dI b x);have:=mc x;omega
   have key:iter (qO n φ (bE a) (bE b) (bE (a++b))) n ((0:Int),bE (a++b))=some (qY keep a b):=by
    have:=mM (step:=qO n φ (bE a) (bE b) (bE (a++b))) (λ i=>((i:Int),(qY keep a b).take i++(bE (a++b)).drop i)) (bE (a++b)).length (qY keep a b) (λ i hi=>?_) ?_ n (by omega)
    .simpa using this
    .have d:decide ((i:Int)<(((bE (a++b)).length:Nat):Int))=true:=(by simpa using hi);have lc:(qY keep a b).length=(bE (a++b)).length:=(by rw[Dk,length_map]);have lt:((qY keep a b).take i).length=i:=(by rw[length_take];omega);have hd:(bE (a++b)).drop i=(bE (a++b))[i]::(bE (a++b)).drop (i+1):=List.drop_eq_getElem_cons hi;have g:bo ((qY keep a b).take i++(bE (a++b)).drop i) (((0:Nat):Int)+(i:Int))=some (bE (a++b))[i]:=(by rw[Ew,jD (by omega),lt,hd];simp);have st:∀s:cB,((qY keep a b).take i++(bE (a++b)).drop i).set i s=(qY keep a b).take i++s::(bE (a++b)).drop (i+1):=by
      intro s;rw[List.set_append_right _ _ (by omega),lt,hd,Nat.sub_self];rfl
     have z:(((0:Nat):Int)+(i:Int)).toNat=i:=(by simp);have tk:(qY keep a b).take (i+1)=(qY keep a b).take i++[⟨(bE (a++b))[i].x0,(bE (a++b))[i].x1,uG keep (dI a (bE (a++b))[i].x0) (dI b (bE (a++b))[i].x0)⟩]:=by
      rw[je (by omega)];congr 2;simp only[Dk,List.getElem_map]
     have hm:=mc (bE (a++b))[i].x0;have mg:II n (dI a (bE (a++b))[i].x0) (dI b (bE (a++b))[i].x0) φ=some (uG keep (dI a (bE (a++b))[i].x0) (dI b (bE (a++b))[i].x0)):=
      aeD hφ (Ot a1 _).1 (Ot b1 _).1 (by omega) (by omega)
     have at1:WX n (bE a) (bE (a++b))[i].x0=some (dI a (bE (a++b))[i].x0):=(by rw[aeC (I6 a) (by omega) (by omega),Lu]);have at2:WX n (bE b) (bE (a++b))[i].x0=some (dI b (bE (a++b))[i].x0):=(by rw[aeC (I6 b) (by omega) (by omega),Lu]);simp only[qO,d,aj,aV hi,g,af,bZ,at1,at2,mg,aF,z,st];rw[bQ (by omega),tk,aO];rfl
    .have lc:(qY keep a b).length=(bE (a++b)).length:=(by rw[Dk,length_map]);have d:decide ((((bE (a++b)).length:Nat):Int)<(((bE (a++b)).length:Nat):Int))=false:=(by simp);simp only[qO,d,ak,List.drop_length,append_nil];rw[take_of_length_le (by omega)]
   have lc:(qY keep a b).length=(bE (a++b)).length:=(by rw[Dk,length_map]);have cc:∀s∈qY keep a b,s.column.length<=800:=by
    intro s hs;rw[Dk,mem_map]at hs;obtain⟨t,_,rfl⟩:=hs;exact lm _
   have sl:sub (qY keep a b) 0 (bE (a++b)).length=qY keep a b:=(by rw[<- lc,bZ]);simp only[Bool.not_true,ak,e1,e2,e3,q1,q2,q3,aj,sa,sb,sab,af,bZ,aF,key,sl,lc];rw[Sb (b:=800) (by omega) (by omega) cc (by omega) (by omega)];simp only[af,bZ,aF,aj,y5,if_true,Bool.and_self];by_cases rh:(nS (qY keep a b)).length>200
   .have:decide (((nS (qY keep a b)).length:Int)>200)=true:=(by simp;omega);simp only[this,aj,af,rh,if_true]
   .have:decide (((nS (qY keep a b)).length:Int)>200)=false:=(by simp;omega);simp only[this,ak,af,rh,if_false]
theorem E9{a b:U aA}(ha:a.length<1099511627776)(hb:b.length<1099511627776)(hna:a.length<n)(hnb:b.length<n)(hn:1000<=n):Dc n a b=some (nk (λ p q=>p&&q) a b):=by
 unfold Dc;rw[YZ (keep:=λp q=>p&&q) (λ p q=>by show xS p q=_;unfold xS;cases p<;>rfl) ha hb hna hnb hn];rfl
theorem Fa{keep:Bool->Bool->Bool}(a b:U aA):(nk keep a b).1.length<=200:=by
 unfold nk;split
 .split
  .simp
  .show(nS _).length<=200;omega
 .simp
def Sc(r:aA):Int:=(r.x1 -r.x0)*(r.y1 -r.y0)
def Md(l:U aA):Int:=(l.map Sc).sum
theorem I7{r:aA}(h:ey r=true):0<=Sc r/\Sc r<=1099511627776:=by
 simp only[ey,aN,aW]at h;unfold Sc;refine⟨Int.mul_nonneg (by omega) (by omega),?_⟩;have:=Int.mul_le_mul (show r.x1 -r.x0<=1048576 by omega) (show r.y1 -r.y0<=1048576 by omega) (by omega) (by omega);omega
theorem Xi:∀{l:U aA},(∀ r∈l,ey r=true)->0<=Md l/\Md l<=1099511627776*(l.length:Int)
 |[],_=>by simp[Md]
 |r::l,h=>by
  have h1:=I7 (h r List.mem_cons_self);have h2:=Xi (l:=l) λq hq=>h q (eX _ hq);have e:Md (r::l)=Sc r+Md l:=rfl;rw[e,bG]
  push_cast
  omega
theorem I8{l:U aA}{φ:(aA×Unit)->J Bool}(p:aA->Bool)(h:∀x∈l,φ (x,())=some (p x))(hl:l.length<1099511627776)(hn:l.length<n):uj n l φ=some (xg p l):=fK p h hl hn
theorem sN{l:U aA}{φ:(aA×Unit)->J Bool}(p:aA->Bool)(h:∀x∈l,φ (x,())=some (p x))(hl:l.length<1099511627776)(hn:l.length<n):jb n l φ=some (l.any p):=by
 unfold jb;rw[I8 p h hl hn,af,xM]
theorem aaG:∀(l:U Int)(x:Int),(l++[x]).sum=l.sum+x
 |[],x=>by simp
 |a::l,x=>by rw[List.cons_append,List.sum_cons,List.sum_cons,aaG l x];omega
theorem akl{r:aA}(h:ey r=true):oU r=some (Sc r):=by
 have hb:=I7 h;unfold oU sH;rw[iy,h];simp only[af,aj];simp only[ey,aN,aW]at h;unfold Sc at*;rw[dX (x:=r.x1 -r.x0),dX (x:=r.y1 -r.y0),dX (by omega) (by omega)]
theorem Fb{a:U aA}(ha:a.length<=900)(hn:1000<=n):Kg n a=some (bif c8 a then Md a else 0):=by
 unfold Kg;rw[l6 (by omega) (by omega) hn];simp only[af];cases hr:c8 a with
 |false=>rfl
 |true=>
  have ok:=(uF hr).1;have:=mM (step:=EH a) (λ i=>(Md (a.take i),(i:Int))) a.length (Md a) (λ i hi=>?_) ?_ n (by omega)
  .have e:Md (a.take 0)=0:=rfl;rw[e,show((0:Nat):Int)=0 from rfl]at this;simp only[Bool.not_true,ak,aj,this,af]
  .have c:decide ((i:Int)<(a.length:Int))=true:=(by simpa using hi);have h1:=Xi (l:=a.take i) λr hr=>ok r (List.mem_of_mem_take hr);rw[length_take]at h1;have h2:=I7 (ok _ (getElem_mem hi));have e:Md (a.take (i+1))=Md (a.take i)+Sc a[i]:=(by rw[je hi];unfold Md;rw[map_append];exact aaG _ _);simp only[EH,c,aj,bq hi,af,akl (ok _ (getElem_mem hi))];rw[bQ (by omega),dX (by omega) (by omega),e]
  .simp[EH]
theorem Qt{α:Type}(p:α->Bool)(l:U α):(match nY p l with |some _=>true |none=>false)=l.any p:=by
 have:=pY p l;rw[<- this];cases nY p l<;>rfl
def ON(p q:aA):Bool:=decide (max p.x0 q.x0<min p.x1 q.x1)&&decide (max p.y0 q.y0<min p.y1 q.y1)
def Lz(a b:U aA):Bool:=a.any λp=>b.any λq=>ON p q
theorem ag3{a b:U aA}(ha:a.length<1099511627776)(hb:b.length<1099511627776)(hna:a.length<n)(hnb:b.length<n):UF n a b=some (Lz a b):=by
 unfold UF Lz;rw[sN (λ p=>b.any λq=>ON p q) (λ p _=>?_) ha hna]
 .rfl
 .show EP n p b=_;unfold EP;rw[sN (λ q=>ON p q) (λ q _=>?_) hb hnb]
  .rfl
  .show vN q p=_;unfold vN ON;have e1:max q.x0 p.x0=max p.x0 q.x0:=(by omega);have e2:min q.x1 p.x1=min p.x1 q.x1:=(by omega);have e3:max q.y0 p.y0=max p.y0 q.y0:=(by omega);have e4:min q.y1 p.y1=min p.y1 q.y1:=by omega
   first
    |(cases decide (max p.x0 q.x0<min p.x1 q.x1)<;>rfl)
    |(rw [e1,e2,e3,e4];cases decide (max p.x0 q.x0<min p.x1 q.x1)<;>rfl)
theorem ag4{a b:U aA}(hl:a.length<1099511627776)(hn:a.length<n):UE n a b=some (decide (a=b)):=by
 unfold UE;rw[Dh hl hn];rfl
abbrev xe(a b:aA):Bool:=decide (a.y0<b.y0)
theorem aiZ:Go.Sort.SWO xe where
 irrefl x:=by simp[xe]
 trans x y z h1 h2:=by simp only[xe,aW]at *;omega
 ntrans x y z h1 h2:=by simp only[xe,dL]at *;omega
instance:Inhabited aA:=⟨aA.mk 0 0 0 0⟩
theorem KF{l:U aA}{φ:(aA×aA×Unit)->J Int}(f:aA->aA->Int)(hφ:∀x y,φ (x,y,())=some (f x y))(hf:∀x y,decide (f x y<0)=xe x y)(hl:l.length<1099511627776)(_:l.length<n):vv n l φ=some (lH xe l):=
 aek f hφ hf aiZ hl
structure aqE(R:List cB):Prop where
 runs:Runs R
 len:R.length<=200
 col:∀s∈R,Can s.column/\∀q∈s.column,0<=q.from_/\q.from_<q.to/\q.to<=1048576
 xs:∀s∈R,0<=s.x0/\s.x0<s.x1/\s.x1<=1048576
 zr:(R.flatMap λs=>s.column.map (·.from_)).length<=200
theorem ag5(p:Nat->Bool)(N:Nat):(nY p (List.range N)=none->(List.range N).any p=false)/\(∀ i,nY p (List.range N)=some i->(List.range N).any p=true):=by
 refine⟨λ h=>?_,λi h=>?_⟩
 .rw[<- pY,h];rfl
 .rw[<- pY,h];rfl
theorem I9{W O:Type}{step:Int->J (Int⊕(W⊕O))}(N:Nat)(p:Nat->Bool)(w:W)(o:O)
 (h:∀i,i<N->step (i:Int)=some (bif p i then .inr (.inr o)else .inl ((i+1:Nat):Int)))
 (hend:step (N:Int)=some (.inr (.inl w))) (n:Nat) (hn:N<n):iter step n (0:Int)=some (bif (List.range N).any p then .inr o else .inl w):=by
 have:=sF (l:=List.range N) (step:=step) (λ i=>(i:Int)) p w (λ _=>o) (λ i hi=>by
  rw[List.length_range]at hi;rw[List.getElem_range];exact h i hi) (by rw[List.length_range];exact hend) n (by rw[List.length_range];exact hn)
 rw[show ((0:Nat):Int)=0 from rfl]at this;rw[this];have⟨r1,r2⟩:=ag5 p N;cases hf:nY p (List.range N)with
 |none=>rw[r1 hf];rfl
 |some i=>rw[r2 i hf];rfl
theorem Ja{p:U bV}(hl:p.length<=1000)(hn:2000<=n):iter (qb n p (gB p)) n (0:Int)=some (bif (List.range p.length).any (JT p)then .inr false else .inl ()):=by
 refine I9 p.length (JT p) () false (λ i hi=>?_) ?_ n (by omega)
 .have nz:((p.length:Int) !=0)=true:=by simp;intro h;rw[h]at hi;simp at hi
  have md:(i+1)%p.length<p.length:=Nat.mod_lt _ (by omega);have w:i64.wrap ((i:Int)+1)=((i+1:Nat):Int):=bQ (by omega);have g1:bo (gB p) (((0:Nat):Int)+(i:Int))=some (jd p i):=by rw[aX (by rw[eG];exact hi),zf]
  have g2:bo (gB p) (((0:Nat):Int)+(((i+1)%p.length:Nat):Int))=some (jd p ((i+1)%p.length)):=by rw[aX (by rw[eG];exact md),zf]
  obtain⟨r,hr1,hr2⟩:=L9 (n:=n) (pZ p 0) (pZ p i) (by omega);have g3:bo p 0=some (pZ p 0):=by rw[anY (by omega),<- UH]
  have g4:bo p (i:Int)=some (pZ p i):=by rw[bq hi,<- UH]
  have dz:decide ((i:Int)>0)=decide (0<i):=by rw[iY];simp
  have pt:bV.mk (jd p i).mi (jd p i).pS=pZ p i:=rfl;simp only[qb,eG,bO hi,aj,aV hi,g1,g2,af,nz,w,aaE,aV md,pt,Oq,ni,Oo,g3,g4,hr1,hr2,dz,Option.map_some];unfold JT;generalize UI (pZ p i)=b1;generalize (((jd p i).mi==(jd p i).mA)==((jd p i).pS==(jd p i).ue))=b2;generalize (ut (jd p i)==ut (jd p ((i+1)%p.length)))=b3;generalize decide (0<i)=b4;generalize UJ (pZ p 0) (pZ p i)=b5;cases b1<;>cases b2<;>cases b3<;>cases b4<;>cases b5<;>rfl
 .simp only[qb,eG,bW,ak]
theorem Jb{p:U bV}(hl:p.length<=1000)(hn:2000<=n){i:Nat}(hi:i<p.length):
 iter (iR (gB p) (i:Int)) n (((i+2:Nat):Int))=some (bif (List.range p.length).any λk=>decide (i+2<=k)&&S9 p i k then .inr (.inr (.inr false))else .inl ()):=by
 have st:∀k,k<p.length->iR (gB p) (i:Int) (k:Int)=some (bif S9 p i k then .inr (.inr (.inr (.inr false)))else .inl ((k+1:Nat):Int)):=by
  intro k hk;have g1:bo (gB p) (((0:Nat):Int)+(i:Int))=some (jd p i):=by rw[aX (by rw[eG];exact hi),zf]
  have g2:bo (gB p) (((0:Nat):Int)+(k:Int))=some (jd p k):=by rw[aX (by rw[eG];exact hk),zf]
  have w:i64.wrap (i64.wrap ((i:Int)+(p.length:Int)) -(k:Int))=((i+p.length -k:Nat):Int):=by rw[dX (x:=(i:Int)+(p.length:Int)),dX (by omega) (by omega)];omega
  have dz:decide (((i+p.length -k:Nat):Int)>1)=decide (i+p.length -k>1):=by rw[iY,aW,aW];omega
  simp only[iR,eG,bO hk,aj,aV hi,aV hk,g1,g2,af,w,dz,Dj,Oo,Option.map_some,aM k];unfold S9;cases decide (i+p.length -k>1)<;>cases P2 (jd p i) (jd p k)<;>rfl
 have main:∀m k,k+m=p.length->∀f,m<f->iter (iR (gB p) (i:Int)) f (k:Int)=some (bif (List.range p.length).any λj=>decide (k<=j)&&S9 p i j then .inr (.inr (.inr false))else .inl ()):=by
  intro m
  induction m with
  |zero=>
   intro k hk f hf;obtain⟨f,rfl⟩:∃g,f=g+1:=⟨f -1,by omega⟩;have:k=p.length:=(by omega);subst this;have e:((List.range p.length).any λj=>decide (p.length<=j)&&S9 p i j)=false:=by
    rw[Bool.eq_false_iff];intro h;rw[any_eq_true]at h;obtain⟨j,h1,h2⟩:=h;rw[List.mem_range]at h1;simp only[aN,aW]at h2;omega
   rw[e];refine fF ?_;simp only[iR,eG,bW,ak]
  |succ m ih=>
   intro k hk f hf;obtain⟨f,rfl⟩:∃g,f=g+1:=⟨f -1,by omega⟩;have hkl:k<p.length:=(by omega);have h1:=st k hkl;cases hb:S9 p i k with
   |true=>
    rw[hb]at h1;have e:((List.range p.length).any λj=>decide (k<=j)&&S9 p i j)=true:=by
     rw[any_eq_true];exact⟨k,List.mem_range.2 hkl,by simp[hb]⟩
    rw[e];exact fF h1
   |false=>
    rw[hb]at h1;rw[ic h1,ih (k+1) (by omega) f (by omega)];congr 2;rw[iY,any_eq_true,any_eq_true];constructor
    .rintro⟨j,j1,j2⟩;simp only[aN,aW]at j2;exact⟨j,j1,by simp only[aN,aW];exact⟨by omega,j2.2⟩⟩
    .rintro⟨j,j1,j2⟩;simp only[aN,aW]at j2;refine⟨j,j1,?_⟩;simp only[aN,aW];refine⟨?_,j2.2⟩;rcases Nat.lt_or_ge k j with h |h
     .omega
     .have:j=k:=(by omega);subst this;rw[hb]at j2;simp at j2
 by_cases h2:i+2<=p.length
 .exact main (p.length -(i+2)) (i+2) (by omega) n (by omega)
 .obtain⟨n,rfl⟩:∃g,n=g+1:=⟨n -1,by omega⟩;have e:((List.range p.length).any λj=>decide (i+2<=j)&&S9 p i j)=false:=by
   rw[Bool.eq_false_iff];intro h;rw[any_eq_true]at h;obtain⟨j,h1,h2⟩:=h;rw[List.mem_range]at h1;simp only[aN,aW]at h2;omega
  rw[e];have d:decide (((i+2:Nat):Int)<(p.length:Int))=false:=by rw[dL];omega
  refine fF ?_;simp only[iR,eG,d,ak]
theorem Jc{p:U bV}(hl:p.length<=1000)(hn:2000<=n):iter (qc n (gB p)) n (0:Int)=some (bif (List.range p.length).any λi=>(List.range p.length).any λk=>decide (i+2<=k)&&S9 p i k then .inr false else .inl ()):=by
 refine I9 p.length _ () false (λ i hi=>?_) ?_ n (by omega)
 .have w2:i64.wrap ((i:Int)+2)=((i+2:Nat):Int):=by rw[dX (by omega) (by omega)];omega
  simp only[qc,eG,bO hi,aj,w2,Jb hl hn hi,aM i];cases (List.range p.length).any λk=>decide (i+2<=k)&&S9 p i k<;>rfl
 .simp only[qc,eG,bW,ak]
theorem Qu(p:U bV)(hn:2000<=n):vK n p=some (Qs p):=by
 unfold vK Qs;by_cases h4:p.length<4
 .have d1:decide ((p.length:Int)<4)=true:=by simp;omega
  have d2:decide (4<=p.length)=false:=by simp;omega
  rw[d1,d2];rfl
 .have d1:decide ((p.length:Int)<4)=false:=by simp;omega
  have d2:decide (4<=p.length)=true:=by simp;omega
  by_cases h60:p.length>60
  .have d3:decide ((p.length:Int)>60)=true:=(by simp;omega);have d4:decide (p.length<=60)=false:=(by simp;omega);rw[d1,d2,d3,d4];rfl
  .have d3:decide ((p.length:Int)>60)=false:=(by simp;omega);have d4:decide (p.length<=60)=true:=(by simp;omega);have g:bo (gB p) (((0:Nat):Int)+0)=some (jd p 0):=by
    have:=aX (l:=gB p) (i:=0) (by rw[eG];omega);rw[zf]at this;exact this
   have i0:cN 0 (gB p).length=true:=by
    have:=aV (i:=0) (n:=(gB p).length) (by rw[eG];omega);simpa using this
   rw[d1,d2,d3,d4];simp only[ak,af,AU (n:=n) (p:=p) (by omega) (by omega),Ja (n:=n) (p:=p) (by omega) hn,Bool.true_and];cases (List.range p.length).any (JT p)with
   |true=>rfl
   |false=>
    simp only[ak,eO,Jc (n:=n) (p:=p) (by omega) hn];cases (List.range p.length).any λi=>(List.range p.length).any λk=>decide (i+2<=k)&&S9 p i k with
    |true=>rfl
    |false=>
     simp only[ak,eO,i0,aj,g,af,ni];rfl
def Br(p:U bV)(x:Int):U Int:=((gB p).filter λs=>!ut s&&(decide (min s.mi s.mA<=x)&&decide (x<max s.mi s.mA))).map (·.pS)
def Dl(x0 x1:Int):U Int->U aA
 |a::b::l=>⟨x0,a,x1,b⟩::Dl x0 x1 l
 |_=>[]
def oa(p:U bV):U Int:=GM (p.map (·.x))
def Xj(p:U bV):U aA:=(jc (λ a b=>Dl a b (ku ox (Br p a))) (oa p)).flatten
def yw(p:U bV):U aA×Int:=if Qs p=true then(if (Xj p).length>200 then([],6)else(Xj p,0))else([],10)
theorem ag6{p:U bV}(h:Qs p=true):4<=p.length/\p.length<=60:=by
 unfold Qs at h;simp only[aN,aW]at h;exact⟨h.1,h.2.1⟩
theorem Gh{p:U bV}(hl:p.length<=1000)(hn:2000<=n):iter (lM p) n ((0:Int),([]:U Int))=some (p.map (·.x)):=by
 have:=fC (l:=p) (step:=lM p) (λ i (s:List Int)=>((i:Int),s)) (λ r s=>s++[r.x]) (λ s=>s) (λ i s=>s.length<=i)
  (λ i hi s hs=>?_) (λ s hs=>by simp[lM]) n (by omega) [] (aG _)
 .rw[show ((0:Nat):Int)=0 from rfl]at this;rw[this];have gen:∀(ys:U bV)(s:U Int),ys.foldl (λ s r=>s++[r.x]) s=s++ys.map (·.x):=by
   intro ys
   induction ys with
   |nil=>intro s;simp
   |cons y ys ih=>intro s;rw[foldl_cons,ih];simp
  congr 1;simpa using gen p []
 .have ap:bP s.length s.length (sub ([(p[i]).x]:U Int) 0 1).length 1 8=true:=dm (n:=1);simp only[lM,bO hi,aj,bq hi,af,ap,dS,aF];refine⟨?_,by simp;omega⟩;rw[bQ (by omega)];rfl
theorem Gi{p:U bV}(hl:p.length<=1000)(hn:2000<=n)(es:U Int)(i:Nat)(hi:i<es.length):iter (lN ((),es) (gB p) (i:Int)) n ((0:Int),([]:U Int))=some (Br p es[i]):=by
 have:=fC (l:=gB p) (step:=lN ((),es) (gB p) (i:Int)) (λ i (s:List Int)=>((i:Int),s)) (λ r s=>bif !ut r&&(decide (min r.mi r.mA<=es[i])&&decide (es[i] <max r.mi r.mA))then s++[r.pS]else s) (λ s=>s) (λ i s=>s.length<=i)
  (λ j hj s hs=>?_) (λ s hs=>by simp[lN]) n (by rw[eG];omega) [] (aG _)
 .rw[show ((0:Nat):Int)=0 from rfl]at this;rw[this];have gen:∀(ys:U jB)(s:U Int),ys.foldl (λ s r=>bif !ut r&&(decide (min r.mi r.mA<=es[i])&&decide (es[i] <max r.mi r.mA))then s++[r.pS]else s) s=s++(ys.filter λs=>!ut s&&(decide (min s.mi s.mA<=es[i])&&decide (es[i] <max s.mi s.mA))).map (·.pS):=by
   intro ys
   induction ys with
   |nil=>intro s;simp
   |cons y ys ih=>
    intro s;rw[foldl_cons,ih,List.filter_cons];cases !ut y&&(decide (min y.mi y.mA<=es[i])&&decide (es[i] <max y.mi y.mA))<;>simp
  congr 1;exact gen (gB p) []
 .rw[eG]at hj;have g:bo (gB p) (((0:Nat):Int)+(j:Int))=some (gB p)[j]:=aX (by rw[eG];exact hj);have ap:bP s.length s.length (sub ([((gB p)[j]'(by rw[eG];exact hj)).pS]:U Int) 0 1).length 1 8=true:=dm (n:=1);generalize hr:(gB p)[j]'(by rw[eG];exact hj)=r at*;simp only[lN,eG,bO hj,aj,aV hj,g,af,ni,aV hi,aX hi,Oo,ap,dS,aF,aM j];cases ut r<;>cases decide (min r.mi r.mA<=es[i])<;>cases decide (es[i] <max r.mi r.mA)<;>refine⟨rfl,?_⟩<;>simp<;>omega
theorem aaH(x0 x1:Int):∀l:U Int,(Dl x0 x1 l).length<=l.length
 |[]=>by simp[Dl]
 |[_]=>by simp[Dl]
 |a::b::l=>by have:=aaH x0 x1 l;simp only[Dl,bG];omega
theorem Gj(es:U Int)(i:Nat)(hi:i+1<es.length)(he:es.length<=10000)(w2 r8:U Int)(hw:w2.length=r8.length)(hr:r8.length<=1000)(ab:U aA)(ho:ab.length<=10000000)(hn:2000<=n):
 iter (ji ((),es) (i:Int) w2 r8) n ((0:Int),ab)=some (ab++Dl (es[i]'(by omega)) es[i+1] r8):=by
 have main:∀(m k:Nat)(ab:U aA),k+m=r8.length->ab.length<=10000000+k->∀f,m<f->iter (ji ((),es) (i:Int) w2 r8) f ((k:Int),ab)=some (ab++Dl (es[i]'(by omega)) es[i+1] (r8.drop k)):=by
  intro m
  induction m using Nat.strongRecOn with
  |ind m ih=>
   intro k ab hk hko f hf;obtain⟨f,rfl⟩:∃g,f=g+1:=⟨f -1,by omega⟩;have w1:i64.wrap ((k:Int)+1)=((k+1:Nat):Int):=bQ (by omega);have w3:i64.wrap ((k:Int)+2)=((k+2:Nat):Int):=(by rw[dX (by omega) (by omega)];omega);have w4:i64.wrap ((i:Int)+1)=((i+1:Nat):Int):=bQ (by omega);by_cases h2:k+1<r8.length
   .have d:decide (((k+1:Nat):Int)<(w2.length:Int))=true:=(by rw[hw];exact bO h2);have ap:bP ab.length ab.length (sub ([(aA.mk (es[i]'(by omega)) (r8[k]'(by omega)) es[i+1] r8[k+1])]:U aA) 0 1).length 1 32=true:=dm (n:=1);have st:ji ((),es) (i:Int) w2 r8 ((k:Int),ab)=some (.inl (((k+2:Nat):Int),ab++[aA.mk (es[i]'(by omega)) (r8[k]'(by omega)) es[i+1] r8[k+1]])):=by
     simp only[ji,w1,w3,w4,d,aj,aV (show i<es.length by omega),aX (show i<es.length by omega),af,aV (show k<w2.length by omega),aX (show k<r8.length by omega),aV hi,aX hi,aV (show k+1<w2.length by omega),aX h2,ap,dS,aF];rfl
    have dr:r8.drop k=r8[k]::r8[k+1]::r8.drop (k+2):=(by rw[List.drop_eq_getElem_cons (by omega),List.drop_eq_getElem_cons h2]);rw[ic st,ih (m -2) (by omega) (k+2) _ (by omega) (by rw[dP,length_singleton];omega) f (by omega),dr];simp[Dl]
   .have d:decide (((k+1:Nat):Int)<(w2.length:Int))=false:=(by rw[hw,dL];omega);have e:Dl (es[i]'(by omega)) es[i+1] (r8.drop k)=[]:=by
     have hl:(r8.drop k).length<=1:=by rw[length_drop];omega
     match r8.drop k,hl with
     |[],_=>rfl
     |[_],_=>rfl
     |_::_::_,h=>simp at h
    rw[e,append_nil];refine fF ?_;simp only[ji,w1,d,ak,aF,aj]
 have:=main r8.length 0 ab (by omega) (by omega) n (by omega);rw[show ((0:Nat):Int)=0 from rfl,List.drop_zero]at this;exact this
theorem aon(p:U bV):(oa p).length<=p.length:=by
 have h:=rG (ku ox (p.map (·.x)));rw[eY,length_map]at h;exact h
theorem Xk(p:U bV)(x:Int):(Br p x).length<=p.length:=by
 unfold Br;rw[length_map,<- eG p];exact length_filter_le _ _
theorem Jd{α:Type}(b:Nat):∀l:U (List α),(∀ x∈l,x.length<=b)->l.flatten.length<=l.length*b
 |[],_=>by simp
 |x::l,h=>by
  have h1:=Jd b l λy hy=>h y (eX _ hy);have h2:=h x List.mem_cons_self;rw[List.flatten_cons,dP,bG,Nat.add_mul];omega
theorem Gl{p:U bV}(hl:p.length<=1000)(hn:2000<=n):
 iter (lQ n ((),oa p) (gB p)) n ((0:Int),([]:U aA))=some (Xj p):=by
 have hx:=aon p;obtain⟨p1,p2⟩:=rW (λ a b=>Dl a b (ku ox (Br p a))) (oa p)
 let C:=jc (λ a b=>Dl a b (ku ox (Br p a))) (oa p)
 have hC:C.length=(oa p).length -1:=p1;have cl:∀c∈C,c.length<=1000:=by
  intro c hc;obtain⟨i,hi,rfl⟩:=mem_iff_getElem.1 hc;have:=p2 i (by omega) hi;show(C[i]).length<=1000;rw[show C[i]=_ from this];have h1:=aaH (oa p)[i] (oa p)[i+1] (ku ox (Br p (oa p)[i]));rw[eY]at h1;have h2:=Xk p (oa p)[i];omega
 have bl:∀i,((C.take i).flatten).length<=1000*1000:=by
  intro i;have h1:=Jd 1000 (C.take i) λx hx=>cl x (List.mem_of_mem_take hx);have h2:(C.take i).length<=1000:=by rw[length_take];omega
  exact Nat.le_trans h1 (Nat.mul_le_mul_right _ h2)
 have main:=mM (step:=lQ n ((),oa p) (gB p)) (λ i=>((i:Int),(C.take i).flatten)) C.length (Xj p) (λ i hi=>?_) ?_ n (by omega)
 .simpa using main
 .have hi2:i+1<(oa p).length:=by omega
  have hw:i64.wrap ((((oa p).length:Nat):Int) -1)=(C.length:Int):=by rw[dX (by omega) (by omega)];omega
  have bi:=bl i;have cr:=Xk p (oa p)[i];have e:C.take (i+1)=C.take i++[Dl (oa p)[i] (oa p)[i+1] (ku ox (Br p (oa p)[i]))]:=by
   rw[je hi];congr 2;exact p2 i hi2 hi
  simp only[lQ,hw,bO hi,aj,length_nil,aF,Gi hl hn (oa p) i (by omega),af];rw[pM (by omega) (by omega)];simp only[af];rw[Gj (oa p) i hi2 (by omega) (Br p (oa p)[i]) (ku ox (Br p (oa p)[i])) (by rw[eY]) (by rw[eY];omega) _ (by omega) hn];simp only[af,aF,aj,e,List.flatten_append,List.flatten_cons,List.flatten_nil,append_nil,aM i]
 .have hw:i64.wrap ((((oa p).length:Nat):Int) -1)=(((oa p).length:Nat):Int) -1:=dX (by omega) (by omega);have d:decide ((C.length:Int)<(((oa p).length:Nat):Int) -1)=false:=by rw[dL];omega
  simp only[lQ,hw,d,ak,aF,aj,List.take_length];rfl
theorem Oz(p:U bV)(hn:2000<=n):tO n p=some (yw p):=by
 unfold tO yw;rw[Qu p hn];simp only[af];cases hr:Qs p with
 |false=>rfl
 |true=>
  have⟨_,hl⟩:=ag6 hr;simp only[Bool.not_true,ak,length_nil,aF,aj,Gh (n:=n) (p:=p) (by omega) hn,af,if_true];rw[pM (by rw[length_map];omega) (by rw[length_map];omega)];simp only[af,eY,aF,aj];rw[uD (by rw[eY,length_map];omega) (by rw[eY,length_map];omega)];simp only[af,AU (n:=n) (p:=p) (by omega) (by omega)];have hE:gJ (ku ox (p.map (·.x)))=oa p:=rfl;rw[hE,Gl (by omega) hn];simp only[af,bZ,aF,aj];by_cases rh:(Xj p).length>200
  .have:decide ((((Xj p).length:Nat):Int)>200)=true:=(by simp;omega);rw[this,aZ rh];rfl
  .have:decide ((((Xj p).length:Nat):Int)>200)=false:=(by simp;omega);rw[this,aT rh];rfl
theorem aeF(p:U bV):(yw p).1.length<=200:=by
 unfold yw;split
 .split
  .simp
  .simp;omega
 .simp
def aqh(a b:aA):Int:=bif(!ey a || !ey b)then -1 else max (max 0 (i64.wrap ((max a.x0 b.x0) -(min a.x1 b.x1)))) (i64.wrap ((max a.y0 b.y0) -(min a.y1 b.y1)))
theorem amo(a b:aA):OS a b=some (aqh a b):=by
 unfold OS aqh;rw[iy,iy];simp only[af];cases ey a<;>cases ey b<;>rfl
def W8:dw:=dw.mk 0 0 [] []
def mV(land:U dw)(id:Int):dw×Bool:=match land.find? λt=>t.id==id with
 |some t=>(t,true)
 |none=>(W8,false)
theorem Xl{α:Type}(p:α->Bool)(l:U α):(∃ (i:Nat) (h:i<l.length),nY p l=some i/\l.find? p=some l[i])\/(nY p l=none/\l.find? p=none):=by
 rcases Ez p l with ⟨i,hi,h1,h2,h3⟩ |⟨h1,h2⟩
 .refine .inl ⟨i,hi,h1,?_⟩;rw[List.find?_eq_some_iff_getElem];exact⟨h2,i,hi,rfl,λj hj=>by simpa using h3 j hj⟩
 .refine .inr ⟨h1,?_⟩;rw[List.find?_eq_none];intro x hx;rw[h2 x hx];simp
def aqi(t:dx)(name:ByteArray):Int:=match t.rows.find? λe=>ByteArray.toList e.name==ByteArray.toList name with
 |some e=>e.n
 |none=>t.sn
theorem Xm{α:Type}(p:α->Bool)(l:U α):(∃ (i:Nat) (h:i<l.length),xg p l=(i:Int)/\l.find? p=some l[i])\/(xg p l= -1/\l.find? p=none):=by
 rcases Xl p l with ⟨i,hi,h1,h2⟩ |⟨h1,h2⟩
 .exact .inl ⟨i,hi,by simp[xg,h1],h2⟩
 .exact .inr ⟨by simp[xg,h1],h2⟩
def amr:U ByteArray:=[⟨#[104,111,109,101]⟩,⟨#[115,104,111,112]⟩,⟨#[119,111,114,107]⟩,⟨#[112,97,114,107]⟩,⟨#[112,108,97,110,116]⟩,⟨#[104,97,108,108]⟩]
def nameOf(use:Int):J ByteArray:=bo amr use
theorem OA{V O:Type}{step:V->J (V⊕O)}(R:Nat->V->Prop)(N:Nat)(Q:O->Prop)(h:∀i v,i<N->R i v->∃v',step v=some (.inl v')/\R (i+1) v')(hN:∀v,R N v->∃o,step v=some (.inr o)/\Q o):
 ∀n,N<n->∀v,R 0 v->∃o,iter step n v=some o/\Q o:=by
 have main:∀k i n v,i+k=N->k<n->R i v->∃o,iter step n v=some o/\Q o:=by
  intro k
  induction k with
  |zero=>
   intro i n v hi hn hR;obtain⟨m,rfl⟩:∃m,n=m+1:=⟨n -1,by omega⟩;have:i=N:=(by omega);subst this;have⟨o,h1,h2⟩:=hN v hR;exact⟨o,fF h1,h2⟩
  |succ k ih=>
   intro i n v hi hn hR;obtain⟨m,rfl⟩:∃m,n=m+1:=⟨n -1,by omega⟩;obtain⟨v',h1,h2⟩:=h i v (by omega) hR;obtain⟨o,h3,h4⟩:=ih (i+1) m v' (by omega) (by omega) h2;exact⟨o,by rw[ic h1,h3],h4⟩
 intro n hn v hR;exact main N 0 n v (by omega) hn hR
def Bt(z:dN):U aA:=if (yw z.corners).2=0 then(yw z.corners).1 else []
theorem Xn(z:dN):(Bt z).length<=200:=by
 unfold Bt;split
 .exact aeF _
 .simp
theorem FV(z:dN)(hn:2000<=n):tQ n z=some (Bt z):=by
 unfold tQ Bt;rw[Oz _ hn];simp only[af,bZ,aF,aj];by_cases h:(yw z.corners).2=0
 .have:((yw z.corners).2 !=0)=false:=by simp[h]
  rw[this,aZ h];rfl
 .have:((yw z.corners).2 !=0)=true:=by simp[h]
  rw[this,aT h];rfl
def FW(a b:aA):aA:=⟨max a.x0 b.x0,max a.y0 b.y0,min a.x1 b.x1,min a.y1 b.y1⟩
theorem uH(a:aA):sH a=some (bif ey a then(a,true)else(⟨0,0,0,0⟩,false)):=by
 unfold sH;rw[iy];simp only[af,Oo]
theorem zi(a b:aA):sI a b=some (bif ey a&&(ey b&&ey (FW a b))then(FW a b,true)else(⟨0,0,0,0⟩,false)):=by
 unfold sI;rw[iy,iy];simp only[af,Oo];rw[show aA.mk (max a.x0 b.x0) (max a.y0 b.y0) (min a.x1 b.x1) (min a.y1 b.y1)=FW a b from rfl,uH];simp only[af];generalize ey (FW a b)=c;cases ey a<;>cases ey b<;>cases c<;>rfl
def Ly(r:aA):Int:=i64.wrap (i64.wrap (r.x1 -r.x0)*i64.wrap (r.y1 -r.y0))
theorem Dm{r:aA}(h:ey r=true):oU r=some (Ly r):=by
 unfold oU;rw[uH,h];rfl
def Xo(x:aA)(n:Int)(y:aA):Int:=bif ey x&&(ey y&&ey (FW x y))then i64.wrap (n+Ly (FW x y))else n
def AX(a b:U aA):Int:=a.foldl (λ n x=>b.foldl (Xo x) n) 0
theorem aoo{α β:Type}(c:Bool)(a:α)(u v:β):(bif c then(a,u)else(a,v)).1=a:=by cases c<;>rfl
theorem Je(b:U aA)(x:aA)(hb:b.length<=1000)(hn:2000<=n)(m u v:Int):∃o,iter (qd n b x) n (m,(0:Int),u,v)=some o/\o.1=b.foldl (Xo x) m:=by
 refine OA (λ i (w:Int×Int×Int×Int)=>w.2.1=(i:Int)/\w.1=(b.take i).foldl (Xo x) m) b.length (λ (o:Int×Int×Int)=>o.1=b.foldl (Xo x) m) (λ i w hi hR=>?_) (λ w hR=>?_) n (by omega) _ ⟨rfl,rfl⟩
 .obtain⟨w1,w2,w3,w4⟩:=w;obtain⟨h1,h2⟩:=hR;simp only at h1 h2;subst h1;have e:(b.take (i+1)).foldl (Xo x) m=Xo x w1 b[i]:=by rw[je hi,List.foldl_append,<- h2];rfl
  simp only[qd,bO hi,aj,bq hi,af,zi];have e0:Xo x w1 b[i]=bif ey x&&(ey b[i]&&ey (FW x b[i]))then i64.wrap (w1+Ly (FW x b[i]))else w1:=rfl;rw[e0]at e;cases hc:ey x&&(ey b[i]&&ey (FW x b[i]))with
  |false=>
   rw[hc]at e;simp only[ak,Bool.not_false,aj,af];exact⟨_,rfl,bQ (by omega),e.symm⟩
  |true=>
   rw[hc]at e;have hcc:ey (FW x b[i])=true:=by
    revert hc;generalize ey (FW x b[i])=c;cases c
    .cases ey x<;>cases ey b[i]<;>simp
    .simp
   simp only[aj,Bool.not_true,ak,Dm hcc,af,kI];rw[show ∀u v:Int,sub [u,v] 0 2=[u,v]from λ_ _=>rfl,Xb _ _ (by omega)];simp only[af,Oo];simp only[show ∀u v:Int,aE [u,v].length 2=true from λ_ _=>rfl,aj,af];refine⟨_,rfl,aM i,?_⟩;rw[e];exact aoo _ _ _ _
 .obtain⟨w1,w2,w3,w4⟩:=w;obtain⟨h1,h2⟩:=hR;simp only at h1 h2;subst h1;simp only[qd,bW,ak];exact⟨_,rfl,by rw[h2,List.take_length]⟩
theorem Dn(a b:U aA)(ha:a.length<=1000)(hb:b.length<=1000)(hn:2000<=n):∃q,qM n a b=some (AX a b,q):=by
 unfold qM;obtain⟨o,h1,h2⟩:=OA (step:=qf n a b) (λ i (w:Int×Int×Int×Int)=>w.2.1=(i:Int)/\w.1=(a.take i).foldl (λ n x=>b.foldl (Xo x) n) 0) a.length (λ (o:Int×Int×Int)=>o.1=AX a b) (λ i w hi hR=>by
  obtain⟨w1,w2,w3,w4⟩:=w;obtain⟨h1,h2⟩:=hR;simp only at h1 h2;subst h1;have⟨o,g1,g2⟩:=Je (n:=n) b a[i] hb hn w1 w3 w4;obtain⟨o1,o2,o3⟩:=o;simp only[qf,bO hi,aj,bq hi,af,g1];refine⟨_,rfl,bQ (by omega),?_⟩;simp only at g2;rw[je hi,List.foldl_append,<- h2,g2];rfl) (λ w hR=>by
  obtain⟨w1,w2,w3,w4⟩:=w;obtain⟨h1,h2⟩:=hR;simp only at h1 h2;subst h1;simp only[qf,bW,ak];exact⟨_,rfl,by rw[h2,List.take_length];rfl⟩) n (by omega) (0,0,1048576,0) ⟨rfl,rfl⟩
 obtain⟨o1,o2,o3⟩:=o;simp only at h2;subst h2;exact⟨_,by rw[h1];rfl⟩
def yx(zs:U dN)(area:U aA):U Int:=bif c8 area then zs.map λz=>AX area (Bt z)else []
theorem Qv(p:bU)(a:U aA)(hz:p.zones.length<=100)(ha:a.length<=900)(hn:2000<=n):vM n p a=some (yx p.zones a):=by
 unfold vM yx;rw[l6 (by omega) (by omega) (by omega)];simp only[af];cases c8 a with
 |false=>rfl
 |true=>
  have:=fC (l:=p.zones) (step:=qg n p a) (λ i (s:List Int)=>((i:Int),s)) (λ z s=>s++[AX a (Bt z)]) (λ s=>s) (λ i s=>s.length<=i)
   (λ i hi s hs=>?_) (λ s hs=>by simp[qg]) n (by omega) [] (aG _)
  .rw[show ((0:Nat):Int)=0 from rfl]at this;simp only[Bool.not_true,ak,length_nil,aF,aj,this,af,bZ];congr 1;have gen:∀(ys:U dN) (s:U Int),ys.foldl (λ s z=>s++[AX a (Bt z)]) s=s++ys.map λz=>AX a (Bt z):=by
    intro ys
    induction ys with
    |nil=>intro s;simp
    |cons y ys ih=>intro s;rw[foldl_cons,ih];simp
   exact gen p.zones []
  .have cl:=Xn p.zones[i];obtain⟨q,hq⟩:=Dn (n:=n) a (Bt p.zones[i]) (by omega) (by omega) hn;have ap:bP s.length s.length (sub ([AX a (Bt p.zones[i])]:U Int) 0 1).length 1 8=true:=dm (n:=1);simp only[qg,bO hi,aj,bq hi,af,FV _ hn,bZ,aF,hq,ap,dS];refine⟨?_,by simp;omega⟩;rw[bQ (by omega)];rfl
theorem Sd(zs:U dN)(a:U aA):(yx zs a).length<=zs.length:=by
 unfold yx;cases c8 a<;>simp
def xH(zs:U dN)(l:U Int)(m:Nat):Int:=(List.range m).foldl (λ (b:Int) i=>if (!((zs.getD i ⟨⟨#[]⟩,false,[]⟩).overlay)&&(decide (l.getD i 0>0)&&(decide (b<0) || decide (l.getD i 0>l.getD b.toNat 0))))=true then(i:Int)else b) (-1)
def Fe(zs:U dN)(l:U Int)(i:Nat):Bool:=decide ((i:Int)=xH zs l l.length) || ((zs.getD i ⟨⟨#[]⟩,false,[]⟩).overlay&&decide (l.getD i 0>0))
def E6(zs:U dN)(area:U aA):U ByteArray:=((List.range (yx zs area).length).filter (Fe zs (yx zs area))).map λi=>(zs.getD i ⟨⟨#[]⟩,false,[]⟩).name
theorem Sg(zs:U dN)(l:U Int):∀m,xH zs l m= -1\/∃k:Nat,k<m/\xH zs l m=(k:Int)
 | 0=> .inl rfl
 |m+1=>by
  have ih:=Sg zs l m;unfold xH;rw[List.range_succ,List.foldl_append];simp only[foldl_cons,List.foldl_nil];split
  .exact .inr ⟨m,by omega,rfl⟩
  .rcases ih with h |⟨k,h1,h2⟩
   .exact .inl h
   .exact .inr ⟨k,by omega,h2⟩
theorem Jf{α:Type}{l:U α}{i:Nat}(d:α)(h:i<l.length):l.getD i d=l[i]:=by simp[h]
theorem Qw(p:bU)(l:U Int)(hl:l.length<=p.zones.length)(hz:p.zones.length<=100)(hn:2000<=n):iter (qh p l) n (((-1):Int),(0:Int))=some (xH p.zones l l.length):=by
 have main:=mM (step:=qh p l) (λ i=>(xH p.zones l i,(i:Int))) l.length (xH p.zones l l.length) (λ i hi=>?_) (by simp[qh]) n (by omega)
 .exact main
 .have hz':i<p.zones.length:=by omega
  have e:xH p.zones l (i+1)=if (!(p.zones[i]).overlay&&(decide (l[i]>0)&&(decide (xH p.zones l i<0) || decide (l[i]>l.getD (xH p.zones l i).toNat 0))))=true then(i:Int)else xH p.zones l i:=by
   conv=>lhs;unfold xH
   rw[List.range_succ,List.foldl_append];simp only[foldl_cons,List.foldl_nil,Jf _ hz',Jf _ hi];rfl
  rw[e];rcases Sg p.zones l i with h |⟨k,h1,h2⟩
  .rw[h];have d:decide ((-1:Int)<0)=true:=rfl;simp only[qh,bO hi,aj,aV hi,aX hi,af,bq hz',d,Oo,Bool.true_or,Bool.and_true,aM i];cases (p.zones[i]).overlay<;>cases decide (l[i]>0)<;>rfl
  .rw[h2];have d:decide ((k:Int)<0)=false:=(by simp);have hk:k<l.length:=(by omega);simp only[qh,bO hi,aj,aV hi,aX hi,af,bq hz',d,Oo,Bool.false_or,ak,aV hk,aX hk,Int.toNat_natCast,Jf _ hk,aM i];cases (p.zones[i]).overlay<;>cases decide (l[i]>0)<;>cases decide (l[i]>l[k])<;>rfl
theorem OC(p:bU)(a:U aA)(hz:p.zones.length<=100)(ha:a.length<=900)(hn:2000<=n):sK n p a=some (E6 p.zones a):=by
 unfold sK;have sl:=Sd p.zones a;rw[Qv p a hz ha hn];simp only[af];rw[Qw p _ sl hz hn];simp only[af,length_nil,aF,aj];unfold E6;generalize hL:yx p.zones a=l at*
 have:=fC (l:=List.range l.length) (step:=xR p l (xH p.zones l l.length)) (λ i (s:List ByteArray)=>((i:Int),s)) (λ i s=>bif Fe p.zones l i then s++[(p.zones.getD i ⟨⟨#[]⟩,false,[]⟩).name]else s) (λ s=>s) (λ i s=>s.length<=i)
  (λ i hi s hs=>?_) (λ s hs=>by rw[List.length_range];simp[xR]) n (by rw[List.length_range];omega) [] (aG _)
 .rw[show ((0:Nat):Int)=0 from rfl]at this;simp only[this,af,bZ,aF,aj];congr 1;have gen:∀(ys:U Nat)(s:U ByteArray),ys.foldl (λ s i=>bif Fe p.zones l i then s++[(p.zones.getD i ⟨⟨#[]⟩,false,[]⟩).name]else s) s=s++(ys.filter (Fe p.zones l)).map λi=>(p.zones.getD i ⟨⟨#[]⟩,false,[]⟩).name:=by
   intro ys
   induction ys with
   |nil=>intro s;simp
   |cons y ys ih=>
    intro s;rw[foldl_cons,ih,List.filter_cons];cases Fe p.zones l y<;>simp
  exact gen (List.range l.length) []
 .rw[List.length_range]at hi;have hz':i<p.zones.length:=by omega
  rw[List.getElem_range];have ap:bP s.length s.length (sub ([(p.zones[i]).name]:U ByteArray) 0 1).length 1 16=true:=dm (n:=1);have hb:((i:Int)==xH p.zones l l.length)=decide ((i:Int)=xH p.zones l l.length):=by rw[iY];simp
  simp only[xR,bO hi,aj,aV hi,aX hi,af,bq hz',hb,Oo,ap,dS,aF,Fe,Jf _ hz',Jf _ hi,aM i];cases decide ((i:Int)=xH p.zones l l.length)<;>cases (p.zones[i]).overlay<;>cases decide (l[i]>0)<;>refine⟨rfl,?_⟩<;>simp<;>omega
theorem aop(zs:U dN)(a:U aA):(E6 zs a).length<=zs.length:=by
 unfold E6;rw[length_map];have h1:=length_filter_le (Fe zs (yx zs a)) (List.range (yx zs a).length);rw[List.length_range]at h1;have:=Sd zs a;omega
def lw(a b:ByteArray):Bool:=ByteArray.toList a==ByteArray.toList b
theorem uR{l:U ByteArray}{a:ByteArray}(hl:l.length<1099511627776)(hn:l.length<n):fJ n l a=some (l.any (lw a)):=by
 unfold fJ;have e:rz n l a=abL n (λ x=>ByteArray.toList a==ByteArray.toList x) l:=by kernel_rfl
 rw[e,RZ hl hn,af,xM];rfl
theorem qo{l:U ByteArray}{φ:(ByteArray×Unit)->J Bool}(p:ByteArray->Bool)(h:∀x∈l,φ (x,())=some (p x))(hl:l.length<1099511627776)(hn:l.length<n):fO n l φ=some (l.any p):=by
 unfold fO;have e:qz n l φ=wE n l φ:=by kernel_rfl
 rw[e,fK p h hl hn,af,xM]
def UK(r:bK)(zs:U ByteArray):Bool:=(decide (r.zones=[]) || r.zones.any λz=>zs.any (lw z))&&!(r.except.any λz=>zs.any (lw z))
theorem Qx(r:bK)(zs:U ByteArray)(h1:r.zones.length<=100)(h2:r.except.length<=100)(h3:zs.length<=100)(hn:2000<=n):qN n r zs=some (UK r zs):=by
 have hf:∀x:ByteArray,jZ n x zs=some (zs.any (lw x)):=λx=>by unfold jZ;rw[uR (by omega) (by omega)];rfl
 unfold qN UK;rw[qo (λ z=>zs.any (lw z)) (λ x _=>hf x) (by omega) (by omega),qo (λ z=>zs.any (lw z)) (λ x _=>hf x) (by omega) (by omega)];simp only[af,Oo];have e:((r.zones.length:Int)==0)=decide (r.zones=[]):=by
  rw[iY,beq_iff_eq,aW];constructor
  .intro h;exact List.length_eq_zero_iff.1 (by omega)
  .intro h;rw[h];rfl
 rw[e];cases decide (r.zones=[])<;>cases (r.zones.any λz=>zs.any (lw z))<;>cases (r.except.any λz=>zs.any (lw z))<;>rfl
def oC(zs:U ByteArray)(day:Int)(r:bK):Bool:=decide (r.from_<=day)&&((r.jj==0 || decide (day<r.jj))&&UK r zs)
def zk(rules:U bK)(zs:U ByteArray)(day:Int):U Nat:=(List.range rules.length).filter λi=>(rules[i]?).any (oC zs day)
abbrev Qy(r:bK):Prop:=r.zones.length<=100/\r.except.length<=100
theorem FX(p:bU)(zs:U ByteArray)(day:Int)(hr:∀r∈p.rules,Qy r)(hl:p.rules.length<=100)(h3:zs.length<=100)(hn:2000<=n):nN n p zs day=some ((zk p.rules zs day).map λ(i:Nat)=>(i:Int)):=by
 unfold nN zk
 have:=fC (l:=List.range p.rules.length) (step:=rC n p zs day) (λ i (s:List Int)=>((i:Int),s)) (λ i s=>bif(p.rules[i]?).any (oC zs day)then s++[(i:Int)]else s) (λ s=>s) (λ i s=>s.length<=i)
  (λ i hi s hs=>?_) (λ s hs=>by rw[List.length_range];simp[rC]) n (by rw[List.length_range];omega) [] (aG _)
 .rw[show ((0:Nat):Int)=0 from rfl]at this;simp only[length_nil,aF,aj,this,af,bZ];congr 1;have gen:∀(ys:U Nat)(s:U Int),ys.foldl (λ s (i:Nat)=>bif(p.rules[i]?).any (oC zs day)then s++[(i:Int)]else s) s=s++(ys.filter λi=>(p.rules[i]?).any (oC zs day)).map λ(i:Nat)=>(i:Int):=by
   intro ys
   induction ys with
   |nil=>intro s;simp
   |cons y ys ih=>
    intro s;rw[foldl_cons,ih,List.filter_cons];cases (p.rules[y]?).any (oC zs day)<;>simp
  exact gen (List.range p.rules.length) []
 .rw[List.length_range]at hi;rw[List.getElem_range];obtain⟨o1,o2⟩:=hr _ (getElem_mem hi);have ap:bP s.length s.length (sub ([(i:Int)]:U Int) 0 1).length 1 8=true:=dm (n:=1);have eg:(p.rules[i]?).any (oC zs day)=oC zs day p.rules[i]:=by rw[dU hi];rfl
  rw[eg];simp only[rC,bO hi,aj,bq hi,af,Qx _ zs o1 o2 h3 hn,Oo,ap,dS,aF,oC,aM i];cases decide ((p.rules[i]).from_<=day)<;>cases (p.rules[i]).jj==0<;>cases decide (day<(p.rules[i]).jj)<;>cases UK p.rules[i] zs<;>refine⟨rfl,?_⟩<;>simp<;>omega
def Xp(p:d9):Bool:=decide (0<=p.side/\p.side<=3)&&(decide (0<=p.base/\p.base<=4096)&&(decide (0<=p.num/\p.num<=4096)&&decide (1<=p.den/\p.den<=4096)))
theorem ams(p:d9):Xp p=true↔(0<=p.side/\p.side<=3)/\(0<=p.base/\p.base<=4096)/\(0<=p.num/\p.num<=4096)/\(1<=p.den/\p.den<=4096):=by simp only[Xp,aN,aW]
theorem Td(a b c:Int):nQ a b c=some (decide (b<=a/\a<=c)):=by
 unfold nQ;by_cases h1:b<=a
 .have d:decide (b<=a)=true:=by simpa using h1
  rw[d,aj];congr 1;rw[iY];simp[h1]
 .have d:decide (b<=a)=false:=by simpa using h1
  rw[d,ak];congr 1;rw[iY];simp[h1]
theorem Xq(p:d9):Aw p=some (Xp p):=by
 unfold Aw Xp;simp only[Td,af,Oo];generalize decide (0<=p.side/\p.side<=3)=a;generalize decide (0<=p.base/\p.base<=4096)=b;generalize decide (0<=p.num/\p.num<=4096)=c;cases a<;>cases b<;>cases c<;>rfl
theorem Bu{l:U d9}{φ:(d9×Unit)->J Bool}(p:d9->Bool)(h:∀x∈l,φ (x,())=some (p x))(hl:l.length<1099511627776)(hn:l.length<n):kM n l φ=some (l.any p):=by
 unfold kM;have e:rT n l φ=wE n l φ:=by kernel_rfl
 rw[e,fK p h hl hn,af,xM]
def Ff(b:aA)(l:U d9):Bool:=ey b&&!(l.any λp=>!Xp p)
theorem Xr(b:aA)(l:U d9)(hl:l.length<=1000)(hn:2000<=n):Ay n b l=some (Ff b l):=by
 unfold Ay Ff;rw[iy,Bu (λ p=>!Xp p) (λ p _=>by show uf p=_;unfold uf;rw[Xq];rfl) (by omega) (by omega)];simp only[af,Oo];cases ey b<;>rfl
theorem ag7{a n:Int}(hn:0<n):(if Int.tmod a n<0 then Int.tdiv a n -1 else Int.tdiv a n)=a/n:=by
 have h1:=Int.mul_ediv_add_emod a n;have h2:=Int.emod_nonneg a (by omega:n≠0);have h3:=Int.emod_lt_of_pos a hn;rcases Int.le_total 0 a with h |h
 .have e1:Int.tmod a n=a%n:=Int.tmod_eq_emod_of_nonneg h;have e2:Int.tdiv a n=a/n:=Int.tdiv_eq_ediv_of_nonneg h;rw[e1,e2,aT (by omega)]
 .obtain⟨b,rfl⟩:∃b,a= -b:=⟨-a,by omega⟩;have hb:0<=b:=by omega
  have e1:Int.tmod (-b) n= -(b%n):=by rw[Int.neg_tmod,Int.tmod_eq_emod_of_nonneg hb]
  have e2:Int.tdiv (-b) n= -(b/n):=by rw[Int.neg_tdiv,Int.tdiv_eq_ediv_of_nonneg hb]
  have g1:=Int.mul_ediv_add_emod b n;have g2:=Int.emod_nonneg b (by omega:n≠0);have g3:=Int.emod_lt_of_pos b hn;rw[e1,e2];by_cases hm:b%n=0
  .rw[aT (by omega)];have:(-b)/n= -(b/n):=by
    refine(Int.ediv_eq_iff_of_pos hn).2 ?_;constructor
    .rw[Int.neg_mul,Int.mul_comm (b/n)];omega
    .rw[Int.neg_mul,Int.mul_comm (b/n)];omega
   omega
  .rw[aZ (by omega)];have:(-b)/n= -(b/n) -1:=by
    refine(Int.ediv_eq_iff_of_pos hn).2 ?_;constructor
    .rw[Int.sub_mul,Int.neg_mul,Int.mul_comm (b/n)];omega
    .rw[Int.sub_mul,Int.neg_mul,Int.mul_comm (b/n)];omega
   omega
theorem OD{a n:Int}(hn:0<n)(ha: -4611686018427387904<=a/\a<=4611686018427387904):ug a n=some (a/n):=by
 have nz:(n !=0)=true:=by simp;omega
 have hb: -4611686018427387904<=a/n/\a/n<=4611686018427387904:=by
  constructor
  .rw[Int.le_ediv_iff_mul_le hn];have: -4611686018427387904*n<= -4611686018427387904:=(by omega);omega
  .rcases Int.le_total 0 a with h |h
   .have:=Int.ediv_le_self n h;omega
   .have:a/n<=0:=by
     have:=(Int.ediv_lt_iff_lt_mul (a:=a) (b:=1) hn).2 (by omega);omega
    omega
 have hf:=ag7 (a:=a) hn;have ht: -4611686018427387904<=Int.tdiv a n/\Int.tdiv a n<=4611686018427387905:=by split at hf<;>omega
 unfold ug;simp only[nz,aj];rw[dX (x:=Int.tdiv a n),dX (x:=Int.tdiv a n -1),<- hf];by_cases h:Int.tmod a n<0
 .have d:decide (Int.tmod a n<0)=true:=by simpa using h
  rw[d,aZ h];rfl
 .have d:decide (Int.tmod a n<0)=false:=by simpa using h
  rw[d,aT h];rfl
def Xt(b:aA)(side x y:Int):Int:=if side=0 then x -b.x0 else if side=1 then b.x1 -1 -x else if side=2 then y -b.y0 else b.y1 -1 -y
def aqj(b:aA)(p:d9)(x y:Int):Int:=p.base+p.num*Xt b p.side x y/p.den
def Y0(b:aA)(l:U d9)(x y:Int):Int:=l.foldl (λ h p=>min h (aqj b p x y)) 4096
abbrev InG(x y:Int):Prop:=(0<=x/\x<1048576)/\(0<=y/\y<1048576)
theorem aeH{b:aA}(hb:ey b=true){x y:Int}(h:InG x y)(side:Int): -1048576<=Xt b side x y/\Xt b side x y<=1048576:=by
 simp only[ey,aN,aW]at hb;obtain⟨h1,h2⟩:=h;unfold Xt;split
 .omega
 .split
  .omega
  .split<;>omega
theorem akm{a d:Int}(ha:0<=a/\a<=4096)(hd: -1048576<=d/\d<=1048576): -4294967296<=a*d/\a*d<=4294967296:=by
 have h1:a*d<=a*1048576:=Int.mul_le_mul_of_nonneg_left hd.2 ha.1;have h2:a*(-1048576)<=a*d:=Int.mul_le_mul_of_nonneg_left hd.1 ha.1;omega
theorem akn{a n:Int}(hn:0<n)(ha: -4294967296<=a/\a<=4294967296): -4294967296<=a/n/\a/n<=4294967296:=by
 constructor
 .rw[Int.le_ediv_iff_mul_le hn];omega
 .rcases Int.le_total 0 a with h |h
  .have:=Int.ediv_le_self n h;omega
  .have:=(Int.ediv_lt_iff_lt_mul (a:=a) (b:=1) hn).2 (by omega);omega
theorem ab5{b:aA}{l:U d9}{x y:Int}(hb:ey b=true)(hp:∀p∈l,Xp p=true)(h:InG x y)(hl:l.length<=1000)(hn:2000<=n):Ki n b l x y=some (Y0 b l x y):=by
 unfold Ki xu;have hr:=hb;simp only[ey,aN,aW]at hr;obtain⟨h1,h2⟩:=h;rw[dX (x:=x -b.x0),dX (x:=b.x1 -1),dX (x:=b.x1 -1 -x),dX (x:=y -b.y0),dX (x:=b.y1 -1),dX (x:=b.y1 -1 -y)];simp only[af];have:=oI (l:=l) (step:=xZ b l x y ⟨x -b.x0,b.x1 -1 -x,y -b.y0,b.y1 -1 -y⟩) (λ i (s:Int)=>(s,(i:Int))) (λ p s=>min s (aqj b p x y)) (λ s=>s) (λ i hi s=>?_) (λ s=>by simp[xZ]) n (by omega) 4096
 .rw[show ((0:Nat):Int)=0 from rfl]at this;rw[this];rfl
 .obtain⟨s1,s2,s3,s4⟩:=(ams _).1 (hp _ (getElem_mem hi));have ib:cN (l[i]).side 4=true:=by simp[cN];omega
  have g:bo ([x -b.x0,b.x1 -1 -x,y -b.y0,b.y1 -1 -y]:U Int) (l[i]).side=some (Xt b (l[i]).side x y):=by
   have hs:(l[i]).side=0\/(l[i]).side=1\/(l[i]).side=2\/(l[i]).side=3:=(by omega);rcases hs with e |e |e |e<;>rw[e]<;>simp[bo,Xt]
  have db:=aeH hb ⟨h1,h2⟩ (l[i]).side;have mb:=akm s3 db;have dv:=akn (n:=(l[i]).den) (by omega) mb;simp only[xZ,bO hi,aj,bq hi,af,ib,g];rw[dX (x:=(l[i]).num*Xt b (l[i]).side x y),OD (by omega) (by omega)];simp only[af];rw[dX (x:=(l[i]).base+_),bQ (by omega)];rfl
theorem aeI(b:aA)(l:U d9):Ff b l=true↔ey b=true/\∀p∈l,Xp p=true:=by
 unfold Ff;rw[aN,Bool.not_eq_true',List.any_eq_false];simp
def Fo(x:fV):Bool:=decide (x.z0<0) || (decide (x.z0>=x.z1) || (decide (x.z1>4096) || (decide (x.area=[]) || !c8 x.area)))
def As(p:J fV×fV):Bool:=Fo p.2 || p.1.any λq=>decide (q.z1>p.2.z0) || (q.z1==p.2.z0&&decide (q.area=p.2.area))
def Bv(s:U fV):U (Option fV×fV):=(none::s.map some).zip s
def Fg(s:U fV):Bool:=decide (s.length<=80)&&!((Bv s).any As)
theorem pO(s:U fV):(Bv s).length=s.length:=by simp[Bv]
theorem Fh{s:U fV}{i:Nat}(h:i<(Bv s).length):(Bv s)[i]=(if h0:i=0 then none else some (s[i -1]'(by rw[pO]at h;omega)),s[i]'(by rw[pO]at h;exact h)):=by
 simp only[Bv,List.getElem_zip,Prod.mk.injEq,and_true];cases i with
 |zero=>simp
 |succ i=>simp
theorem Si{s:U fV}(ha:∀x∈s,x.area.length<=900)(hn:1000<=n):IL n s=some (Fg s):=by
 unfold IL Fg;by_cases h80:s.length<=80
 .have d:decide ((s.length:Int)>80)=false:=by simp;omega
  have d2:decide (s.length<=80)=true:=by simpa using h80
  have z:∀l:U aA,(((l.length:Int))==0)=decide (l=[]):=λl=>by cases l<;>simp<;>omega
  have:=sF (l:=Bv s) (step:=Az n s) (λ i=>(i:Int)) As () (λ _=>false) (λ i hi=>?_) ?_ n (by rw[pO];omega)
  .rw[show ((0:Nat):Int)=0 from rfl]at this;rw[d,d2,this,<- Qt];cases nY As (Bv s)<;>rfl
  .rw[Fh];rw[pO]at hi;have hi':decide ((i:Int)<(s.length:Int))=true:=(by simpa using hi);have h1:=ha _ (getElem_mem hi);simp only[Az,hi',aj,bq hi,af,z,l6 (n:=n) (l:=s[i].area) (by omega) (by omega) hn,As];rw[bQ (by omega)];have b:((bif decide (s[i].z0<0)then some true else bif decide (s[i].z0>=s[i].z1)then some true else bif decide (s[i].z1>4096)then some true else bif decide (s[i].area=[])then some true else some (!c8 s[i].area)):J Bool)=some (Fo s[i]):=by
    unfold Fo;cases decide (s[i].z0<0)<;>cases decide (s[i].z0>=s[i].z1)<;>cases decide (s[i].z1>4096)<;>cases decide (s[i].area=[])<;>rfl
   rw[b];simp only[af];cases Fo s[i]with
   |true=>simp[dH]
   |false=>
    by_cases h0:i=0
    .subst h0;have:((((0:Nat):Int))==0)=true:=rfl;simp only[this,aj,ak,eO,dif_pos,Option.any_none,Bool.or_false]
    .have e0:((i:Int)==0)=false:=(by simp;omega);have w:i64.wrap ((i:Int) -1)=((i -1:Nat):Int):=mX (by omega) (by omega);have h2:=ha _ (getElem_mem (show i -1<s.length by omega));simp only[e0,ak,w,bq (show i -1<s.length by omega),af,ag4 (n:=n) (a:=s[i -1].area) (b:=s[i].area) (by omega) (by omega),h0,dif_neg,not_false_eq_true,Option.any_some,Bool.false_or];cases decide (s[i -1].z1>s[i].z0)with
     |true=>simp[dH]
     |false=>
      cases s[i -1].z1==s[i].z0 with
      |false=>simp[dH]
      |true=>cases decide (s[i -1].area=s[i].area)<;>simp[dH]
  .rw[pO];simp[Az]
 .have d:decide ((s.length:Int)>80)=true:=by simp;omega
  have d2:decide (s.length<=80)=false:=by simpa using h80
  rw[d,d2];rfl
structure amt(x:fV):Prop where
 lo:0<=x.z0
 lt:x.z0<x.z1
 hi:x.z1<=4096
 ne:x.area≠[]
 rt:c8 x.area=true
def aqk(s:U fV):Prop:=∀i (h:i+1<s.length),s[i].z1<=s[i+1].z0/\¬(s[i].z1=s[i+1].z0/\s[i].area=s[i+1].area)
theorem aeK(x:fV):Fo x=false↔amt x:=by
 unfold Fo;simp only[Bool.or_eq_false_iff,dL,Bool.not_eq_false'];constructor
 .rintro⟨h1,h2,h3,h4,h5⟩;exact⟨by omega,by omega,by omega,h4,h5⟩
 .rintro⟨h1,h2,h3,h4,h5⟩;exact⟨by omega,by omega,by omega,h4,h5⟩
theorem Xu(s:U fV):Fg s=true↔s.length<=80/\(∀ x∈s,amt x)/\aqk s:=by
 unfold Fg;rw[aN,aW,Bool.not_eq_true',List.any_eq_false];refine and_congr_right λ_=>?_;constructor
 .intro h;have key:∀i (hi:i<s.length),As ((Bv s)[i]'(by rw[pO];exact hi))=false:=λi hi=>by
   have:=h _ (getElem_mem (show i<(Bv s).length by rw[pO];exact hi));simpa using this
  refine⟨λ x hx=>?_,λi hi=>?_⟩
  .obtain⟨i,hi,rfl⟩:=mem_iff_getElem.1 hx;have:=key i hi;rw[Fh]at this;unfold As at this;rw[Bool.or_eq_false_iff]at this;exact(aeK _).1 this.1
  .have:=key (i+1) hi;rw[Fh]at this;unfold As at this;rw[Bool.or_eq_false_iff]at this;have h2:=this.2;simp only[Nat.succ_ne_zero,dif_neg,not_false_eq_true,Option.any_some,Nat.add_sub_cancel,Bool.or_eq_false_iff,dL,Bool.and_eq_false_iff,beq_eq_false_iff_ne]at h2;refine⟨by omega,λ⟨e1,e2⟩=>?_⟩;rcases h2.2 with h3 |h3
   .exact h3 e1
   .exact h3 e2
 .rintro⟨h1,h2⟩ p hp;obtain⟨i,hi,rfl⟩:=mem_iff_getElem.1 hp;rw[Fh];rw[pO]at hi;unfold As;have hb:=(aeK _).2 (h1 _ (getElem_mem hi));by_cases h0:i=0
  .simp[h0]at hb ⊢;exact hb
  .obtain⟨j,rfl⟩:∃j,i=j+1:=⟨i -1,by omega⟩;have⟨n1,n2⟩:=h2 j hi;simp only[Nat.succ_ne_zero,dif_neg,not_false_eq_true,Option.any_some,Nat.add_sub_cancel];rw[hb];simp only[Bool.false_or,Bool.or_eq_true,aW,aN,beq_iff_eq];rintro (h |h)
   .omega
   .exact n2 h
theorem sO{l:U fV}{φ:(fV×Unit)->J Bool}(p:fV->Bool)(h:∀x∈l,φ (x,())=some (p x))(hl:l.length<1099511627776)(hn:l.length<n):ja n l φ=some (l.any p):=by
 unfold ja uh;have:=sF (l:=l) (step:=lZ l φ) (λ i=>(i:Int)) p () (λ i=>(i:Int)) (λ i hi=>?_) (by simp[lZ]) n hn
 .rw[show ((0:Nat):Int)=0 from rfl]at this;rw[this,<- Qt];cases nY p l with
  |none=>rfl
  |some i=>simp<;>omega
 .have hi':decide ((i:Int)<(l.length:Int))=true:=by simpa using hi
  simp only[lZ,hi',aj,bq hi,af,h _ (getElem_mem hi)];rw[bQ (by omega)];cases p l[i]<;>rfl
def MD(s:U fV)(lot:Int)(e:kT):Bool:=e.lot==lot&&(c8 e.area&&s.any λc=>decide (c.z1>e.top)&&Lz c.area e.area)
def Lw(l:U kT)(lot:Int)(s:U fV):Bool:=Fg s&&!(l.any (MD s lot))
theorem Y1{l:U kT}{lot:Int}{s:U fV}(hl:l.length<=900)(he:∀e∈l,e.area.length<=900)(ha:∀x∈s,x.area.length<=900)(hn:1000<=n):EQ n l lot s=some (Lw l lot s):=by
 unfold EQ Lw;rw[Si ha hn];simp only[af];cases hr:Fg s with
 |false=>rfl
 |true=>
 have l80:=((Xu s).1 hr).1;have:=sF (l:=l) (step:=vO n l lot s) (λ i=>(i:Int)) (MD s lot) () (λ _=>false) (λ i hi=>?_) (by simp[vO]) n (by omega)
 .rw[show ((0:Nat):Int)=0 from rfl]at this;simp only[Bool.not_true,ak];rw[this,<- Qt];cases nY (MD s lot) l<;>rfl
 .have hi':decide ((i:Int)<(l.length:Int))=true:=by simpa using hi
  have h1:=he _ (getElem_mem hi);have cf:=sO (n:=n) (l:=s) (φ:=λy:fV×Unit=>qQ n y.1 l[i]) (λ c=>decide (c.z1>l[i].top)&&Lz c.area l[i].area) (λ c hc=>by
   have:=ha c hc;show qQ n c l[i]=_;unfold qQ;rw[ag3 (by omega) (by omega) (by omega) (by omega)];cases decide (c.z1>l[i].top)<;>rfl) (by omega) (by omega)
  simp only[vO,hi',aj,bq hi,af,l6 (n:=n) (l:=l[i].area) (by omega) (by omega) hn,cf];rw[bQ (by omega)];unfold MD;cases h2:l[i].lot==lot with
  |false=>
   have:(l[i].lot !=lot)=true:=(by simp[bne,h2]);simp[this,dH]
  |true=>
   have:(l[i].lot !=lot)=false:=(by simp[bne,h2]);simp only[this,ak,af];cases c8 l[i].area with
   |false=>simp[dH]
   |true=>cases s.any λc=>decide (c.z1>l[i].top)&&Lz c.area l[i].area<;>simp[dH]
theorem aeM(r:aA):ey r=true↔(0<=r.x0/\r.x0<r.x1/\r.x1<=1048576)/\(0<=r.y0/\r.y0<r.y1/\r.y1<=1048576):=by simp only[ey,aN,aW];omega
theorem KG{b:aA}{l:U d9}(r:aA)(x:Int)(hb:ey b=true)(hp:∀p∈l,Xp p=true)(hr:ey r=true)(hx:0<=x/\x<1048576)(hl:l.length<=1000)(hn:2000<=n)(v:Int):
 iter (om n b l r x) n (v,(0:Int))=some (min (min v (Y0 b l x r.y0)) (Y0 b l x (r.y1 -1))):=by
 have ho:=(aeM r).1 hr;have w:i64.wrap (r.y1 -1)=r.y1 -1:=dX (by omega) (by omega);have:=oI (l:=[r.y0,r.y1 -1]) (step:=om n b l r x) (λ i (s:Int)=>(s,(i:Int))) (λ y m=>min m (Y0 b l x y)) (λ s=>s) (λ i hi s=>?_) (λ s=>by simp[om]) n (by simp;omega) v
 .rw[show ((0:Nat):Int)=0 from rfl]at this;exact this
 .have h2:i<2:=by simpa using hi
  have yb:0<=([r.y0,r.y1 -1]:U Int)[i]/\([r.y0,r.y1 -1]:U Int)[i] <1048576:=by
   rcases i with _ |_ |i
   .simp only[List.getElem_cons_zero];omega
   .simp only[List.getElem_cons_succ,List.getElem_cons_zero];omega
   .omega
  simp only[om,show decide ((i:Int)<2)=true from decide_eq_true (by omega),bO h2,aj,aV h2,w,aX hi,af,ab5 hb hp ⟨hx,yb⟩ hl hn,aM i]
def WP(b:aA)(l:U d9)(v:Int)(r:aA):Int:=min (min (min (min v (Y0 b l r.x0 r.y0)) (Y0 b l r.x0 (r.y1 -1))) (Y0 b l (r.x1 -1) r.y0)) (Y0 b l (r.x1 -1) (r.y1 -1))
theorem KH{b:aA}{l:U d9}(r:aA)(hb:ey b=true)(hp:∀p∈l,Xp p=true)(hr:ey r=true)(hl:l.length<=1000)(hn:2000<=n)(v:Int):
 iter (oo n b l r) n (v,(0:Int))=some (WP b l v r):=by
 have ho:=(aeM r).1 hr;have w:i64.wrap (r.x1 -1)=r.x1 -1:=dX (by omega) (by omega);have:=oI (l:=[r.x0,r.x1 -1]) (step:=oo n b l r) (λ i (s:Int)=>(s,(i:Int))) (λ x m=>min (min m (Y0 b l x r.y0)) (Y0 b l x (r.y1 -1))) (λ s=>s) (λ i hi s=>?_) (λ s=>by simp[oo]) n (by simp;omega) v
 .rw[show ((0:Nat):Int)=0 from rfl]at this;exact this
 .have h2:i<2:=by simpa using hi
  have xb:0<=([r.x0,r.x1 -1]:U Int)[i]/\([r.x0,r.x1 -1]:U Int)[i] <1048576:=by
   rcases i with _ |_ |i
   .simp only[List.getElem_cons_zero];omega
   .simp only[List.getElem_cons_succ,List.getElem_cons_zero];omega
   .omega
  simp only[oo,show decide ((i:Int)<2)=true from decide_eq_true (by omega),bO h2,aj,aV h2,w,aX hi,af,KG r _ hb hp hr xb hl hn,aM i]
def Mz(b:aA)(l:U d9)(a:U aA):Int:=a.foldl (WP b l) 4096
theorem Te{b:aA}{l:U d9}{a:U aA}(hb:ey b=true)(hp:∀p∈l,Xp p=true)(ha:∀r∈a,ey r=true)(hal:a.length<=1000)(hl:l.length<=1000)(hn:2000<=n):yc n b l a=some (Mz b l a):=by
 unfold yc;have:=oI (l:=a) (step:=rE n b l a) (λ i (s:Int)=>(s,(i:Int))) (λ r m=>WP b l m r) (λ s=>s) (λ i hi s=>?_) (λ s=>by simp[rE]) n (by omega) 4096
 .rw[show ((0:Nat):Int)=0 from rfl]at this;rw[this];rfl
 .simp only[rE,bO hi,aj,bq hi,af,KH a[i] hb hp (ha _ (getElem_mem hi)) hl hn,aM i]
theorem aos(r:aA):ey r=true↔(0<=r.x0/\r.x0<r.x1/\r.x1<=1048576)/\(0<=r.y0/\r.y0<r.y1/\r.y1<=1048576):=by simp only[ey,aN,aW];omega
abbrev D1(t:dw):Prop:=t.area.length<=900/\t.from_.length*8<=140737488355328
theorem ag9{t:dw}(h:D1 t):Ob t=some t:=by
 unfold Ob;have h2:=h.2;rw[Qn (by omega),af,show EI t.from_=some t.from_ from R3 (b:=8) (by omega) (by simp only[maxLen];omega),af];simp only[bZ,aF,aj]
theorem akp{land:U dw}{id:Int}(h:∀t∈land,D1 t)(hl:land.length<1099511627776)(hn:land.length<n):Oc n land id=some (mV land id):=by
 unfold Oc;have:=sF (l:=land) (step:=EJ land id) (λ i=>(i:Int)) (λ t=>t.id==id) () (λ i=>(land.getD i W8,true)) (λ i hi=>?_) ?_ n hn
 .rw[show ((0:Nat):Int)=0 from rfl]at this;rw[this];unfold mV;rcases Xl (λ t:dw=>t.id==id) land with ⟨i,hi,h1,h2⟩ |⟨h1,h2⟩
  .rw[h1,h2];simp[hi]
  .rw[h1,h2];rfl
 .simp only[EJ,bO hi,aj,bq hi,af,ag9 (h _ (getElem_mem hi))];cases land[i].id==id with
  |true=>simp[hi]
  |false=>simp only[ak];rw[bQ (by omega)]
 .simp[EJ]
theorem aaI{land:U dw}(h:∀t∈land,D1 t)(id:Int):D1 (mV land id).1:=by
 unfold mV;split
 .rename_i t ht;exact h t (List.mem_of_find?_eq_some ht)
 .simp[D1,W8]
structure aqF(t:cu):Prop where
 rules:t.az.length<=20
 Rd:∀r∈t.az,Qy r
 zones:t.bu.length<=20
 land:t.land.length<=20
 lots:∀l∈t.land,D1 l
 co:t.co.length<=5
 aqJ:∀e∈t.co,e.area.length<=10
theorem Jg{α:Type}(p:α->Bool):∀l:U α,((List.range l.length).filter λi=>(l[i]?).any p).filterMap (λ i=>l[i]?)=l.filter p
 |[]=>rfl
 |a::l=>by
  have ih:=Jg p l;rw[bG,List.range_succ_eq_map,List.filter_cons,List.filter_cons];have e:(List.filter (λ i=>((a::l)[i]?).any p) (List.map Nat.succ (List.range l.length))).filterMap (λ i=>(a::l)[i]?)=l.filter p:=by
   rw[List.filter_map,List.filterMap_map];exact ih
  cases hp:p a with
  |true=>simp[hp];simpa using e
  |false=>simp[hp];simpa using e
def G1(a r:aA):aA:=⟨min a.x0 r.x0,min a.y0 r.y0,max a.x1 r.x1,max a.y1 r.y1⟩
def ai0:U aA->aA
 |[]=>⟨0,0,0,0⟩
 |r::l=>l.foldl G1 r
def rH(a:U aA):aA×Bool:=bif decide (a≠[])&&c8 a then(ai0 a,true)else(⟨0,0,0,0⟩,false)
theorem aeN{a:U aA}(ha:a≠[])(hv:∀r∈a,ey r=true)(hl:a.length<=900)(hn:2000<=n):N7 n a=some (ai0 a,true):=by
 unfold N7;have:=oI (l:=a.zip (List.range a.length)) (step:=Al a) (λ i (s:Bool×Int×Int×Int×Int)=>(s.1,(i:Int),s.2)) (λ p s=>bif !s.1 then(true,p.1.x0,p.1.y0,p.1.x1,p.1.y1)else(s.1,min s.2.1 p.1.x0,min s.2.2.1 p.1.y0,max s.2.2.2.1 p.1.x1,max s.2.2.2.2 p.1.y1)) (λ s=>s) (λ i hi s=>?_) (λ s=>?_) n (by simp;omega) (false,0,0,0,0)
 .rw[show ((0:Nat):Int)=0 from rfl]at this;simp only at this;rw[this];cases a with
  |nil=>exact absurd rfl ha
  |cons r l=>
   have gen:∀(l:U aA) (k:U Nat) (s:aA),l.length<=k.length->(l.zip k).foldl (λ (s:Bool×Int×Int×Int×Int) p=>bif !s.1 then(true,p.1.x0,p.1.y0,p.1.x1,p.1.y1)else(s.1,min s.2.1 p.1.x0,min s.2.2.1 p.1.y0,max s.2.2.2.1 p.1.x1,max s.2.2.2.2 p.1.y1)) (true,s.x0,s.y0,s.x1,s.y1)=(true,(l.foldl G1 s).x0,(l.foldl G1 s).y0,(l.foldl G1 s).x1,(l.foldl G1 s).y1):=by
    intro l
    induction l with
    |nil=>intro k s _;rfl
    |cons r l ih=>
     intro k s hk;cases k with
     |nil=>simp at hk
     |cons j k=>
      rw[List.zip_cons_cons,foldl_cons,foldl_cons];exact ih k (G1 s r) (by simpa using hk)
   rw[bG,List.range_succ_eq_map,List.zip_cons_cons,foldl_cons];simp only[Bool.not_false,aj];rw[gen l _ r (by simp)];rfl
 .have hi':i<a.length:=by simpa using hi
  obtain⟨s1,s2,s3,s4,s5⟩:=s;have ok:=hv _ (getElem_mem hi');simp only[Al,bO hi',aj,bq hi',af,iy,ok,Bool.not_true,ak,Oo,List.getElem_zip,aM i]
 .obtain⟨s1,s2,s3,s4,s5⟩:=s;have:(a.zip (List.range a.length)).length=a.length:=by simp
  simp only[this,Al,bW,ak]
theorem Fj(a:U aA)(hl:a.length<=900)(hn:2000<=n):Da n a=some (rH a):=by
 unfold Da rH;cases a with
 |nil=>rfl
 |cons r l=>
  have e:((((r::l).length:Nat):Int)==0)=false:=by simp;omega
  have e2:decide (r::l≠[])=true:=by simp
  rw[l6 (by omega) (by omega) (by omega),e,e2];simp only[ak,af,Bool.true_and];cases hr:c8 (r::l)with
  |false=>rfl
  |true=>
   simp only[Bool.not_true,ak];rw[aeN (by simp) (uF hr).1 hl hn];rfl
theorem qj{V O:Type}{step:V->J (V⊕O)}(f:Nat->V){s:V}(N:Nat)(o:O)(h0:s=f 0)
 (h1:∀i,i<N->step (f i)=some (.inl (f (i+1)))) (h2:step (f N)=some (.inr o)) (n:Nat) (hn:N<n):iter step n s=some o:=by rw[h0];exact mM f N o h1 h2 n hn
def tb(f:Nat->Nat->Bool):U Bool:=(List.range 144).map λi=>f (i/12) (i%12)
def upd(f:Nat->Nat->Bool)(a b:Nat)(v:Bool):Nat->Nat->Bool:=λx y=>if x=a/\y=b then v else f x y
inductive Tc(e:Nat->Nat->Bool):Nat->Nat->Prop
 |one {a b:Nat}:a<12->b<12->e a b=true->Tc e a b
 |trans {a b c:Nat}:Tc e a b->Tc e b c->Tc e a c
theorem Tc.lt{e:Nat->Nat->Bool}{a b:Nat}(h:Tc e a b):a<12/\b<12:=by
 induction h with
 |one h1 h2 _=>exact⟨h1,h2⟩
 |trans _ _ i1 i2=>exact⟨i1.1,i2.2⟩
def iA(v:aJ):aA:=aA.mk v.bz v.cC v.bx v.cz
def okV(v:aJ):Bool:=ey (iA v)&&(decide (0<=v.eQ)&&(decide (v.eQ<v.ev)&&(decide (v.ev<=4096)&&((decide (v.use=0) || decide (v.units=0))&&(decide (0<=v.use)&&(decide (v.use<6)&&(decide (0<=v.units)&&decide (v.units<=1048576))))))))
theorem uI(v:aJ):gq v=some (okV v):=by
 unfold gq okV;rw[iy];have e1:decide (v.eQ<0)=!decide (0<=v.eQ):=by rw[<- decide_not,decide_eq_decide];omega
 have e2:decide (v.eQ>=v.ev)=!decide (v.eQ<v.ev):=by rw[<- decide_not,decide_eq_decide];omega
 have e3:decide (v.ev>4096)=!decide (v.ev<=4096):=by rw[<- decide_not,decide_eq_decide];omega
 have e4:(v.use !=0)=!decide (v.use=0):=by by_cases h:v.use=0<;>simp[h]
 have e5:(v.units !=0)=!decide (v.units=0):=by by_cases h:v.units=0<;>simp[h]
 rw[e1,e2,e3,e4,e5,show aA.mk v.bz v.cC v.bx v.cz=iA v from rfl];simp only[ge_iff_le];generalize ey (iA v)=a1;generalize decide (0<=v.eQ)=a2;generalize decide (v.eQ<v.ev)=a3;generalize decide (v.ev<=4096)=a4;generalize decide (v.use=0)=a5;generalize decide (v.units=0)=a6;generalize decide (0<=v.use)=a7;generalize decide (v.use<6)=a8;generalize decide (0<=v.units)=a9;generalize decide (v.units<=1048576)=km;cases a1<;>cases a2<;>cases a3<;>cases a4<;>cases a5<;>cases a6<;>cases a7<;>cases a8<;>cases a9<;>rfl
theorem Xv{v:aJ}(h:okV v=true):ey (iA v)=true:=by rw[okV,aN]at h;exact h.1
def kQ(d:bD):U aJ:=d.phases.flatMap (·.cM)
theorem ef{l:U tL}(h:∀p∈l,p.cM.length<=1000):(l.flatMap (·.cM)).length<=l.length*1000:=by
 induction l with
 |nil=>simp
 |cons p l ih=>
  have h1:=h p (by simp);have h2:=ih λq hq=>h q (by simp[hq]);simp only[List.flatMap_cons,dP,bG];omega
def Xw(d:bD):Prop:=d.phases.length<=1000/\∀p∈d.phases,p.cM.length<=1000
theorem Xx{d:bD}(h:Xw d)(hn:1001<=n):oh n d 0 (d.phases.length:Int)=some (kQ d):=by
 obtain⟨h1,h2⟩:=h;unfold oh;have key:=qj (step:=nO d 0 (d.phases.length:Int)) (λ i=>((i:Int),(d.phases.take i).flatMap (·.cM))) (s:=((0:Int),([]:U aJ))) d.phases.length (kQ d) rfl (λ i hi=>by
  have e2:decide ((i:Int)>=0)=true:=by simp
  have hl:=ef (l:=d.phases.take i) λp hp=>h2 p (List.mem_of_mem_take hp);rw[length_take]at hl;have hv:=h2 _ (getElem_mem hi);generalize hL:(d.phases.take i).flatMap (·.cM)=L at hl;have hap:bP L.length L.length d.phases[i].cM.length d.phases[i].cM.length 72=true:=dm (by omega) (by simp only[maxLen];omega);simp only[nO,bO hi,aj,bq hi,af,e2,hap,dS,aF,aM i];rw[je hi,List.flatMap_append,hL];simp only[List.flatMap_cons,List.flatMap_nil,append_nil]) (by simp only[nO,bW,ak,aF,aj,List.take_length,kQ]) n (by omega)
 have hz:aE 0 ([]:U aJ).length=true:=rfl;simp only[hz,aj,key,af,bZ,aF]
def W7(v:aJ):Int:=(kZ v).getD 0
theorem Xy(v:aJ):kZ v=some (W7 v):=by
 unfold W7 kZ;rw[uI];cases v.extra<;>cases okV v<;>rfl
def P1(v:aJ):Int:=(oN v).getD 0
theorem aeO(v:aJ):oN v=some (P1 v):=by
 unfold P1 oN;rw[uI,Xy];cases h:okV v with
 |false=>rfl
 |true=>
  have e:=Dm (Xv h);unfold iA at e;simp only[af,Bool.not_true,ak,e,Option.getD_some]
theorem apF(a1:U dx)(a8:U aA){a9:U aJ}(hl:a9.length<=1000)(hn:1001<=n):∃r,∀(a0:U eT)(a2:U dN)(a3:U bK)(a4:U gD)(a5:U fA)(a6:U cZ)(a7:Int),kK n a0 a1 a2 a3 a4 a5 a6 a7 a8 a9=some (r,a0,a1,a2,a3,a4,a5,a6,a7,a8,a9):=by
 have key:=oI (l:=a9) (step:=jK a9) (λ i (s:Int)=>(s,(i:Int))) (λ v s=>i64.wrap (s+P1 v)) (λ s=>s) (λ i hi s=>by simp only[jK,bO hi,aj,aV hi,aX hi,af,aeO,aM i]) (λ s=>by simp only[jK,bW,ak]) n (by omega) 0;rw[show ((0:Nat):Int)=0 from rfl]at key;unfold kK qD;simp only[key,af,aF,aj];exact⟨_,λ_ _ _ _ _ _ _=>rfl⟩
theorem apG(a1:U dx)(a8:U aA){a9:U aJ}(hl:a9.length<=1000)(hn:1001<=n):∃r,∀(a0:U eT)(a2:U dN)(a3:U bK)(a4:U gD)(a5:U fA)(a6:U cZ)(a7:Int),kL n a0 a1 a2 a3 a4 a5 a6 a7 a8 a9=some (r,a0,a1,a2,a3,a4,a5,a6,a7,a8,a9):=by
 have key:=oI (l:=a9) (step:=jN a9) (λ i (s:Int)=>(s,(i:Int))) (λ v s=>i64.wrap (s+v.units)) (λ s=>s) (λ i hi s=>by simp only[jN,bO hi,aj,aV hi,aX hi,af,oV,aM i]) (λ s=>by simp only[jN,bW,ak]) n (by omega) 0;rw[show ((0:Nat):Int)=0 from rfl]at key;unfold kL qE;simp only[key,af,aF,aj];exact⟨_,λ_ _ _ _ _ _ _=>rfl⟩
theorem amv(a1:U dx)(a8:U aA){a9:U aJ}(hl:a9.length<=1000)(hn:1001<=n):∃r,∀(a0:U eT)(a2:U dN)(a3:U bK)(a4:U gD)(a5:U fA)(a6:U cZ)(a7:Int),jL n a0 a1 a2 a3 a4 a5 a6 a7 a8 a9=some (r,a0,a1,a2,a3,a4,a5,a6,a7,a8,a9):=by
 have key:=oI (l:=a9) (step:=gV a9) (λ i (s:Int)=>(s,(i:Int))) (λ v s=>max s (W7 v)) (λ s=>s) (λ i hi s=>by simp only[gV,bO hi,aj,aV hi,aX hi,af,Xy,aM i]) (λ s=>by simp only[gV,bW,ak]) n (by omega) 0;rw[show ((0:Nat):Int)=0 from rfl]at key;unfold jL mF;simp only[key,af,aF,aj];exact⟨_,λ_ _ _ _ _ _ _=>rfl⟩
theorem amw(a1:U dx)(a8:U aA){a9:U aJ}(hl:a9.length<=1000)(hn:1001<=n):∃r,∀(a0:U eT)(a2:U dN)(a3:U bK)(a4:U gD)(a5:U fA)(a6:U cZ)(a7:Int),jM n a0 a1 a2 a3 a4 a5 a6 a7 a8 a9=some (r,a0,a1,a2,a3,a4,a5,a6,a7,a8,a9):=by
 have key:=oI (l:=a9) (step:=gW a9) (λ i (s:Int)=>(s,(i:Int))) (λ v s=>max s v.ev) (λ s=>s) (λ i hi s=>by simp only[gW,bO hi,aj,aV hi,aX hi,af,nP,aM i]) (λ s=>by simp only[gW,bW,ak]) n (by omega) 0;rw[show ((0:Nat):Int)=0 from rfl]at key;unfold jM mG;simp only[key,af,aF,aj];exact⟨_,λ_ _ _ _ _ _ _=>rfl⟩
theorem akq(e:bX)(a:Kc){u:Int}(h0:0<=u)(h6:u<6):∃b,kD e a u=some b:=by
 obtain⟨k,rfl⟩:∃k:Nat,u=(k:Int):=⟨u.toNat,by omega⟩;have hk:k<6:=by omega
 unfold kD;rw[aV hk,bq (l:=[a.a0,a.a1,a.a2,a.a3,a.a4,a.a5]) hk];exact⟨_,rfl⟩
theorem Fp{l:U bX}{φ:(bX×Unit)->J Bool}(p:bX->Bool)(h:∀x∈l,φ (x,())=some (p x))(hl:l.length<=9223372036854775807)(hn:l.length<n):kE n l φ=some (xg p l):=FT p h hl hn
theorem apH(p:bU){u:Int}(h0:0<=u)(h6:u<6)(ht:p.tables.length<n)(ht2:p.tables.length<=9223372036854775807)(hr:∀t∈p.tables,t.rows.length<n/\t.rows.length<=9223372036854775807):∃r,Aq n p u=some r:=by
 have key:∃o,iter (kF n p u) n (0:Int)=some o/\True:=by
  have step:∀i (hi:i<p.tables.length),kF n p u (i:Int)=some (.inl ((i+1:Nat):Int))\/∃z,kF n p u (i:Int)=some (.inr (.inr z)):=by
   intro i hi;obtain⟨r1,r2⟩:=hr _ (getElem_mem hi);simp only[kF,bO hi,aj,bq hi,af,aM i];cases ByteArray.toList p.tables[i].name==ByteArray.toList ⟨#[116,114,97,102,102,105,99]⟩with
   |false=>exact Or.inl rfl
   |true=>
    right;simp only[Bool.not_true,ak];generalize Kc.mk _ _ _ _ _ _=A;have hx:=Fp (n:=n) (l:=p.tables[i].rows) (φ:=λy1=>kD y1.1 A u) (λ e=>(kD e A u).getD false) (λ e _=>by have⟨b,hb⟩:=akq e A h0 h6;simp[hb]) r2 r1;rw[hx];simp only[af,xM];cases hany:p.tables[i].rows.any λe=>(kD e A u).getD false with
    |false=>exact⟨_,rfl⟩
    |true=>
     have⟨j,hj,h1,_⟩:=WH hany;rw[h1];simp only[aj,bq hj,af];exact⟨_,rfl⟩
  have main:∀k i m,i+k=p.tables.length->k<m->∃o,iter (kF n p u) m (i:Int)=some o/\True:=by
   intro k
   induction k with
   |zero=>
    intro i m hi hm;obtain⟨q,rfl⟩:∃q,m=q+1:=⟨m -1,by omega⟩;have:i=p.tables.length:=(by omega);subst this;exact⟨.inl (),fF (by simp only[kF,bW,ak]),trivial⟩
   |succ k ih=>
    intro i m hi hm;obtain⟨q,rfl⟩:∃q,m=q+1:=⟨m -1,by omega⟩;rcases step i (by omega)with h |⟨z,h⟩
    .rw[ic h];exact ih (i+1) q (by omega) (by omega)
    .exact⟨_,fF h,trivial⟩
  exact main p.tables.length 0 n (by omega) ht
 obtain⟨o,h1,_⟩:=key;unfold Aq;rw[h1];cases o with
 |inl w=>exact⟨_,rfl⟩
 |inr r=>exact⟨_,rfl⟩
theorem aha(p:bU){v:aJ}(hv:okV v=true)(ht:p.tables.length<n)(ht2:p.tables.length<=9223372036854775807)(hr:∀t∈p.tables,t.rows.length<n/\t.rows.length<=9223372036854775807):∃r,lg n p v=some r:=by
 simp only[okV,aN,aW]at hv;have⟨r,h1⟩:=apH (n:=n) p (u:=v.use) hv.2.2.2.2.2.1 hv.2.2.2.2.2.2.1 ht ht2 hr;unfold lg;rw[h1,aeO];simp only[af];have e100:((100:Int) !=0)=true:=rfl;by_cases h:r>0
 .have e:(r !=0)=true:=by simp only[bne_iff_ne,ne_eq];omega
  have e2:decide (r>0)=true:=by simpa using h
  rw[e,e2];simp only[aj,af,e100];cases decide (P1 v>i64.wrap (Int.tdiv 109951162777600 r))<;>exact⟨_,rfl⟩
 .have e2:decide (r>0)=false:=by simpa using h
  rw[e2];exact⟨_,rfl⟩
theorem apI(a1:U dx)(a8:U aA){a9:U aJ}(hl:a9.length<=1000)(hn:1001<=n)(hv:∀v∈a9,okV v=true)(ht:a1.length<n)(ht2:a1.length<=9223372036854775807)(hr:∀t∈a1,t.rows.length<n/\t.rows.length<=9223372036854775807):∃r,∀(a0:U eT)(a2:U dN)(a3:U bK)(a4:U gD)(a5:U fA)(a6:U cZ)(a7:Int),jm n a0 a1 a2 a3 a4 a5 a6 a7 a8 a9=some (r,a0,a1,a2,a3,a4,a5,a6,a7,a8,a9):=by
 have key:=λ(a0:List eT)(a2:List dN)(a3:List bK)(a4:List gD)(a5:List fA)(a6:List cZ)(a7:Int)=>fC (l:=a9) (step:=jP n a9) (λ i (s:Int)=>(s,(i:Int),a0,a1,a2,a3,a4,a5,a6,a7,a8,a9)) (λ v s=>i64.wrap (s+(lg n (bU.mk [] a1 [] [] [] [] [] 0) v).getD 0)) (λ s=>(s,a0,a1,a2,a3,a4,a5,a6,a7,a8,a9)) (λ _ _=>True) (λ i hi s _=>⟨by
  obtain⟨r,h1⟩:=aha (n:=n) (bU.mk [] a1 [] [] [] [] [] 0) (hv _ (getElem_mem hi)) ht ht2 hr;have h2:lg n (bU.mk a0 a1 a2 a3 a4 a5 a6 a7) a9[i]=some r:=h1;simp only[jP,bO hi,aj,aV hi,aX hi,af,kG,h1,h2,aF,aM i,Option.getD_some],trivial⟩) (λ s _=>by simp only[jP,bW,ak,aF,aj]) n (by omega) 0 trivial
 have key:=λa0 a2 a3 a4 a5 a6 a7=>(show ((0:Nat):Int)=0 from rfl) ▸ key a0 a2 a3 a4 a5 a6 a7;unfold jm qF;simp only[key,af,aF,aj];exact⟨_,λ_ _ _ _ _ _ _=>rfl⟩
theorem amx{α β:Type}(l:U α)(f:α->β)(z:β){i:Nat}(hi:i<l.length):((l.take i).map f++List.replicate (l.length -i) z).set i (f l[i])=(l.take (i+1)).map f++List.replicate (l.length -(i+1)) z:=by
 have h1:((l.take i).map f).length=i:=by simp;omega
 rw[List.set_append_right _ _ (by omega),h1,Nat.sub_self,show l.length -i=(l.length -(i+1))+1 by omega,List.replicate_succ,List.set_cons_zero,je hi,map_append,aO];rfl
theorem amy{α β:Type}(l:U α)(f:α->β)(z:β){i:Nat}(hi:i<=l.length):((l.take i).map f++List.replicate (l.length -i) z).length=l.length:=by simp;omega
theorem amz{α β:Type}(l:U α)(f:α->β)(z:β){i:Nat}(hi:i<l.length):((l.take (i+1)).map f++List.replicate (l.length -(i+1)) z)[i]? =some (f l[i]):=by rw[List.getElem?_append_left (by simp;omega)];simp[hi]
theorem amA{l:U aJ}(hl:l.length<=1000)(hn:1001<=n):iter (gF l) n ((0:Int),List.replicate l.length (aA.mk 0 0 0 0),([]:U Int))=some (l.map iA,l.flatMap λv=>[v.bz,v.bx]):=by
 refine qj (step:=gF l) (λ i=>((i:Int),(l.take i).map iA++List.replicate (l.length -i) (aA.mk 0 0 0 0),(l.take i).flatMap λv=>[v.bz,v.bx])) l.length _ ?_ (λ i hi=>?_) ?_ n (by omega)
 .simp
 .have h1:=amy l iA (aA.mk 0 0 0 0) (Nat.le_of_lt hi);have h2:=amx l iA (aA.mk 0 0 0 0) hi;have h3:=amz l iA (aA.mk 0 0 0 0) hi;have h4:((l.take i).flatMap λv=>[v.bz,v.bx]).length=2*i:=by
   have:∀m:U aJ,(m.flatMap λv=>[v.bz,v.bx]).length=2*m.length:=by
    intro m;induction m with
    |nil=>rfl
    |cons a m ih=>simp only[List.flatMap_cons,dP,ih,bG,length_nil];omega
   rw[this,length_take];omega
  generalize (l.take i).map iA++List.replicate (l.length -i) (aA.mk 0 0 0 0)=B at h1 h2;have e0:(((0:Nat):Int)+(i:Int)).toNat=i:=by omega
  have et:((l.length:Int):Int).toNat=l.length:=by omega
  have hb:aA.mk l[i].bz l[i].cC l[i].bx l[i].cz=iA l[i]:=rfl;have hiB:i<B.length:=by omega
  rw[<- h2]at h3;have g3:bo (B.set i (iA l[i])) (((0:Nat):Int)+(i:Int))=some (iA l[i]):=by rw[Ew];exact h3
  have hs:sub ([(iA l[i]).x0,(iA l[i]).x1]:U Int) 0 2=[(iA l[i]).x0,(iA l[i]).x1]:=rfl;have hap:bP (2*i) (2*i) 2 2 8=true:=dm (by omega) (by simp only[maxLen];omega);have hl2:([(iA l[i]).x0,(iA l[i]).x1]:U Int).length=2:=rfl;simp only[gF,bO hi,aj,aV hi,aX hi,af,et,aX hiB,e0,hb,g3,hs,hl2,h4,hap,dS,aF,aM i];rw[<- h2,je hi,List.flatMap_append];rfl
 .simp only[gF,bW,ak,aF,aj,List.take_length];simp
theorem amB{l:U aJ}{R:U aA}{X:U Int}(w2:U Int)(hR:R.length=l.length)(hX:X.length=w2.length)(hl:l.length<=1000)(hn:1001<=n){k:Nat}(hk:k+1<w2.length)(hw:w2.length<=10000)(s:Int):∃o,iter (iW l w2 R X (k:Int)) n (s,(0:Int),(0:Int))=some o/\True:=by
 refine OA (λ i (v:Int×Int×Int)=>v.2.2=(i:Int)) l.length (λ _=>True) (λ i v hi hv=>?_) (λ v hv=>?_) n (by omega) _ rfl
 .obtain⟨a,b,c⟩:=v;simp only at hv;subst hv;have et:(((l.length:Int):Int).toNat)=l.length:=by omega
  have ew:i64.wrap ((k:Int)+1)=((k+1:Nat):Int):=bQ (by omega);simp only[iW,et,bO hi,aj,aV hi,aX (show i<R.length by omega),af,aV (show k<w2.length by omega),aX (show k<X.length by omega),ew,aV hk,aX (show k+1<X.length by omega),aM i];cases decide ((R[i]'(by omega)).x0<=X[k]'(by omega))with
  |false=>exact⟨_,rfl,rfl⟩
  |true=>
   simp only[aj,af];cases decide (X[k]'(by omega)<(R[i]'(by omega)).x1)with
   |false=>exact⟨_,rfl,rfl⟩
   |true=>
    simp only[aj,af];cases decide ((R[i]'(by omega)).y1>b)<;>exact⟨_,rfl,rfl⟩
 .obtain⟨a,b,c⟩:=v;simp only at hv;subst hv;have et:(((l.length:Int):Int).toNat)=l.length:=by omega
  simp only[iW,et,bW,ak];exact⟨_,rfl,trivial⟩
theorem amC(a1:U dx)(a8:U aA){a9:U aJ}(hl:a9.length<=1000)(hn:10000<=n):∃r,∀(a0:U eT)(a2:U dN)(a3:U bK)(a4:U gD)(a5:U fA)(a6:U cZ)(a7:Int),iL n a0 a1 a2 a3 a4 a5 a6 a7 a8 a9=some (r,a0,a1,a2,a3,a4,a5,a6,a7,a8,a9):=by
 have et:(((a9.length:Int):Int).toNat)=a9.length:=by omega
 have mk:xK (a9.length:Int) 32=true:=ab3 (by omega) (by simp only[maxLen];omega);have d1:decide ((a9.length:Int)<=(a9.length:Int))=true:=by simp
 have d2:decide (0<=(a9.length:Int))=true:=by simp
 have hz:aE 0 ([]:U Int).length=true:=rfl;have hx:(a9.flatMap λv=>[v.bz,v.bx]).length<=2000:=by
  have:∀m:U aJ,(m.flatMap λv=>[v.bz,v.bx]).length=2*m.length:=by
   intro m;induction m with
   |nil=>rfl
   |cons a m ih=>simp only[List.flatMap_cons,dP,ih,bG,length_nil];omega
  rw[this];omega
 unfold iL;rw[et,amA hl (by omega)];generalize (a9.flatMap λv=>[v.bz,v.bx])=W at hx;have srt:=KF (n:=n) (l:=a9.map iA) (φ:=λy1=>iK y1.1 y1.2.1) (λ x y=>if x.y0<y.y0 then -1 else if y.y0<x.y0 then 1 else 0) (λ x y=>by
  show iK x y=_;unfold iK;rw[kI];rfl) (λ x y=>by
  unfold xe;rw[decide_eq_decide];constructor
  .intro h;split at h
   .assumption
   .split at h<;>omega
  .intro h;rw[aZ h];decide) (by simp;omega) (by simp;omega)
 have hm:aE a9.length (a9.map iA).length=true:=by simp
 have hR:(lH xe (a9.map iA)).length=a9.length:=by rw[xN aiZ];simp
 have hX:(ku ox W).length=W.length:=(EC ox W).length_eq;simp only[d1,d2,mk,Bool.and_self,aj,hz,af,hm,srt,aF,pM (show W.length<1099511627776 by omega) (show W.length<n by omega)];generalize lH xe (a9.map iA)=R at hR;generalize ku ox W=X at hX;have key:∃o,iter (iX n a9 W R X) n ((0:Int),(0:Int))=some o/\True:=by
  have eN:max (0:Int) (i64.wrap ((W.length:Int) -1))=((W.length -1:Nat):Int):=by
   cases h:W.length with
   |zero=>rfl
   |succ k=>rw[mX (by omega) (by omega)];omega
  refine OA (λ i (v:Int×Int)=>v.2=(i:Int)) (W.length -1) (λ _=>True) (λ i v hi hv=>?_) (λ v hv=>?_) n (by omega) _ rfl
  .obtain⟨a,b⟩:=v;simp only at hv;subst hv;obtain⟨o,ho,_⟩:=amB (n:=n) (l:=a9) (R:=R) (X:=X) W hR hX hl (by omega) (k:=i) (by omega) (by omega) a;simp only[iX,eN,bO hi,aj,ho,af,aM i];exact⟨_,rfl,rfl⟩
  .obtain⟨a,b⟩:=v;simp only at hv;subst hv;simp only[iX,eN,bW,ak];exact⟨_,rfl,trivial⟩
 obtain⟨o,ho,_⟩:=key;rw[ho];exact⟨o,λ_ _ _ _ _ _ _=>rfl⟩
def Lt(b:aA)(k:Int):aA:=⟨b.x0 -k,b.y0 -k,b.x1+k,b.y1+k⟩
def Fq(area:U aA)(b:aA)(k:Int):Bool:=ey (Lt b k)&&decide (area.foldl (λ s y=>Xo (Lt b k) s y) 0=Ly (Lt b k))
theorem akr(b:aA)(k:Int)(a2:U eT)(a3:U dx)(a4:U dN)(a5:U bK)(a6:U gD)(a7:U fA)(a8:U cZ)(a9:Int){km:U aA}(te:U aJ)(hb:ey b=true)(h0:0<=k)(h1:k<=1048576)(hl:km.length<=1000)(hn:1001<=n):
 jO n b k a2 a3 a4 a5 a6 a7 a8 a9 km te=some (Fq km b k,a2,a3,a4,a5,a6,a7,a8,a9,km,te):=by
 rw[aos]at hb;unfold jO Bq Fq;rw[dX (x:=b.x0 -k),dX (x:=b.y0 -k),dX (x:=b.x1+k),dX (x:=b.y1+k),show aA.mk (b.x0 -k) (b.y0 -k) (b.x1+k) (b.y1+k)=Lt b k from rfl,iy];generalize Lt b k=g;simp only[af];cases hg:ey g with
 |false=>simp only[Bool.not_false,aj,aF,Bool.false_and]
 |true=>
  have key:=oI (l:=km) (step:=iG km (g,true)) (λ i (s:Int)=>(s,(i:Int))) (λ y s=>Xo g s y) (λ s=>s) (λ i hi s=>by
   simp only[iG,bO hi,aj,bq hi,af,zi,aM i,Xo];cases h1:ey g with
   |false=>rfl
   |true=>
    cases h2:ey km[i]with
    |false=>rfl
    |true=>
     cases h3:ey (FW g km[i])with
     |false=>rfl
     |true=>simp only[Bool.and_self,aj,Dm h3,af]) (λ s=>by simp only[iG,bW,ak]) n (by omega) 0
  rw[show ((0:Nat):Int)=0 from rfl]at key;simp only[Bool.not_true,ak,key,af,Dm hg,aF,aj,Bool.true_and];congr 2
def Qz(p:Int->Bool):Nat->Int->Int->Int
 | 0,lo,_=>lo
 |k+1,lo,hi=>bif decide (lo<hi)then(bif p ((lo+hi+1)/2)then Qz p k ((lo+hi+1)/2) hi else Qz p k lo ((lo+hi+1)/2 -1))else lo
theorem ab7(p:Int->Bool):∀k lo hi,lo<=hi->lo<=Qz p k lo hi/\Qz p k lo hi<=hi
 | 0,lo,hi,h=>by simp only[Qz];omega
 |k+1,lo,hi,h=>by
  simp only[Qz];by_cases h1:lo<hi
  .have e:decide (lo<hi)=true:=(by simpa using h1);rw[e,aj];cases p ((lo+hi+1)/2)with
   |true=>have:=ab7 p k ((lo+hi+1)/2) hi (by omega);simp only[aj];omega
   |false=>have:=ab7 p k lo ((lo+hi+1)/2 -1) (by omega);simp only[ak];omega
  .have e:decide (lo<hi)=false:=(by simpa using h1);rw[e,ak];omega
theorem ahb{v:aJ}(hv:ey (iA v)=true)(a2:U eT)(a3:U dx)(a4:U dN)(a5:U bK)(a6:U gD)(a7:U fA)(a8:U cZ)(a9:Int){km:U aA}(te:U aJ)(hl:km.length<=1000)(hn:1001<=n):
 ∀(k:Nat) lo hi m,0<=lo->lo<=hi->hi<=1048576->hi -lo<2 ^ k->k<m->iter (fq n v) m (lo,hi,a2,a3,a4,a5,a6,a7,a8,a9,km,te)=some (Qz (Fq km (iA v)) k lo hi,a2,a3,a4,a5,a6,a7,a8,a9,km,te):=by
 intro k
 induction k with
 |zero=>
  intro lo hi m h0 h1 h2 h3 hm;obtain⟨q,rfl⟩:∃q,m=q+1:=⟨m -1,by omega⟩;have:lo=hi:=by simp at h3;omega
  subst this;refine fF ?_;have e:decide (lo<lo)=false:=by simp
  simp only[fq,e,ak,aF,aj,Qz]
 |succ k ih=>
  intro lo hi m h0 h1 h2 h3 hm;obtain⟨q,rfl⟩:∃q,m=q+1:=⟨m -1,by omega⟩;have hp:(2:Int) ^ (k+1)=2*2 ^ k:=by rw[Int.pow_succ];omega
  rw[hp]at h3;by_cases hlt:lo<hi
  .have e:decide (lo<hi)=true:=(by simpa using hlt);have e2:((2:Nat) !=0)=true:=rfl;have em:i64.wrap (Int.tdiv (i64.wrap (i64.wrap (lo+hi)+1)) 2)=(lo+hi+1)/2:=(by rw[dX (x:=lo+hi),dX (x:=lo+hi+1),Int.tdiv_eq_ediv_of_nonneg (by omega),dX (by omega) (by omega)]);have hi2:=akr (n:=n) (iA v) ((lo+hi+1)/2) a2 a3 a4 a5 a6 a7 a8 a9 (km:=km) te hv (by omega) (by omega) hl hn;unfold iA at hi2;cases hc:Fq km (iA v) ((lo+hi+1)/2)with
   |true=>
    rw[ic (v':=((lo+hi+1)/2,hi,a2,a3,a4,a5,a6,a7,a8,a9,km,te)) (by
     unfold iA at hc;simp only[fq,e,aj,e2,aF,em,hi2,af,hc]),ih _ _ _ (by omega) (by omega) (by omega) (by omega) (by omega)]
    simp only[Qz,e,aj,hc]
   |false=>
    rw[ic (v':=(lo,(lo+hi+1)/2 -1,a2,a3,a4,a5,a6,a7,a8,a9,km,te)) (by
     unfold iA at hc;simp only[fq,e,aj,e2,aF,em,hi2,af,hc,ak,dX (x:=(lo+hi+1)/2 -1)]),ih _ _ _ (by omega) (by omega) (by omega) (by omega) (by omega)]
    simp only[Qz,e,aj,hc,ak]
  .have e:decide (lo<hi)=false:=(by simpa using hlt);refine fF ?_;simp only[fq,e,ak,aF,aj,Qz]
def wT(area:U aA)(l:U aJ):Int:=l.foldl (λ b v=>Qz (Fq area (iA v)) 21 0 b) 1048576
theorem ahc(a0:U eT)(a1:U dx)(a2:U dN)(a3:U bK)(a4:U gD)(a5:U fA)(a6:U cZ)(a7:Int){a8:U aA}{a9:U aJ}(hv:∀v∈a9,okV v=true)(hl:a9.length<=1000)(h8:a8.length<=1000)(hn:1001<=n):jl n a0 a1 a2 a3 a4 a5 a6 a7 a8 a9=some (wT a8 a9,a0,a1,a2,a3,a4,a5,a6,a7,a8,a9):=by
 have key:=fC (l:=a9) (step:=iw n a9) (λ i (s:Int)=>(s,(i:Int),a0,a1,a2,a3,a4,a5,a6,a7,a8,a9)) (λ v s=>Qz (Fq a8 (iA v)) 21 0 s) (λ s=>(s,a0,a1,a2,a3,a4,a5,a6,a7,a8,a9)) (λ _ s=>0<=s/\s<=1048576) (λ i hi s hs=>by
  have h1:=ahb (n:=n) (Xv (hv _ (getElem_mem hi))) a0 a1 a2 a3 a4 a5 a6 a7 (km:=a8) a9 h8 hn 21 0 s n (by omega) hs.1 hs.2 (by have:(2:Int) ^ 21=2097152:=rfl;omega) (by omega);have h2:=ab7 (Fq a8 (iA a9[i])) 21 0 s hs.1;refine⟨?_,by omega,by omega⟩;simp only[iw,bO hi,aj,aV hi,aX hi,af,aF,h1,aM i]) (λ s _=>by simp only[iw,bW,ak,aF,aj]) n (by omega) 1048576 (by omega)
 rw[show ((0:Nat):Int)=0 from rfl]at key;unfold jl;simp only[aF,aj,key,af];rfl
def fT(d:bD):U aJ:=((kQ d).take 40).filter okV
theorem ab8(d:bD):∀v∈fT d,okV v=true:=λv hv=>(mem_filter.1 hv).2
theorem Y2(d:bD):(fT d).length<=40:=Nat.le_trans (length_filter_le _ _) (by rw[length_take];omega)
def oD(lot:dw):U aA:=bif c8 lot.area then lot.area else []
theorem aql{l:U aJ}(a0:U eT)(a1:U dx)(a2:U dN)(a3:U bK)(a4:U gD)(a5:U fA)(a6:U cZ)(a7:Int)(a8:U aA)(hl:l.length<=9223372036854775807)(hn:l.length<n):
 iter (qP l) n ((0:Int),a0,a1,a2,a3,a4,a5,a6,a7,a8,([]:U aJ))=some (a0,a1,a2,a3,a4,a5,a6,a7,a8,(l.take 40).filter okV):=by
 refine qj (step:=qP l) (λ i=>((i:Int),a0,a1,a2,a3,a4,a5,a6,a7,a8,((l.take i).take 40).filter okV)) l.length _ (by simp) (λ i hi=>?_) ?_ n hn
 .have hlen:(((l.take i).take 40).filter okV).length<=40:=Nat.le_trans (length_filter_le _ _) (by rw[length_take];omega);have e40:decide ((i:Int)<40)=decide (i<40):=by rw[decide_eq_decide];omega
  have hs:sub ([l[i]]:U aJ) 0 1=[l[i]]:=rfl;have hN:((l.take (i+1)).take 40).filter okV=((l.take i).take 40).filter okV++(bif decide (i<40)&&okV l[i]then [l[i]]else []):=by
   by_cases h:i<40
   .have h1:(l.take i).take 40=l.take i:=take_of_length_le (by rw[length_take];omega);have h2:(l.take (i+1)).take 40=l.take (i+1):=take_of_length_le (by rw[length_take];omega);have h3:decide (i<40)=true:=(by simpa using h);rw[h1,h2,je hi,List.filter_append,h3];cases h4:okV l[i]<;>simp[h4]
   .have h3:decide (i<40)=false:=(by simpa using h);rw[List.take_take,List.take_take,h3,show min 40 (i+1)=40 by omega,show min 40 i=40 by omega];simp
  rw[hN];generalize ((l.take i).take 40).filter okV=L at hlen;have hap:bP L.length L.length 1 1 72=true:=dm (by omega) (by simp only[maxLen];omega);simp only[qP,bO hi,aj,aV hi,aX hi,af,e40,uI,aM i];cases decide (i<40)with
  |false=>simp only[ak,af,aF,aj,Bool.false_and,append_nil]
  |true=>
   simp only[aj,af,Bool.true_and];cases okV l[i]with
   |false=>simp only[ak,aF,aj,af,append_nil]
   |true=>simp only[aj,hs,length_singleton,hap,dS,aF,af]
 .simp only[qP,bW,ak,aF,aj,List.take_length]
def amD(n:Nat)(p:bU):Prop:=p.tables.length<n/\p.tables.length<=9223372036854775807/\∀t∈p.tables,t.rows.length<n/\t.rows.length<=9223372036854775807
def Dp:ByteArray:=⟨#[115,101,116,98,97,99,107]⟩
theorem amE{p:bU}{lot:dw}{d:bD}(hp:amD n p)(hl:lot.area.length<=900)(hd:Xw d)(hn:2000000<=n):∃e1 e2 e3 e4 e5 e6 e7 e8:Int,∀(D:U eT)(Z:U dN)(R:U bK)(C:U gD)(V:U fA)(S:U cZ)(H:Int),kH n (bU.mk D p.tables Z R C V S H) lot d=some [⟨⟨#[97,114,101,97]⟩,e1⟩,⟨⟨#[99,111,118,101,114]⟩,e2⟩,⟨⟨#[102,108,111,111,114]⟩,e3⟩,⟨⟨#[102,108,111,111,114,115]⟩,e4⟩,⟨⟨#[104,101,105,103,104,116]⟩,e5⟩,⟨⟨#[104,111,109,101,115]⟩,e6⟩,⟨⟨#[114,117,110,111,102,102]⟩,e7⟩,⟨Dp,wT (oD lot) (fT d)⟩,⟨⟨#[116,114,97,102,102,105,99]⟩,e8⟩]:=by
 have hs1:oD lot=(bif c8 lot.area then lot.area else []):=rfl;have hsl:(oD lot).length<=900:=by unfold oD;cases c8 lot.area<;>simp[hl]
 have hvl:=Y2 d;have hvo:=ab8 d;have hfl:=ef hd.2;have hd1:=hd.1;obtain⟨hp1,hp2,hp3⟩:=hp;have hz:aE 0 ([]:U aJ).length=true:=rfl;have HK:∀(D:U eT)(Z:U dN)(R:U bK)(C:U gD)(V:U fA)(S:U cZ)(H:Int),((bif c8 lot.area then some (D,p.tables,Z,R,C,V,S,H,lot.area)else some (D,p.tables,Z,R,C,V,S,H,([]:(List aA)))):J ((List eT)×(List dx)×(List dN)×(List bK)×(List gD)×(List fA)×(List cZ)×Int×(List aA)))=some (D,p.tables,Z,R,C,V,S,H,oD lot):=by intro D Z R C V S H;rw[hs1];cases c8 lot.area<;>rfl
 obtain⟨e2,h2⟩:=amC (n:=n) p.tables (oD lot) (a9:=fT d) (by omega) (by omega);obtain⟨e3,h3⟩:=apF (n:=n) p.tables (oD lot) (a9:=fT d) (by omega) (by omega);obtain⟨e4,h4⟩:=amv (n:=n) p.tables (oD lot) (a9:=fT d) (by omega) (by omega);obtain⟨e5,h5⟩:=amw (n:=n) p.tables (oD lot) (a9:=fT d) (by omega) (by omega);obtain⟨e6,h6⟩:=apG (n:=n) p.tables (oD lot) (a9:=fT d) (by omega) (by omega);have h8:=λ(D:List eT)(Z:List dN)(R:List bK)(C:List gD)(V:List fA)(S:List cZ)(H:Int)=>ahc (n:=n) D p.tables Z R C V S H (a8:=oD lot) (a9:=fT d) hvo (by omega) (by omega) (by omega);obtain⟨e9,h9⟩:=apI (n:=n) p.tables (oD lot) (a9:=fT d) (by omega) (by omega) hvo hp1 hp2 hp3;refine⟨bif c8 (oD lot)then Md (oD lot)else 0,e2,e3,e4,e5,e6,e2,e9,λD Z R C V S H=>?_⟩;unfold kH;rw[l6 (by omega) (by omega) (by omega),Xx hd (by omega)];simp only[af,HK,hz,aj];rw[aql (n:=n) D p.tables Z R C V S H (oD lot) (by show(kQ d).length<=_;unfold kQ;omega) (by show(kQ d).length<_;unfold kQ;omega)];have hr:((kQ d).take 40).filter okV=fT d:=rfl;have s1:∀e:bX,sub ([e]:U bX) 0 1=[e]:=λ_=>rfl;have ap:∀k,k<=20->bP k k 1 1 24=true:=λk hk=>dm (by omega) (by simp only[maxLen];omega);have lot:mR n D p.tables Z R C V S H (oD lot) (fT d)=some (bif c8 (oD lot)then Md (oD lot)else 0,D,p.tables,Z,R,C,V,S,H,oD lot,fT d):=by
  unfold mR;rw[Fb (by omega) (by omega)];simp only[af,aF,aj]
 simp only[hr,af,aF,aj,lot,s1,length_singleton,ap 0 (by omega),dS,h2,ap 1 (by omega),dP,ap 2 (by omega),h3,ap 3 (by omega),h4,ap 4 (by omega),h5,ap 5 (by omega),h6,ap 6 (by omega),h8,ap 7 (by omega),h9,ap 8 (by omega),Nat.reduceAdd,Nat.zero_add,bZ];rfl
theorem aqm{p:bU}{lot:dw}{d:bD}(hp:amD n p)(hl:lot.area.length<=900)(hd:Xw d)(hn:2000000<=n):∃e1 e2 e3 e4 e5 e6 e7 e8:Int,∀R:U bK,kH n (bU.mk p.defs p.tables p.zones R p.caps p.views p.uu p.hours) lot d=some [⟨⟨#[97,114,101,97]⟩,e1⟩,⟨⟨#[99,111,118,101,114]⟩,e2⟩,⟨⟨#[102,108,111,111,114]⟩,e3⟩,⟨⟨#[102,108,111,111,114,115]⟩,e4⟩,⟨⟨#[104,101,105,103,104,116]⟩,e5⟩,⟨⟨#[104,111,109,101,115]⟩,e6⟩,⟨⟨#[114,117,110,111,102,102]⟩,e7⟩,⟨Dp,wT (oD lot) (fT d)⟩,⟨⟨#[116,114,97,102,102,105,99]⟩,e8⟩]:=by
 have⟨e1,e2,e3,e4,e5,e6,e7,e8,h⟩:=amE (n:=n) hp hl hd hn;exact⟨e1,e2,e3,e4,e5,e6,e7,e8,λR=>h _ _ R _ _ _ _⟩
theorem ai1(ds:U (ByteArray×ET))(s:U UInt8):∀(k:Nat)(i:Int),NI ds s k=some i->0<=i/\i<(k:Int)
 | 0,i,h=>by simp[NI]at h
 |k+1,i,h=>by
  simp only[NI]at h;split at h
  .cases h;omega
  .have:=ai1 ds s k i h;omega
theorem aot{ds:U (ByteArray×ET)}(h:rk ds<=4000000):YV (oQ ds) ds.length:=by
 have hl:=UC ds;refine⟨by simp[oQ],by omega,λl hl=>?_⟩;simp only[oQ,mem_map]at hl;obtain⟨d,hd,rfl⟩:=hl;have h1:=UD hd;have h2:=ET.pf d.2;have h3:=aee d.2.names;refine⟨Nat.le_trans (List.length_filterMap_le _ _) (by omega),λk hk=>?_⟩;simp only[ig,List.mem_filterMap]at hk;obtain⟨s,_,hk⟩:=hk;exact ai1 ds s _ k hk
theorem aeQ{M:U ByteArray}(hM:M.length<=1000)(hn:1001<=n)(w0:U (ByteArray×Bool)):∃w,iter (nZ M) n ((0:Int),w0)=some w:=by
 obtain⟨o,h,_⟩:=dK (step:=nZ M) (λ i (v:Int×List (ByteArray×Bool))=>∃w,v=((i:Int),w)/\i<=M.length) (λ _=>True) M.length (λ k v ⟨_,_,h⟩=>h) (by
  rintro i v ⟨w,rfl,hi⟩;by_cases hlt:i<M.length
  .simp only[nZ,show decide ((i:Int)<(M.length:Int))=true from by simp;omega,aj,aV hlt,aX hlt,af,aM i];exact .inl ⟨_,rfl,_,rfl,hlt⟩
  .simp only[nZ,show decide ((i:Int)<(M.length:Int))=false from by simp;omega,ak];exact .inr ⟨_,rfl,trivial⟩) n 0 ((0:Int),w0) ⟨_,rfl,Nat.zero_le _⟩ (by omega)
 exact⟨o,h⟩
theorem aeR{p:bU}(hp:p.defs.length<=4000000)(hn:4000001<=n)(w0:U (ByteArray×Bool)):iter (kV p) n ((0:Int),w0)=some (.inl ())\/iter (kV p) n ((0:Int),w0)=some (.inr ([],[],5)):=by
 obtain⟨o,h,h2⟩:=dK (step:=kV p) (λ i (v:Int×List (ByteArray×Bool))=>∃w,v=((i:Int),w)/\i<=p.defs.length) (λ o=>o= .inl ()\/o= .inr ([],[],5)) p.defs.length (λ k v ⟨_,_,h⟩=>h) (by
  rintro i v ⟨w,rfl,hi⟩;by_cases hlt:i<p.defs.length
  .simp only[kV,show decide ((i:Int)<(p.defs.length:Int))=true from by simp;omega,aj,bq hlt,af,aM i];cases (fG Gb.lw p.defs[i].name w).getD false with
   |true=>exact .inr ⟨_,rfl,.inr rfl⟩
   |false=>exact .inl ⟨_,rfl,_,rfl,hlt⟩
  .simp only[kV,show decide ((i:Int)<(p.defs.length:Int))=false from by simp;omega,ak];exact .inr ⟨_,rfl,.inl rfl⟩) n 0 ((0:Int),w0) ⟨_,rfl,Nat.zero_le _⟩ (by omega)
 rcases h2 with rfl |rfl
 .exact .inl h
 .exact .inr h
theorem aeS:∃M,xq=some M/\M.length=9:=⟨_,rfl,rfl⟩
def gR(l:U eT):Prop:=rk (l.map toD)<=4000000
theorem gR.len{l:U eT}(h:gR l):l.length<=4000000:=by
 have:=UC (l.map toD);rw[length_map]at this;unfold gR at h;omega
theorem gR.body{l:U eT}(h:gR l){d:eT}(hd:d∈l):(toE (cK.mk d.i9 d.mf d.k5 d.iS d.eL)).wt<=4000000:=by
 have h1:=UD (mem_map.2 ⟨d,hd,rfl⟩:toD d∈l.map toD);unfold gR at h;simp only[toD,ET.wt]at h1;simp only[toE,ET.wt];omega
theorem FY{p:bU}(hp:gR p.defs)(hn:5000003<=n):∃r,jJ n p=some r/\r.1.length<=p.defs.length/\(∀ k∈r.1,0<=k/\k<(p.defs.length:Int))/\r.2.1.length<=p.defs.length+1:=by
 obtain⟨M,hM,hM9⟩:=aeS;obtain⟨w,hw⟩:=aeQ (n:=n) (M:=M) (by omega) (by omega) [];have hg:YV (oQ (p.defs.map toD)) p.defs.length:=by have:=aot hp;rwa [length_map]at this
 have HP:kU p.defs=some (p.defs,oQ (p.defs.map toD)):=by
  unfold kU;rw[Nat.ble_eq_true_of_le hp];rfl
 simp only[jJ,hM,af,hw];rcases aeR (n:=n) (p:=p) hp.len (by omega) w with h |h
 .have⟨c,hc,hc2,hc3⟩:=aes (n:=n) (a0:=p.defs) hg rfl hn;simp only[h,eO,HP,af,hc];cases h0:(c.length==0)with
  |true=>
   have e:c=[]:=List.eq_nil_of_length_eq_zero (by simpa using h0);obtain⟨l,hl,hll,hlr⟩:=amh (n:=n) (a0:=pF.mk p.defs (oQ (p.defs.map toD))) hg rfl (hc2 e) (by omega);simp only[aj,af,ak,hl,bZ,aF];exact⟨_,rfl,by simp[hll],hlr,by simp⟩
  |false=>
   simp only[aj,af,ak,bZ,aF];exact⟨_,rfl,by simp,by simp,hc3⟩
 .simp only[h,iP];exact⟨_,rfl,by simp,by simp,by simp⟩
theorem zl(x:cK):cK.mk x.op x.n x.s x.key x.args=x:=by cases x;rfl
theorem OE:∀l:U cK,IC l=l.map toE
 |[]=>rfl
 |x::xs=>by simp only[IC,aH,OE xs]
theorem ai2:∀{l:U ET}{t:ET},t∈l->t.wt<=ET.th l
 |x::l,t,h=>by
  simp only[ET.th];rcases aQ.1 h with rfl |h
  .omega
  .have:=ai2 h;omega
theorem Z2{e x:cK}(h:x∈e.args):(toE x).wt<(toE e).wt:=by
 have h1:(toE x).wt<=ET.th (IC e.args):=ai2 (by rw[OE];exact mem_map.2 ⟨x,h,rfl⟩);cases e;simp only[toE,ET.wt]at *;omega
theorem ab9(e:cK):e.args.length<(toE e).wt:=by
 have h1:=ET.q6 (IC e.args);rw[OE,length_map]at h1;cases e;simp only[toE,ET.wt,OE]at *;omega
def VR:Nat->cK->Prop
 | 0,_=>False
 |k+1,e=>y8 e.op=some ((e.args.length:Int),true)/\∀x∈e.args,VR k x
theorem ahe(op:Int):∃a b,y8 op=some (a,b):=by
 simp only[y8];cases (op==0)<;>cases (op==1)<;>cases (op==2)<;>cases (op==3)<;>cases (op==9)<;>cases (op==15)<;>cases (op==16)<;>cases (decide (op>=0))<;>exact⟨_,_,rfl⟩
theorem aaK(hn:4000002<=n):∀(m:Nat)(e:cK)(a:Int),m<=9223372036854775000->0<=a->a<=12->13<=a+m->(toE e).wt<=4000000->∃r,sM n m e a=some r/\1<=r/\r<=13+m/\(r<=12->VR m e)
 | 0,_,_,_,_,_,h,_=>absurd h (by omega)
 |m+1,e,a,hm,h0,h1,h2,h3=>by
  have⟨x,b,hx⟩:=ahe e.op;have hla:=ab9 e;show ∃r,Ar n (sM n m) e a=some r/\_;simp only[Ar,hx,af];have bad:∃r,some (13:Int)=some r/\1<=r/\r<=13+((m+1:Nat):Int)/\(r<=12->VR (m+1) e):=⟨13,rfl,by omega,by omega,λh=>absurd h (by omega)⟩;cases b with
  |false=>simpa only[Bool.not_false,aj,af]using bad
  |true=>
   simp only[Bool.not_true,ak];by_cases hxl:x=(e.args.length:Int)
   .subst hxl;simp only[show ((e.args.length:Int) !=(e.args.length:Int))=false from by simp,ak,af];by_cases ha:a>=12
    .simpa only[ha,decide_true,aj]using bad
    .simp only[ha,decide_false,ak]
     obtain⟨o,g1,g2,g3,g4⟩:=dK (step:=xW n (sM n m) e a) (λ i (v:Int×Int)=>v.2=(i:Int)/\i<=e.args.length/\0<=v.1/\v.1<=13+m/\(v.1<=11->∀y∈e.args.take i,VR m y))
      (λ o=>0<=o/\o<=13+m/\(o<=11->∀y∈e.args,VR m y)) e.args.length (λ k v h=>h.2.1) (by
      rintro i ⟨v2,v3⟩ ⟨hv,hi,i1,i2,i3⟩;simp only at hv i1 i2 i3;subst hv;by_cases hlt:i<e.args.length
      .left;have hwx:=Z2 (getElem_mem hlt);obtain⟨r,r1,r2,r3,r4⟩:=aaK hn m e.args[i] (a+1) (by omega) (by omega) (by omega) (by omega) (by omega);refine⟨(max v2 r,((i+1:Nat):Int)),?_,rfl,hlt,by show 0<=max v2 r;omega,by show max v2 r<=_;omega,λh y hy=>?_⟩
       .simp only[xW,show decide ((i:Int)<(e.args.length:Int))=true from by simp;omega,aj,bq hlt,af,zl,dX (show -9223372036854775808<=a+1 by omega) (show a+1<=9223372036854775807 by omega),r1,aM i]
       .have h':max v2 r<=11:=h;rw[List.take_add_one,dU hlt]at hy;rw[bn]at hy;rcases hy with hy |hy
        .exact i3 (by omega) y hy
        .simp at hy;subst hy;exact r4 (by omega)
      .right;refine⟨v2,?_,i1,i2,λh y hy=>i3 h y (by rw[take_of_length_le (by omega)];exact hy)⟩;simp only[xW,show decide ((i:Int)<(e.args.length:Int))=false from by simp;omega,ak]) n 0 ((0:Int),(0:Int)) ⟨rfl,Nat.zero_le _,by simp,by show(0:Int)<=_;omega,by simp⟩ (by omega)
     simp only[g1,af];rw[dX (by omega) (by omega)];exact⟨o+1,rfl,by omega,by omega,λh=>⟨hx,g4 (by omega)⟩⟩
   .simpa only[show (x !=(e.args.length:Int))=true from by simpa using hxl,aj,af]using bad
theorem Sj(hn:4000002<=n)(hn2:n<=9223372036854775000){e:cK}(h:(toE e).wt<=4000000):∃b,IK n e=some b/\(b=true->VR n e):=by
 obtain⟨r,h1,h2,h3,h4⟩:=aaK hn n e 0 hn2 (by omega) (by omega) (by omega) h;refine⟨decide (r<=12),?_,λh=>h4 (by simpa using h)⟩;simp only[IK,zl,Qm,h1,af]
def aqn(tables:U dx)(s key:ByteArray):Int:=match tables.find? λt=>ByteArray.toList t.name==ByteArray.toList s with
 |some t=>aqi t key
 |none=>0
def PA(ts:U dx):Prop:=ts.length<=4000000/\∀t∈ts,t.rows.length<=4000000
theorem aks(hn:4000002<=n){a0:U eT}{ts:U dx}{a2:U dN}{a3:U bK}{a4:U gD}{a5:U fA}{a6:U cZ}{a7:Int}{zs:U ByteArray}(ht:PA ts)(e:cK)(kn:U (ByteArray×Int)):jo n a0 ts a2 a3 a4 a5 a6 a7 zs e kn=some (aqn ts e.s e.key,kn):=by
 have h1:=ht.1;simp only[jo,zl];rw[Gf (λ t=>ByteArray.toList t.name==ByteArray.toList e.s) (λ x _=>rfl) (by omega) (by omega)];simp only[af,aqn];rcases Xm (λ t:dx=>ByteArray.toList t.name==ByteArray.toList e.s) ts with ⟨i,hi,h1,h2⟩ |⟨h1,h2⟩
 .rw[h1,h2];have d:decide ((i:Int)<0)=false:=by simp
  have hr:=ht.2 _ (getElem_mem hi);simp only[d,ak,bq hi,af];rw[Gg (λ x=>ByteArray.toList x.name==ByteArray.toList e.key) (λ x _=>rfl) (by omega) (by omega)];simp only[af,aqi];rcases Xm (λ x:bX=>ByteArray.toList x.name==ByteArray.toList e.key) ts[i].rows with ⟨j,hj,g1,g2⟩ |⟨g1,g2⟩
  .rw[g1,g2];have d:decide ((j:Int)>=0)=true:=(by simp);simp only[d,aj,bq hj,af]
  .rw[g1,g2];rfl
 .rw[h1,h2];rfl
theorem cO{α:Type}{c:Bool}{x y:J α}(hx:∃r,x=some r)(hy:∃r,y=some r):∃r,(bif c then x else y)=some r:=by cases c<;>assumption
theorem Y3(a b:Int):∃r,wN a b=some r:=by
 simp only[wN];cases h:(b==0)with
 |true=>exact⟨_,rfl⟩
 |false=>
  have:(b !=0)=true:=by simp[bne,h]
  simp only[this,aj,ak];cases (Int.tmod a b !=0)<;>cases (decide (Int.tmod a b<0)==decide (b<0))<;>exact⟨_,rfl⟩
theorem Xz(b:Bool):∃r,y9 b=some r:=cO ⟨_,rfl⟩ ⟨_,rfl⟩
theorem sP{α β:Type}{x:J α}{f:α->J β}(hx:∃r,x=some r)(hf:∀r,∃s,f r=some s):∃s,x.bind f=some s:=by obtain⟨r,rfl⟩:=hx;exact hf r
theorem aeT(op a b:Int):∃r,Kh op a b=some r:=by
 have q:=Y3 a b;have t:=λc=>Xz c;unfold Kh
 repeat' first
  |exact⟨_,rfl⟩
  |exact q
  |exact t _
  |apply cO
  |(refine sP ?_ λr=>?_)
theorem Jh(h:0<n):cN 0 n=true:=by simp[cN];omega
theorem aeU(h:1<n):cN 1 n=true:=by simp[cN];omega
theorem amF(h:2<n):cN 2 n=true:=by simp[cN];omega
theorem OG{α:Type}{l:U α}(h:0<l.length):bo l (((0:Nat):Int)+0)=some l[0]:=aX (i:=0) h
theorem ai4{α:Type}{l:U α}(h:1<l.length):bo l (((0:Nat):Int)+1)=some l[1]:=aX (i:=1) h
theorem aou{α:Type}{l:U α}(h:2<l.length):bo l (((0:Nat):Int)+2)=some l[2]:=aX (i:=2) h
theorem Y4{l:U ByteArray}{s:ByteArray}(hl:l.length<=4000000)(hn:4000002<=n):∃r,fJ n l s=some r:=by
 obtain⟨o,h,_⟩:=dK (step:=nM l s) (λ i (v:Int)=>v=(i:Int)/\i<=l.length) (λ _=>True) l.length (λ k v h=>h.2) (by
  rintro i v ⟨rfl,hi⟩;by_cases hlt:i<l.length
  .simp only[nM,show decide ((i:Int)<(l.length:Int))=true from by simp;omega,aj,bq hlt,af,aM i];cases (ByteArray.toList s==ByteArray.toList l[i])with
   |true=>exact .inr ⟨_,rfl,trivial⟩
   |false=>exact .inl ⟨_,rfl,rfl,hlt⟩
  .simp only[nM,show decide ((i:Int)<(l.length:Int))=false from by simp;omega,ak];exact .inr ⟨_,rfl,trivial⟩) n 0 0 ⟨rfl,Nat.zero_le _⟩ (by omega)
 simp only[fJ,rz,h];cases o with
 |inl u=>cases u;simp only[eO,af];exact⟨_,rfl⟩
 |inr r=>simp only[iP,af];exact⟨_,rfl⟩
theorem akt{op a:Int}(h0:(op==0)=false)(h1:(op==1)=false)(h2:(op==2)=false)(h3:(op==3)=false)(h9:(op==9)=false)(Mp:(op==15)=false)(h16:(op==16)=false)(h:y8 op=some (a,true)):a=2:=by
 simp only[y8,h0,h1,h2,h3,h9,Mp,h16,ak,af]at h;cases hd:decide (op>=0)with
 |true=>rw[hd]at h;simp only[aj,aC,Prod.mk.injEq]at h;exact h.1.symm
 |false=>rw[hd]at h;simp at h
section
variable {n:Nat} {a0:List eT} {ts:List dx} {a2:List dN} {a3:List bK} {a4:List gD} {a5:List fA} {a6:List cZ} {a7:Int} {zs:List ByteArray}
theorem XA(hn:4000002<=n)(ht:PA ts)(hz:zs.length<=4000000):∀(m:Nat)(e:cK)(kn:U (ByteArray×Int)),VR m e->(toE e).wt<=4000000->∃v,dh n m a0 ts a2 a3 a4 a5 a6 a7 zs e kn=some (v,kn)
 | 0,_,_,h,_=>h.elim
 |m+1,e,kn,⟨ha,hr⟩,hw=>by
  have hla:=ab9 e;have hmx:maxLen=9223372036854775807:=rfl;show ∃v,fH n (dh n m) a0 ts a2 a3 a4 a5 a6 a7 zs e kn=some (v,kn)
  obtain⟨o,h1,l,rfl,hl⟩:=dK (step:=fD n (dh n m) a0 ts a2 a3 a4 a5 a6 a7 zs e) (λ i (v:Int×List (ByteArray×Int)×List Int)=>∃l,v=((i:Int),kn,l)/\i<=e.args.length/\l.length=i)
   (λ o=>∃l,o=(kn,l)/\l.length=e.args.length) e.args.length (λ k v ⟨_,_,h,_⟩=>h) (by
   rintro i v ⟨l,rfl,hi,hl⟩;by_cases hlt:i<e.args.length
   .left;have hwx:=Z2 (getElem_mem hlt);obtain⟨x,hx⟩:=XA hn ht hz m e.args[i] kn (hr _ (getElem_mem hlt)) (by omega);have key:∃b,((bif (e.op==(16:Int))then(bif (decide ((i:Int)>(0:Int)))then(ck (cN 0 l.length) ((bo l ((0:Nat)+0:Int)).bind λx2=>some (!((x2 !=(0:Int))==((i:Int)==(1:Int))))))else some false)else some false):J (Bool))=some b:=by
     refine cO ?_ ⟨_,rfl⟩;by_cases h0:(i:Int)>0
     .simp only[h0,decide_true,aj,Jh (show 0<l.length by omega),OG (show 0<l.length by omega),af];exact⟨_,rfl⟩
     .simp only[h0,decide_false,ak];exact⟨_,rfl⟩
    obtain⟨b,hb⟩:=key;have hap:∀z:Int,bP l.length l.length (sub [z] 0 1).length 1 8=true:=λz=>(by simp[bP,sub];omega);simp only[fD,show decide ((i:Int)<(e.args.length:Int))=true from by simp;omega,aj,bq hlt,af,hb,zl,hx,hap,dS,aF,aM i];cases b with
    |true=>exact⟨_,rfl,_,rfl,hlt,by simp[sub,hl]⟩
    |false=>exact⟨_,rfl,_,rfl,hlt,by simp[sub,hl]⟩
   .right;refine⟨(kn,l),?_,l,rfl,by omega⟩;simp only[fD,show decide ((i:Int)<(e.args.length:Int))=false from by simp;omega,ak,aF,aj]) n 0 ((0:Int),kn,[]) ⟨[],rfl,Nat.zero_le _,rfl⟩ (by omega)
  simp only[fH,length_nil,aF,aj,h1,af,zl,aks hn ht];cases h0:(e.op==0)with
  |true=>exact⟨_,rfl⟩
  |false=>
  cases h1:(e.op==1)with
  |true=>exact⟨_,rfl⟩
  |false=>
  cases h2:(e.op==2)with
  |true=>exact⟨_,rfl⟩
  |false=>
  cases h3:(e.op==3)with
  |true=>
   have⟨r,hr⟩:=Y4 (n:=n) (l:=zs) (s:=e.s) hz hn;have⟨r2,hr2⟩:=Xz r;simp only[ak,aj,hr,hr2,af];exact⟨_,rfl⟩
  |false=>
  cases h9:(e.op==9)with
  |true=>
   have e9:e.op=9:=(by simpa using h9);rw[e9]at ha;have:l.length=1:=(by have h:some ((1:Int),true)=some ((e.args.length:Int),true):=ha;simp at h;omega);simp only[ak,aj,Jh (show 0<l.length by omega),OG (show 0<l.length by omega),af];exact⟨_,rfl⟩
  |false=>
  cases Mp:(e.op==15)with
  |true=>
   have e15:e.op=15:=(by simpa using Mp);rw[e15]at ha;have:l.length=1:=(by have h:some ((1:Int),true)=some ((e.args.length:Int),true):=ha;simp at h;omega);obtain⟨r2,hr2⟩:=Xz (l[0]'(by omega)==0);simp only[ak,aj,Jh (show 0<l.length by omega),OG (show 0<l.length by omega),af,hr2];exact⟨_,rfl⟩
  |false=>
  cases h16:(e.op==16)with
  |true=>
   have e16:e.op=16:=(by simpa using h16);rw[e16]at ha;have:l.length=3:=(by have h:some ((3:Int),true)=some ((e.args.length:Int),true):=ha;simp at h;omega);simp only[ak,aj,Jh (show 0<l.length by omega),OG (show 0<l.length by omega),aeU (show 1<l.length by omega),ai4 (show 1<l.length by omega),amF (show 2<l.length by omega),aou (show 2<l.length by omega),af];cases (l[0]'(by omega) !=0)<;>exact⟨_,rfl⟩
  |false=>
   have:l.length=2:=(by have:=akt h0 h1 h2 h3 h9 Mp h16 ha;omega);obtain⟨r,hr⟩:=aeT e.op (l[0]'(by omega)) (l[1]'(by omega));simp only[ak,aj,Jh (show 0<l.length by omega),OG (show 0<l.length by omega),aeU (show 1<l.length by omega),ai4 (show 1<l.length by omega),af,hr];exact⟨_,rfl⟩
end
theorem ahf{ms:U bX}(h:ms.length<=4000000)(hn:4000002<=n):∃o,iter (j6 n ms) n ((0:Int),([]:U (ByteArray×Int)),([]:U (ByteArray×Bool)))=some o:=by
 obtain⟨o,h,_⟩:=dK (step:=j6 n ms) (λ i (v:Int×List (ByteArray×Int)×List (ByteArray×Bool))=>∃a b,v=((i:Int),a,b)/\i<=ms.length) (λ _=>True) ms.length (λ k v ⟨_,_,_,h⟩=>h) (by
  rintro i v ⟨a,b,rfl,hi⟩;by_cases hlt:i<ms.length
  .left;simp only[j6,show decide ((i:Int)<(ms.length:Int))=true from by simp;omega,aj,bq hlt,af,aM i];cases (!((fG Gb.lw ms[i].name b).getD false))<;>exact⟨_,rfl,_,_,rfl,hlt⟩
  .right;simp only[j6,show decide ((i:Int)<(ms.length:Int))=false from by simp;omega,ak];exact⟨_,rfl,trivial⟩) n 0 _ ⟨[],[],rfl,Nat.zero_le _⟩ (by omega)
 exact⟨o,h⟩
structure Z1(p:bU):Prop where
 defs:gR p.defs
 tabs:PA p.tables
theorem Me{p:bU}{ms:U bX}{zs:U ByteArray}(hp:Z1 p)(hm:ms.length<=4000000)(hz:zs.length<=4000000)(hn:5000003<=n)(hn2:n<=9223372036854775000):∃kn ab,mH n p ms zs=some (p.defs,p.tables,p.zones,p.rules,p.caps,p.views,p.uu,p.hours,zs,kn,ab)/\ab.length=p.defs.length:=by
 obtain⟨⟨w1,w2⟩,hs1⟩:=ahf (n:=n) hm (by omega);have⟨r,hr,hrl,hrr,_⟩:=FY (n:=n) hp.defs hn;have hl:=hp.defs.len;have hmx:maxLen=9223372036854775807:=rfl;have hmk:xK (p.defs.length:Int) 8=true:=by simp[xK];omega
 simp only[mH,hs1,af,Int.le_refl,decide_true,Bool.true_and,show decide ((0:Int)<=(p.defs.length:Int))=true from by simp,hmk,aj,hr];cases hb:(r.2.2 !=(0:Int))with
 |true=>
  simp only[aj,Int.toNat_natCast,List.length_replicate,aF];exact⟨_,_,rfl,by simp⟩
 |false=>
  obtain⟨o,h1,kn,ab,rfl,h2⟩:=dK (step:=gM n p zs w2 r) (λ i (v:Int×List (ByteArray×Int)×List Int)=>∃kn ab,v=((i:Int),kn,ab)/\i<=r.1.length/\ab.length=p.defs.length)
   (λ o=>∃kn ab,o=(kn,ab)/\ab.length=p.defs.length) r.1.length (λ k v ⟨_,_,_,h,_⟩=>h) (by
   rintro i v ⟨kn,ab,rfl,hi,hol⟩;by_cases hlt:i<r.1.length
   .left;have hk:=hrr r.1[i] (getElem_mem hlt);obtain⟨k,hk2⟩:=Int.eq_ofNat_of_zero_le hk.1;have hkd:k<p.defs.length:=(by omega);have hko:k<ab.length:=(by omega);have hbw:=hp.defs.body (getElem_mem hkd);obtain⟨b,hb1,hb2⟩:=Sj (n:=n) (by omega) hn2 hbw;simp only[gM,show decide ((i:Int)<(r.1.length:Int))=true from by simp;omega,aj,aV hlt,aX hlt,af,hk2,bq hkd,hb1,Int.toNat_natCast,aV hkd,aX hko,aM i,show(((0:Nat):Int)+(k:Int)).toNat=k by omega];have step2:∀(RW:U (ByteArray×Int)) (out':U Int),out'.length=p.defs.length->∃RR,((bif (!((fG Gb.lw p.defs[k].name w2).getD false))then(bo out' ((0:Nat)+(k:Int):Int)).bind λx5=>some ((nG Gb.lw p.defs[k].name x5 RW),out')else some (RW,out')):J ((List (ByteArray×Int))×(List Int)))=some (RR,out'):=by
     intro RW out' ho;cases (!((fG Gb.lw p.defs[k].name w2).getD false))with
     |true=>simp only[aj,aX (show k<out'.length by omega),af];exact⟨_,rfl⟩
     |false=>exact⟨_,rfl⟩
    cases b with
    |true=>
     obtain⟨v,hv⟩:=XA (n:=n) (a0:=p.defs) (a2:=p.zones) (a3:=p.rules) (a4:=p.caps) (a5:=p.views) (a6:=p.uu) (a7:=p.hours) (by omega) hp.tabs hz n _ kn (hb2 rfl) hbw;simp only[gu,hv,aj,af];obtain⟨kn2,h2⟩:=step2 kn (ab.set k v) (by simp[hol]);rw[h2];exact⟨_,rfl,_,_,rfl,hlt,by simp[hol]⟩
    |false=>
     simp only[ak,af];have⟨kn2,h2⟩:=step2 kn ab hol;rw[h2];exact⟨_,rfl,_,_,rfl,hlt,hol⟩
   .right;simp only[gM,show decide ((i:Int)<(r.1.length:Int))=false from by simp;omega,ak];exact⟨_,rfl,_,_,rfl,hol⟩) n 0 ((0:Int),w1,List.replicate p.defs.length 0) ⟨_,_,rfl,Nat.zero_le _,by simp⟩ (by omega)
  simp only[ak,Int.toNat_natCast,h1,af,h2,aF,aj];exact⟨_,_,rfl,h2⟩
theorem all_eq{d:bD}(h:Xw d)(hn:1001<=n):wL n d=some (kQ d):=by simp only[wL,Xx h hn,af,bZ,aF,aj]
theorem Y5(a b:ByteArray)(h:a.size<=4000000):∃r,strings_Contains a b=some r:=by
 simp only[strings_Contains,Nat.ble_eq_true_of_le h,aj];exact⟨_,rfl⟩
theorem Sk(c:Int):∃b,EL c=some b:=cO ⟨_,rfl⟩ ⟨_,rfl⟩
theorem ahh(c:Int):∃b,Ql c=some b:=cO ⟨_,rfl⟩ ⟨_,rfl⟩
theorem aku(c:Int):∃b,Ao c=some b:=sP (Sk c) λ_=>cO ⟨_,rfl⟩ (sP (ahh c) λ_=>⟨_,rfl⟩)
theorem aeV{s:ByteArray}{i:Nat}(h:i<s.size):∃c,RL s (i:Int)=some c:=by
 simp only[RL,show decide (0<=(i:Int))=true from by simp,aj,Int.toNat_natCast];rw[getElem?_pos s i h];exact⟨_,rfl⟩
theorem akv{s:ByteArray}{φ:(Int×Unit)->J Bool}(h:∀c,∃b,φ (c,())=some b)(hs:s.size<=4000000)(hn:4000002<=n):∃r,Od n s φ=some r:=by
 obtain⟨o,h1,_⟩:=dK (step:=Am s φ) (λ i (v:Int)=>v=(i:Int)/\i<=s.size) (λ _=>True) s.size (λ k v h=>h.2) (by
  rintro i v ⟨rfl,hi⟩;by_cases hlt:i<s.size
  .have⟨c,hc⟩:=aeV hlt;have⟨b,hb⟩:=h c;simp only[Am,show decide ((i:Int)<(s.size:Int))=true from by simp;omega,aj,hc,af,hb,aM i];cases b with
   |true=>exact .inl ⟨_,rfl,rfl,hlt⟩
   |false=>exact .inr ⟨_,rfl,trivial⟩
  .simp only[Am,show decide ((i:Int)<(s.size:Int))=false from by simp;omega,ak,af];exact .inr ⟨_,rfl,trivial⟩) n 0 0 ⟨rfl,Nat.zero_le _⟩ (by omega)
 simp only[Od,h1,af];exact⟨_,rfl⟩
theorem akw(s:ByteArray)(hn:4000002<=n):∃b,Oe n s=some b/\(b=true->s.size<=20):=by
 simp only[Oe];cases h0:(ByteArray.toList s==ByteArray.toList (⟨#[]⟩))with
 |true=>exact⟨false,by simp only[aj,af],λh=>(by cases h)⟩
 |false=>
  have hs:0<s.size:=by
   refine Nat.pos_of_ne_zero λh=>?_;have:s=⟨#[]⟩:=by
    obtain⟨⟨l⟩⟩:=s;have:l.length=0:=h;rw[List.eq_nil_of_length_eq_zero this]
   rw[this]at h0;simp at h0
  have⟨c,hc⟩:=aeV hs;have hc':RL s 0=some c:=hc;have⟨b,hb⟩:=Sk c;simp only[ak,hc',af,hb];cases b with
  |false=>exact⟨false,by simp only[Bool.not_false,aj,af],λh=>(by cases h)⟩
  |true=>
   simp only[Bool.not_true,ak,af];by_cases h20:(s.size:Int)>20
   .exact⟨false,by simp only[h20,decide_true,aj],λh=>(by cases h)⟩
   .obtain⟨r,hr⟩:=akv (n:=n) (s:=s) (φ:=λ(y1:Int×Unit)=>Ao y1.1) (λ c=>aku c) (by omega) hn;simp only[h20,decide_false,ak,hr,af];exact⟨_,rfl,λ_=>by omega⟩
theorem akx(s:ByteArray)(hn:4000002<=n):∃b,wM n s=some b:=by
 have⟨b,hb,h20⟩:=akw (n:=n) s hn;simp only[wM,hb,af];cases b with
 |false=>exact⟨_,rfl⟩
 |true=>
  have hs:=h20 rfl;have hmx:maxLen=9223372036854775807:=rfl;have c1:Vy (⟨#[32]⟩) s=true:=by
   have:(⟨#[32]⟩:ByteArray).size=1:=rfl;simp only[Vy,aW];omega
  have c2:Vy ((⟨#[32]⟩)++s) (⟨#[32]⟩)=true:=by
   have h1:(⟨#[32]⟩:ByteArray).size=1:=rfl;simp only[Vy,aW,ByteArray.size_append];omega
  simp only[aj,c1,c2];refine sP (Y5 _ _ (Nat.le_of_ble_eq_true ?_)) λ_=>⟨_,rfl⟩
  kernel_rfl
theorem aky(a b:DQ):∃r,xU a b=some r:=by
 unfold xU;rw[zi];exact cO (cO ⟨_,rfl⟩ ⟨_,rfl⟩) ⟨_,rfl⟩
theorem gm{l:U aJ}{φ:(aJ×Unit)->J Bool}(p:aJ->Bool)(h:∀x∈l,φ (x,())=some (p x))(hl:l.length<1099511627776)(hn:l.length<n):fP n l φ=some (l.any p):=by
 have:qC n l φ=some (xg p l):=fK p h hl hn;simp only[fP,this,af,xM]
theorem yA{l:U aJ}{φ:(aJ×Unit)->J Bool}(h:∀x∈l,∃b,φ (x,())=some b)(hl:l.length<1099511627776)(hn:l.length<n):fP n l φ=some (l.any λx=>(φ (x,())).getD false):=
 gm _ (λ x hx=>by have⟨b,hb⟩:=h x hx;rw[hb];rfl) hl hn
def J1(d:bD):Prop:=∀p∈d.phases,p.gives.length<=1000
theorem ahi{l:U aJ}(hl:l.length<=1000000)(hn:4000002<=n):iter (kW n l) n (0:Int)=some (.inr false)\/(iter (kW n l) n (0:Int)=some (.inl ())/\∀v∈l,okV v=true):=by
 obtain⟨o,h1,h2⟩:=dK (step:=kW n l) (λ i (v:Int)=>v=(i:Int)/\i<=l.length/\∀x∈l.take i,okV x=true) (λ o=>o= .inr false\/(o= .inl ()/\∀v∈l,okV v=true)) l.length (λ k v h=>h.2.1) (by
  rintro i v ⟨rfl,hi,hall⟩;by_cases hlt:i<l.length
  .simp only[kW,show decide ((i:Int)<(l.length:Int))=true from by simp;omega,aj,aV hlt,aX hlt,af,uI,aM i];cases hv:okV l[i]with
   |false=>exact .inr ⟨_,by simp only[Bool.not_false,aj,af];rfl,.inl rfl⟩
   |true=>
    have hsub:(sub l 0 i).length=i:=(by simp[sub];omega);have hc:=yA (n:=n) (l:=sub l 0 i) (φ:=λ(y1:aJ×Unit)=>rD y1.1 l[i]) (λ x _=>sP (aky _ _) λ_=>⟨_,rfl⟩) (by omega) (by omega);simp only[Bool.not_true,ak,pX (show (0:Int)<=0 by omega) (show (0:Int)<=(i:Int)by omega) (show (i:Int)<=(l.length:Int)by omega),aj,Int.toNat_natCast,Ey hsub,hc,af];cases ((sub l 0 i).any λx=>((λ (y1:aJ×Unit)=>rD y1.1 l[i]) (x,())).getD false)with
    |true=>exact .inr ⟨_,rfl,.inl rfl⟩
    |false=>
     refine .inl ⟨_,rfl,rfl,hlt,λx hx=>?_⟩;rw[List.take_add_one,dU hlt,bn]at hx;rcases hx with hx |hx
     .exact hall x hx
     .simp at hx;subst hx;exact hv
  .refine .inr ⟨.inl (),?_,.inr ⟨rfl,λv hv=>hall v (by rw[take_of_length_le (by omega)];exact hv)⟩⟩;simp only[kW,show decide ((i:Int)<(l.length:Int))=false from by simp;omega,ak]) n 0 0 ⟨rfl,Nat.zero_le _,by simp⟩ (by omega)
 rcases h2 with rfl |⟨rfl,h2⟩
 .exact .inl h1
 .exact .inr ⟨h1,h2⟩
theorem ahj{p:tL}(hp:p.gives.length<=1000)(hn:4000002<=n):iter (kX n p) n ((0:Int),([]:U (ByteArray×Bool)))=some (.inl ())\/iter (kX n p) n ((0:Int),([]:U (ByteArray×Bool)))=some (.inr (.inr (.inr false))):=by
 obtain⟨o,h1,h2⟩:=dK (step:=kX n p) (λ i (v:Int×List (ByteArray×Bool))=>∃m,v=((i:Int),m)/\i<=p.gives.length) (λ o=>o= .inl ()\/o= .inr (.inr (.inr false))) p.gives.length (λ k v ⟨_,_,h⟩=>h) (by
  rintro i v ⟨m,rfl,hi⟩;by_cases hlt:i<p.gives.length
  .have key:∃b,((bif ((fG Gb.lw p.gives[i].name m).getD false)then some true else(wM n p.gives[i].name).bind λr4=>(bif (!r4)then some true else(bif (decide (p.gives[i].n<(0:Int)))then some true else some (decide (p.gives[i].n>(1073741824:Int)))))):J (Bool))=some b:=
    cO ⟨_,rfl⟩ (sP (akx _ hn) λ_=>cO ⟨_,rfl⟩ (cO ⟨_,rfl⟩ ⟨_,rfl⟩))
   obtain⟨b,hb⟩:=key;simp only[kX,show decide ((i:Int)<(p.gives.length:Int))=true from by simp;omega,aj,bq hlt,af,hb,aM i];cases b with
   |true=>exact .inr ⟨_,rfl,.inr rfl⟩
   |false=>exact .inl ⟨_,rfl,_,rfl,hlt⟩
  .simp only[kX,show decide ((i:Int)<(p.gives.length:Int))=false from by simp;omega,ak];exact .inr ⟨_,rfl,.inl rfl⟩) n 0 _ ⟨[],rfl,Nat.zero_le _⟩ (by omega)
 rcases h2 with rfl |rfl
 .exact .inl h1
 .exact .inr h1
theorem ahk{d:bD}(hd:Xw d)(hg:J1 d)(hn:4000002<=n):iter (kY n d) n (0:Int)=some (.inl ())\/iter (kY n d) n (0:Int)=some (.inr false):=by
 have hd1:=hd.1;obtain⟨o,h1,h2⟩:=dK (step:=kY n d) (λ i (v:Int)=>v=(i:Int)/\i<=d.phases.length) (λ o=>o= .inl ()\/o= .inr false) d.phases.length (λ k v h=>h.2) (by
  rintro i v ⟨rfl,hi⟩;by_cases hlt:i<d.phases.length
  .simp only[kY,show decide ((i:Int)<(d.phases.length:Int))=true from by simp;omega,aj,bq hlt,af,aM i];rcases ahj (n:=n) (hg _ (getElem_mem hlt)) hn with h |h
   .simp only[h,eO];cases decide ((d.phases[i].gives.length:Int)>30)with
    |true=>exact .inr ⟨_,rfl,.inr rfl⟩
    |false=>exact .inl ⟨_,rfl,rfl,hlt⟩
   .simp only[h,iP];exact .inr ⟨_,rfl,.inr rfl⟩
  .simp only[kY,show decide ((i:Int)<(d.phases.length:Int))=false from by simp;omega,ak];exact .inr ⟨_,rfl,.inl rfl⟩) n 0 0 ⟨rfl,Nat.zero_le _⟩ (by omega)
 rcases h2 with rfl |rfl
 .exact .inl h1
 .exact .inr h1
theorem Kr{d:bD}(hd:Xw d):(kQ d).length<=1000000:=by
 have:=ef hd.2;have:=hd.1;unfold kQ;omega
theorem aov{d:bD}(hd:Xw d)(hg:J1 d)(hn:4000002<=n):∃b,xV n d=some b/\(b=true->∀v∈kQ d,okV v=true):=by
 simp only[xV,all_eq hd (show 1001<=n by omega),af];have key:∀c1 c2 c3 c4 c5 c6:Bool,∃b,((bif c1 then some true else(bif c2 then some true else(bif c3 then some true else(bif c4 then some true else(bif c5 then some true else some c6))))):J Bool)=some b:=by
  intro c1 c2 c3 c4 c5 c6;exact cO ⟨_,rfl⟩ (cO ⟨_,rfl⟩ (cO ⟨_,rfl⟩ (cO ⟨_,rfl⟩ (cO ⟨_,rfl⟩ ⟨_,rfl⟩))))
 have⟨b,hb⟩:=key (decide (d.lot<0)) (decide (d.lot>1073741824)) (decide ((d.phases.length:Int)<1)) (decide ((d.phases.length:Int)>8)) (decide (((kQ d).length:Int)<1)) (decide (((kQ d).length:Int)>40));rw[hb];cases b with
 |true=>exact⟨false,rfl,λh=>(by cases h)⟩
 |false=>
  simp only[af,ak];rcases ahi (n:=n) (Kr hd) hn with h |⟨h,hall⟩
  .simp only[h,iP];exact⟨false,rfl,λh=>(by cases h)⟩
  .simp only[h,eO];rcases ahk (n:=n) hd hg hn with h2 |h2
   .simp only[h2,eO];exact⟨true,rfl,λ_=>hall⟩
   .simp only[h2,iP];exact⟨false,rfl,λh=>(by cases h)⟩
theorem Fs{l:U gD}{φ:(gD×Unit)->J Bool}(p:gD->Bool)(h:∀x∈l,φ (x,())=some (p x))(hl:l.length<1099511627776)(hn:l.length<n):mQ n l φ=some (l.any p):=by
 have:vo n l φ=some (xg p l):=fK p h hl hn;simp only[mQ,this,af,xM]
theorem amH{lot:dw}{l:U aJ}(ha:lot.area.length<=900)(hv:∀v∈l,okV v=true)(hl:l.length<=1000000)(hn:4000002<=n):iter (j3 n lot l) n (0:Int)=some (.inl ())\/iter (j3 n lot l) n (0:Int)=some (.inr false):=by
 obtain⟨o,h1,h2⟩:=dK (step:=j3 n lot l) (λ i (v:Int)=>v=(i:Int)/\i<=l.length) (λ o=>o= .inl ()\/o= .inr false) l.length (λ k v h=>h.2) (by
  rintro i v ⟨rfl,hi⟩;by_cases hlt:i<l.length
  .have hb:=Xv (hv _ (getElem_mem hlt));have hcl:=Fa (keep:=λp q=>p&&q) lot.area [iA l[i]];have hc:=E9 (n:=n) (a:=lot.area) (b:=[iA l[i]]) (by omega) (by simp) (by omega) (by simp;omega) (by omega);have hA:=Fb (n:=n) (a:=(nk (λ p q=>p&&q) lot.area [iA l[i]]).1) (by omega) (by omega);have hr:=Dm hb;simp only[iA]at hc hA hr;simp only[j3,show decide ((i:Int)<(l.length:Int))=true from by simp;omega,aj,aV hlt,aX hlt,af,show ∀r:aA,sub [r] 0 1=[r]from λ_=>rfl,length_singleton,aF,hc,hA,hr,aM i];have key:∀c x:Bool,∃b,((bif c then some true else some x):J Bool)=some b:=λc x=>cO ⟨_,rfl⟩ ⟨_,rfl⟩;obtain⟨b,hb2⟩:=key ((nk (λ p q=>p&&q) lot.area [⟨l[i].bz,l[i].cC,l[i].bx,l[i].cz⟩]).2 !=0) (decide ((bif c8 (nk (λ p q=>p&&q) lot.area [⟨l[i].bz,l[i].cC,l[i].bx,l[i].cz⟩]).1 then Md (nk (λ p q=>p&&q) lot.area [⟨l[i].bz,l[i].cC,l[i].bx,l[i].cz⟩]).1 else 0)<Ly ⟨l[i].bz,l[i].cC,l[i].bx,l[i].cz⟩));rw[hb2];cases b with
   |true=>exact .inr ⟨_,rfl,.inr rfl⟩
   |false=>exact .inl ⟨_,rfl,rfl,hlt⟩
  .simp only[j3,show decide ((i:Int)<(l.length:Int))=false from by simp;omega,ak];exact .inr ⟨_,rfl,.inl rfl⟩) n 0 0 ⟨rfl,Nat.zero_le _⟩ (by omega)
 rcases h2 with rfl |rfl
 .exact .inl h1
 .exact .inr h1
theorem amI{p:bU}{ph:tL}(hc:p.caps.length<=1000)(hp:ph.gives.length<=1000)(hn:4000002<=n):iter (j4 n p ph) n (0:Int)=some (.inl ())\/iter (j4 n p ph) n (0:Int)=some (.inr (.inr (.inr false))):=by
 obtain⟨o,h1,h2⟩:=dK (step:=j4 n p ph) (λ i (v:Int)=>v=(i:Int)/\i<=ph.gives.length) (λ o=>o= .inl ()\/o= .inr (.inr (.inr false))) ph.gives.length (λ k v h=>h.2) (by
  rintro i v ⟨rfl,hi⟩;by_cases hlt:i<ph.gives.length
  .simp only[j4,show decide ((i:Int)<(ph.gives.length:Int))=true from by simp;omega,aj,bq hlt,af,Fs (n:=n) (l:=p.caps) (φ:=λ(y1:gD×Unit)=>vk y1.1 ph.gives[i]) (λ c=>ByteArray.toList c.name==ByteArray.toList ph.gives[i].name) (λ _ _=>rfl) (by omega) (by omega),aM i];cases (p.caps.any λc=>ByteArray.toList c.name==ByteArray.toList ph.gives[i].name)with
   |false=>exact .inr ⟨_,rfl,.inr rfl⟩
   |true=>exact .inl ⟨_,rfl,rfl,hlt⟩
  .simp only[j4,show decide ((i:Int)<(ph.gives.length:Int))=false from by simp;omega,ak];exact .inr ⟨_,rfl,.inl rfl⟩) n 0 0 ⟨rfl,Nat.zero_le _⟩ (by omega)
 rcases h2 with rfl |rfl
 .exact .inl h1
 .exact .inr h1
theorem amJ{p:bU}{d:bD}(hc:p.caps.length<=1000)(hd:Xw d)(hg:J1 d)(hn:4000002<=n):iter (j5 n p d) n (0:Int)=some (.inl ())\/iter (j5 n p d) n (0:Int)=some (.inr false):=by
 have hd1:=hd.1;obtain⟨o,h1,h2⟩:=dK (step:=j5 n p d) (λ i (v:Int)=>v=(i:Int)/\i<=d.phases.length) (λ o=>o= .inl ()\/o= .inr false) d.phases.length (λ k v h=>h.2) (by
  rintro i v ⟨rfl,hi⟩;by_cases hlt:i<d.phases.length
  .simp only[j5,show decide ((i:Int)<(d.phases.length:Int))=true from by simp;omega,aj,bq hlt,af,aM i];rcases amI (n:=n) hc (hg _ (getElem_mem hlt)) hn with h |h
   .simp only[h,eO];exact .inl ⟨_,rfl,rfl,hlt⟩
   .simp only[h,iP];exact .inr ⟨_,rfl,.inr rfl⟩
  .simp only[j5,show decide ((i:Int)<(d.phases.length:Int))=false from by simp;omega,ak];exact .inr ⟨_,rfl,.inl rfl⟩) n 0 0 ⟨rfl,Nat.zero_le _⟩ (by omega)
 rcases h2 with rfl |rfl
 .exact .inl h1
 .exact .inr h1
theorem akz{p:bU}{lot:dw}{d:bD}(hc:p.caps.length<=1000)(ha:lot.area.length<=900)(hd:Xw d)(hg:J1 d)(hn:4000002<=n):∃b,oM n p lot d=some b/\(b=true->∀v∈kQ d,okV v=true):=by
 have⟨b,hb,hv⟩:=aov (n:=n) hd hg hn;simp only[oM,hb,af];cases b with
 |false=>exact⟨false,by simp only[Bool.not_false,aj,af],λh=>(by cases h)⟩
 |true=>
  simp only[Bool.not_true,ak,l6 (n:=n) (l:=lot.area) (by omega) (by omega) (by omega),af];cases (lot.id !=d.lot)with
  |true=>exact⟨false,by simp only[aj,af],λh=>(by cases h)⟩
  |false=>
   cases c8 lot.area with
   |false=>exact⟨false,by simp only[Bool.not_false,aj,ak,af],λh=>(by cases h)⟩
   |true=>
    simp only[Bool.not_true,ak,af,all_eq hd (show 1001<=n by omega)];rcases amH (n:=n) ha (hv rfl) (Kr hd) hn with h |h
    .simp only[h,eO];rcases amJ (n:=n) hc hd hg hn with h2 |h2
     .simp only[h2,eO];exact⟨true,rfl,λ_=>hv rfl⟩
     .simp only[h2,iP];exact⟨false,rfl,λh=>(by cases h)⟩
    .simp only[h,iP];exact⟨false,rfl,λh=>(by cases h)⟩
end Go.Proofs
