import Derived.Test.YthkmffljjjfbjaaGreatTD1
open Go.IntKind (i64)
open List (length_take mem_map all_eq_true getElem_mem length_map mem_iff_getElem append_nil length_drop length_nil foldl_cons take_of_length_le mem_filter any_eq_true length_singleton pairwise_cons length_filter_le map_append pairwise_append getElem_drop)
namespace Go.Proofs
open Go.Gb Go.RowKit
variable {n:Nat}
theorem jT(a b:Int):cmp_Compare_int a b=some (if a<b then -1 else if b<a then 1 else 0):=by
 by_cases h1:a<b
 ·simp[cmp_Compare_int,cmp_isNaN_int,h1]
 ·by_cases h2:b<a
  ·simp[cmp_Compare_int,cmp_isNaN_int,h1,h2]
  ·simp[cmp_Compare_int,cmp_isNaN_int,h1,h2]
theorem nU{l:List Int}(hl:l.length<1099511627776)(_:l.length<n):nQ n l=some (jM mA l):=by
 show GC l=_;unfold GC;rw[Nat.ble_eq_true_of_le (show l.length<=1099511627775 by omega),aj]
theorem rG{l:List Int}(hl:l.length<1099511627776)(hn:l.length<n):nR n l=some ((),fT l):=by
 rw[<- aaj];exact U7 (eq:=λx y=>x==y) (ne:=λx y=>x !=y) (λ x y=>by simp[bne]) hl hn
theorem OZ{l:List Int}{a:Int}(hl:l.length<1099511627776)(hn:l.length<n):Cn n l a=some (ze (λ x=>a==x) l):=Oj hl hn
theorem IX{l:List Int}{a:Int}(hl:l.length<1099511627776)(hn:l.length<n):pX n l a=some (l.any λx=>a==x):=by
 unfold pX;rw[OZ hl hn,af,ve]
theorem Dq{l:List bS}{φ:(bS×Unit)->Option Bool}(p:bS->Bool)(h:∀x∈l,φ (x,())=some (p x))(hl:l.length<1099511627776)(hn:l.length<n):qg n l φ=some (ze p l):=gT p h hl hn
theorem Dr{l:List bL}{φ:(bL×Unit)->Option Bool}(p:bL->Bool)(h:∀x∈l,φ (x,())=some (p x))(hl:l.length<1099511627776)(hn:l.length<n):jP n l φ=some (ze p l):=gT p h hl hn
theorem ML{l:List ax}(h:l.length<1099511627776):zf l=some l:=Ol (b:=32) (by omega) (by simp only[maxLen];omega)
theorem Kz{l:List (List ax)}(hf:l.flatten.length<1099511627776)(hl:l.length<1099511627776)(hn:l.length<n):wK n l=some l.flatten:=J3 (ax.mk 0 0 0 0) (b:=32) hf (by omega) hl hn
theorem AL{a b:List ax}(hl:a.length<1099511627776)(hn:a.length<n):ni n a b=some (decide (a=b)):=by
 have e:ni n a b=Qh n (λ x1 x2:ax=>!((x1.x0==(x2.x0:Int))&&((x1.y0==(x2.y0:Int))&&((x1.x1==(x2.x1:Int))&&((x1.y1==(x2.y1:Int))&&true))))) a b:=by kernel_rfl
 rw[e];refine Om (λ x y=>?_) hl hn;obtain⟨a,b,c,d⟩:=x;obtain⟨e,f,g,h⟩:=y;simp only[ax.mk.injEq,Bool.and_true];rw[kC];simp
theorem AO{a b:List aL}(hl:a.length<1099511627776)(hn:a.length<n):tu n a b=some (decide (a=b)):=by
 have e:tu n a b=Qh n (λ x1 x2:aL=>!((x1.from_==(x2.from_:Int))&&((x1.to==(x2.to:Int))&&true))) a b:=by kernel_rfl
 rw[e];refine Om (λ x y=>?_) hl hn;obtain⟨a,b⟩:=x;obtain⟨c,d⟩:=y;simp only[aL.mk.injEq,Bool.and_true];rw[kC];simp
abbrev q6(a b:aL):Bool:=decide (a.from_<b.from_)
theorem KA:Go.Sort.SWO q6 where
 irrefl x:=by simp[q6]
 trans x y z h1 h2:=by simp only[q6,aR]at *;omega
 ntrans x y z h1 h2:=by simp only[q6,dL]at *;omega
theorem GX{l:List aL}{φ:(aL×aL×Unit)->Option Int}(f:aL->aL->Int)(hφ:∀x y,φ (x,y,())=some (f x y))(hf:∀x y,decide (f x y<0)=q6 x y)(hl:l.length<1099511627776)(_:l.length<n):sN n l φ=some (qy q6 l):=
 aas f hφ hf KA hl
theorem W8{V O:Type}{step:V->Option (V⊕O)}(Inv:V->Prop)(Post:O->Prop)(μ:V->Nat)
 (h:∀v,Inv v->(∃ v',step v=some (.inl v')/\Inv v'/\μ v'< μ v)\/∃o,step v=some (.inr o)/\Post o):∀(n:Nat)(v:V),Inv v->μ v<n->∃o,iter step n v=some o/\Post o
 | 0,_,_,hn=>absurd hn (Nat.not_lt_zero _)
 |n+1,v,hi,hn=>by
  rcases h v hi with ⟨v',h1,h2,h3⟩ |⟨o,h1,h2⟩
  ·rw[lT h1];exact W8 Inv Post μ h n v' h2 (by omega)
  ·exact⟨o,iE h1,h2⟩
theorem Fq:∀(N:Nat)(l:List Nat),l.Nodup->(∀ y∈l,y<N)->l.length<=N
 | 0,[],_,_=>aB _
 | 0,x::l,_,h=>absurd (h x (by simp)) (by omega)
 |N+1,l,hn,h=>by
  have h1:=Fq N (l.filter λy=>decide (y≠N)) (hn.filter _) (λ y hy=>by
   rw[mem_filter]at hy;have:=h y hy.1;have:=hy.2;simp only[aR]at this;omega)
  have h2:=List.length_eq_countP_add_countP (λ y=>decide (y≠N)) (l:=l);rw[List.countP_eq_length_filter]at h2;have h3:List.countP (λ a=>decide ¬(decide (a≠N)=true)) l=l.count N:=by
   rw[List.count];refine List.countP_congr λy _=>?_;simp
  have h4:=List.nodup_iff_count.1 hn N;omega
def Ve(us:List (List Int))(N:Nat):Prop:=us.length=N/\N<=4000000/\∀l∈us,l.length<=4000000/\∀k∈l,0<=k/\k<(N:Int)
structure BI(us:List (List Int))(N to h:Nat)(d:List Int)(F:List Nat):Prop where
 dl:d.length=N
 nd:F.Nodup
 rg:∀x∈F,x<N
 mem:∀i:Nat,i<N->(0<=d.getD i 0↔i∈F)
 ub:∀j x:Nat,F[j]? =some x->d.getD x 0<=(j:Int)
 pre:∀j x:Nat,F[j]? =some x->0<j->∃p y:Nat,p<j/\F[p]? =some y/\(y:Int)∈us.getD x []/\d.getD y 0=d.getD x 0 -1
 hd:F[0]? =some to/\d.getD to 0=0
 hh:h<=F.length
 cl:∀p y:Nat,p<h->F[p]? =some y->∀i:Nat,i<N->(y:Int)∈us.getD i []->0<=d.getD i 0
theorem BI.len{us:List (List Int)}{N to h:Nat}{d:List Int}{F:List Nat}(b:BI us N to h d F):F.length<=N:=by exact Fq N F b.nd b.rg
theorem BI.push{us:List (List Int)}{N to h:Nat}{d:List Int}{F:List Nat}(b:BI us N to h d F){i x p:Nat}(hi:i<N)(hd:d.getD i 0<0)(hp:F[p]? =some x)(hx:(x:Int)∈us.getD i []):
 BI us N to h (d.set i (d.getD x 0+1)) (F++[i]):=by
 have RR:i∉F:=λhm=>by have:=(b.mem i hi).2 hm;omega
 have IR:x∈F:=bW hp;have hne:∀y,y∈F->i≠y:=λy hy e=>RR (e ▸ hy);have hset:∀y,y∈F->(d.set i (d.getD x 0+1)).getD y 0=d.getD y 0:=λy hy=>by simp only[List.getD,List.getElem?_set_ne (hne y hy)]
 have tj:(d.set i (d.getD x 0+1)).getD i 0=d.getD x 0+1:=by
  have:i<d.length:=by rw[b.dl];exact hi
  simp[List.getD,this]
 have hx0:0<=d.getD x 0:=(b.mem x (b.rg x IR)).2 IR;have hlt:p<F.length:=(bX.1 hp).1;refine⟨by simpa using b.dl,?_,?_,?_,?_,?_,?_,?_,?_⟩
 ·rw[List.nodup_append];exact⟨b.nd,by simp,λa ha c hc=>by simp at hc;subst hc;exact λe=>RR (e ▸ ha)⟩
 ·intro y hy;rw[aY]at hy;rcases hy with hy |hy
  ·exact b.rg y hy
  ·simp at hy;omega
 ·intro j hj;by_cases e:i=j
  ·subst e;rw[tj];exact⟨λ _=>by simp,λ_=>by omega⟩
  ·simp only[List.getD,List.getElem?_set_ne e];rw[aY];have:=b.mem j hj;simp only[List.getD]at this;rw[this];simp[Ne.symm e]
 ·intro j y hy;rw[List.getElem?_append]at hy;split at hy
  ·rw[hset y (bW hy)];exact b.ub j y hy
  ·rename_i hj;have:y=i/\j=F.length:=by
    cases h:j -F.length with
    |zero=>rw[h]at hy;simp at hy;exact⟨hy.symm,by omega⟩
    |succ z=>rw[h]at hy;simp at hy
   obtain⟨rfl,rfl⟩:=this;rw[tj];have:=b.ub p x hp;omega
 ·intro j y hy hj;rw[List.getElem?_append]at hy;split at hy
  ·have⟨p',y',h1,h2,h3,h4⟩:=b.pre j y hy hj;exact⟨p',y',h1,by rw[List.getElem?_append_left (by have:=(bX.1 h2).1;exact this)];exact h2,h3,by rw[hset y' (bW h2),hset y (bW hy)];exact h4⟩
  ·rename_i hj';have:y=i/\j=F.length:=by
    cases h:j -F.length with
    |zero=>rw[h]at hy;simp at hy;exact⟨hy.symm,by omega⟩
    |succ z=>rw[h]at hy;simp at hy
   obtain⟨rfl,rfl⟩:=this;exact⟨p,x,hlt,by rw[List.getElem?_append_left hlt];exact hp,hx,by rw[tj,hset x IR];omega⟩
 ·have h0:=(bX.1 b.hd.1).1;exact⟨by rw[List.getElem?_append_left h0];exact b.hd.1,by rw[hset _ (bW b.hd.1)];exact b.hd.2⟩
 ·have:=b.hh;simp;omega
 ·intro p' y hp' hy j hj hm;rw[List.getElem?_append_left (by have:=b.hh;omega)]at hy;have:=b.cl p' y hp' hy j hj hm;rw[hset j ((b.mem j hj).1 this)];exact this
theorem nt{α:Type}(o:Nat)(l:List α):Rm o l=l.drop o:=by cases o<;>simp[Rm]
def BS(us:List (List Int))(N to h x:Nat):(Int×Int×List Int×List Int)->Prop
 |(v4,v5,d,v7)=>∃(o i:Nat)(F:List Nat),v4=(o:Int)/\v5=(i:Int)/\o<=v7.length/\v7.drop o=(F.drop (h+1)).map (λ k:Nat=>(k:Int))/\i<=N/\BI us N to h d F/\F[h]? =some x/\∀i',i'<i->(x:Int)∈us.getD i' []->0<=d.getD i' 0
theorem aiB{n N to h x:Nat}{a0:nP}{r1:List Int}(hg:Ve a0.uses N)(hr:r1.length=N)(hn:4000001<=n)(v:Int×Int×List Int×List Int)(hv:BS a0.uses N to h x v):
 (∃ v',fC n a0 r1 x v=some (.inl v')/\BS a0.uses N to h x v'/\N -v'.2.1.toNat<N -v.2.1.toNat)\/
 ∃q,fC n a0 r1 x v=some (.inr q)/\∃(o:Nat)(F:List Nat),q.1=(o:Int)/\o<=q.2.2.length/\q.2.2.drop o=(F.drop (h+1)).map (λ k:Nat=>(k:Int))/\BI a0.uses N to (h+1) q.2.1 F:=by
 obtain⟨v4,v5,d,v7⟩:=v;obtain⟨o,i,F,rfl,rfl,ho,hq,hi,hb,hx,hc⟩:=hv;have hx':x<N:=hb.rg x (bW hx);have A5:=hg.1;have hdl:=hb.dl;by_cases hlt:i<N
 ·left;have tD:i<a0.uses.length:=by omega
  have hl:=hg.2.2 a0.uses[i] (getElem_mem tD);have hcon:=IX (n:=n) (l:=a0.uses[i]) (a:=(x:Int)) (by omega) (by omega);have hud:a0.uses.getD i []=a0.uses[i]:=by simp[List.getD,tD]
  have hdi:d[i]'(by omega)=d.getD i 0:=by simp[List.getD,show i<d.length by omega]
  have A6:d[x]'(by omega)=d.getD x 0:=by simp[List.getD,show x<d.length by omega]
  simp only[fC,show decide ((i:Int)<((a0.uses.length:Int)))=true from by simp;omega,aj,bq tD,af,bF (show i<r1.length by omega),bF (show x<r1.length by omega),
   bJ (show i<d.length by omega),bJ (show x<d.length by omega),hcon,hdi,A6]
  have hFl:=hb.len;have hN:=hg.2.1;have hlen:v7.length -o=F.length -(h+1):=by have:=congrArg List.length hq;simpa using this
  have hmx:maxLen=9223372036854775807:=rfl;by_cases hA:d.getD i 0<0/\(x:Int)∈a0.uses[i]
  ·have h1:(a0.uses[i].any λy=>(x:Int)==y)=true:=any_eq_true.2 ⟨_,hA.2,by simp⟩;have hx0:0<=d.getD x 0:=(hb.mem x hx').2 (bW hx);have hxu:=hb.ub h x hx;have LI:h<F.length:=(bX.1 hx).1;have hap:bP (v7.drop o).length (v7.length -o) (sub [(i:Int)] 0 1).length 1 8=true:=(by simp[bP,sub];omega);have hw:i64.wrap (d.getD x 0+1)=d.getD x 0+1:=cK (by omega) (by omega);refine⟨(((0:Nat):Int),((i+1:Nat):Int),d.set i (d.getD x 0+1),v7.drop o++[(i:Int)]),?_,?_,by show N -((i+1:Nat):Int).toNat<N -(i:Int).toNat;omega⟩
   ·simp only[hA.1,decide_true,aj,af,h1,Int.toNat_natCast,nt,hap,eX,hw,aV i];simp[bj,sub]
   ·refine⟨0,i+1,F++[i],rfl,rfl,Nat.zero_le _,?_,by omega,hb.push hlt hA.1 hx (by rw[hud];exact hA.2),by rw[List.getElem?_append_left LI];exact hx,?_⟩
    ·rw[List.drop_zero,hq,List.drop_append_of_le_length (by omega)];simp
    ·intro i' hi' hm;have hpush:=hb.push hlt hA.1 hx (by rw[hud];exact hA.2);by_cases e:i'=i
     ·subst e;exact(hpush.mem i' hlt).2 (by simp)
     ·have:=hc i' (by omega) hm;exact(hpush.mem i' (by omega)).2 (List.mem_append_left _ ((hb.mem i' (by omega)).1 this))
  ·have hB:(bif decide (d.getD i 0<0)then some (a0.uses[i].any λy=>(x:Int)==y)else some false)=some false:=by
    by_cases h2:d.getD i 0<0
    ·simp only[h2,decide_true,aj,ay];cases hc:(a0.uses[i].any λy=>(x:Int)==y)with
     |false=>rfl
     |true=>
      obtain⟨y,hy,e⟩:=any_eq_true.1 hc;obtain rfl:(x:Int)=y:=(by simpa using e);exact absurd ⟨h2,hy⟩ hA
    ·simp only[h2,decide_false,ak]
   refine⟨((o:Int),((i+1:Nat):Int),d,v7),?_,?_,by show N -((i+1:Nat):Int).toNat<N -(i:Int).toNat;omega⟩
   ·rw[hB];simp only[af,ak,Int.toNat_natCast,Mv (show o+(v7.length -o)=v7.length by omega),aj,aV i]
   ·refine⟨o,i+1,F,rfl,rfl,ho,hq,by omega,hb,hx,λi' hi' hm=>?_⟩;by_cases e:i'=i
    ·subst e;rw[hud]at hm;exact Int.not_lt.1 λh2=>hA ⟨h2,hm⟩
    ·exact hc i' (by omega) hm
 ·right;have RM:i=N:=by omega
  have LI:h<F.length:=(bX.1 hx).1;refine⟨((o:Int),d,v7),?_,o,F,rfl,ho,hq,?_⟩
  ·simp only[fC,show decide ((i:Int)<((a0.uses.length:Int)))=false from by simp;omega,ak,Int.toNat_natCast,Mv (show o+(v7.length -o)=v7.length by omega),aj]
  ·refine⟨hb.dl,hb.nd,hb.rg,hb.mem,hb.ub,hb.pre,hb.hd,LI,λp y hp hy j hj hm=>?_⟩;by_cases e:p=h
   ·subst e;rw[hx]at hy;cases hy;exact hc j (by omega) hm
   ·exact hb.cl p y (by omega) hy j hj hm
def BO(us:List (List Int))(N to h:Nat):(Int×List Int×List Int)->Prop
 |(v1,d,v3)=>∃(o:Nat)(F:List Nat),v1=(o:Int)/\o<=v3.length/\v3.drop o=(F.drop h).map (λ k:Nat=>(k:Int))/\BI us N to h d F
theorem aiC{n N to h:Nat}{a0:nP}{r1:List Int}(hg:Ve a0.uses N)(hr:r1.length=N)(hn:4000001<=n)(v:Int×List Int×List Int)(hv:BO a0.uses N to h v):
 (∃ v',dN n a0 r1 v=some (.inl v')/\BO a0.uses N to (h+1) v')\/∃d,dN n a0 r1 v=some (.inr d)/\∃F,BI a0.uses N to F.length d F:=by
 obtain⟨v1,d,v3⟩:=v;obtain⟨o,F,rfl,ho,hq,hb⟩:=hv;have hlen:v3.length -o=F.length -h:=by have:=congrArg List.length hq;simpa using this
 by_cases hlt:h<F.length
 ·left;obtain⟨x,hx⟩:∃x,F[h]? =some x:=⟨_,cZ hlt⟩;have hox:v3[o]? =some (x:Int):=by
   have:=congrArg (λ l=>l[0]?) hq;simpa[hx]using this
  have hdr:v3.drop (o+1)=(F.drop (h+1)).map (λ k:Nat=>(k:Int)):=by
   have:=congrArg (λ l=>l.drop 1) hq;simpa using this
  obtain⟨q,hq1,o2,F2,hq2,hq3,hq4,RE⟩:=W8 (BS a0.uses N to h x) (λ q:Int×List Int×List Int=>∃(o:Nat)(F:List Nat),q.1=(o:Int)/\o<=q.2.2.length/\q.2.2.drop o=(F.drop (h+1)).map (λ k:Nat=>(k:Int))/\BI a0.uses N to (h+1) q.2.1 F)
   (λ v=>N -v.2.1.toNat) (aiB (r1:=r1) hg hr hn) n (((o+1:Nat):Int),0,d,v3) ⟨o+1,0,F,rfl,rfl,by omega,hdr,Nat.zero_le _,hb,hx,λi' hi'=>absurd hi' (Nat.not_lt_zero _)⟩ (by have:=hg.2.1;simp;omega)
  obtain⟨w1,w2,w3⟩:=q;simp only at hq2 hq3 hq4 RE;subst hq2;refine⟨((o2:Int),w2,w3),?_,o2,F2,rfl,hq3,hq4,RE⟩;have hat:bz v3 ((o:Int)+0)=some (x:Int):=by rw[Int.add_zero,Pr];exact hox
  simp only[dN,Int.toNat_natCast,show decide (((v3.length -o:Nat):Int)>0)=true from by simp;omega,aj,show cH 0 (v3.length -o)=true from by simp[cH];omega,hat,af,
   qw (show (0:Int)<=1 by omega) (show (1:Int)<=((v3.length -o:Nat):Int)by omega) (Int.le_refl _),Mv (show o+1+(v3.length -o -1)=v3.length by omega),hq1,Mv (show o2+(w3.length -o2)=w3.length by omega)]
 ·right;have hhF:h=F.length:=by have:=hb.hh;omega
  refine⟨d,?_,F,hhF ▸ hb⟩;simp only[dN,Int.toNat_natCast,show decide (((v3.length -o:Nat):Int)>0)=false from by simp;omega,ak]
theorem dZ{V O:Type}{step:V->Option (V⊕O)}(Inv:Nat->V->Prop)(Post:O->Prop)(K:Nat)(hK:∀k v,Inv k v->k<=K)
 (h:∀k v,Inv k v->(∃ v',step v=some (.inl v')/\Inv (k+1) v')\/∃o,step v=some (.inr o)/\Post o):∀(n k:Nat)(v:V),Inv k v->K<n+k->∃o,iter step n v=some o/\Post o
 | 0,k,v,hi,hn=>absurd (hK k v hi) (by omega)
 |n+1,k,v,hi,hn=>by
  rcases h k v hi with ⟨v',h1,h2⟩ |⟨o,h1,h2⟩
  ·rw[lT h1];exact dZ Inv Post K hK h n (k+1) v' h2 (by omega)
  ·exact⟨o,iE h1,h2⟩
theorem Yn{n N to:Nat}{a0:nP}(hg:Ve a0.uses N)(hd:a0.defs.length=N)(hn:4000002<=n)(ht:to<N):∃d F,jl n a0 to=some d/\BI a0.uses N to F.length d F:=by
 have hN:=hg.2.1;have hr:pF (sub ([(-1)]:List Int) 0 1) (N:Int)=some (List.replicate N (-1)):=by
  show(ck (decide (0<=(N:Int))&&decide ((N:Int)<=1000000000000)) (some (List.replicate (N:Int).toNat (-1))))=_;rw[show decide (0<=(N:Int))=true by simp,show decide ((N:Int)<=1000000000000)=true by simp;omega];rfl
 have hlr:(List.replicate N (-1:Int)).length=N:=List.length_replicate;have hb0:BI a0.uses N to 0 ((List.replicate N (-1:Int)).set to 0) [to]:=by
  have hto:((List.replicate N (-1:Int)).set to 0).getD to 0=0:=by simp[List.getD,ht]
  refine⟨by simp,by simp,λx hx=>by simp at hx;omega,λi hi=>?_,λj x hx=>?_,λj x hx hj=>?_,⟨rfl,hto⟩,by simp,λp y hp=>absurd hp (Nat.not_lt_zero _)⟩
  ·by_cases e:to=i
   ·subst e;rw[hto];simp
   ·simp only[List.getD,List.getElem?_set_ne e];simp[hi,Ne.symm e]
  ·cases j with
   |zero=>simp at hx;subst hx;rw[hto];simp
   |succ j=>simp at hx
  ·cases j with
   |zero=>omega
   |succ j=>simp at hx
 obtain⟨d,h1,F,h2⟩:=dZ (step:=dN n a0 (List.replicate N (-1))) (λ h v=>BO a0.uses N to h v) (λ d=>∃F,BI a0.uses N to F.length d F) N (λ h v ⟨_,_,_,_,_,hb⟩=>Nat.le_trans hb.hh hb.len) (λ h v hv=>aiC (n:=n) (r1:=List.replicate N (-1)) hg hlr (by omega) v hv) n 0
  (((0:Nat):Int),(List.replicate N (-1:Int)).set to 0,[(to:Int)]) ⟨0,[to],rfl,Nat.zero_le _,rfl,hb0⟩ (by omega)
 refine⟨d,F,?_,h2⟩;have hdl:d.length=N:=h2.dl;have h1':iter (dN n a0 (List.replicate N (-1))) n ((0:Int),(List.replicate N (-1:Int)).set to 0,[(to:Int)])=some d:=h1;simp only[jl,hd,hr,af,hlr,bF ht,bJ (show to<(List.replicate N (-1:Int)).length by omega),aj,show(((0:Nat):Int)+(to:Int)).toNat=to by omega,h1,h1'];simp[bj,sub,hdl];exact take_of_length_le (Nat.le_of_eq hdl)
def Nr(d:List Int)(l:List Int)(w:Int):Prop:=
 (w= -1/\∀k∈l,d.getD k.toNat 0<0)\/(w∈l/\0<=d.getD w.toNat 0/\∀k∈l,0<=d.getD k.toNat 0->d.getD w.toNat 0<=d.getD k.toNat 0)
theorem Nr.snoc{d l:List Int}{w k:Int}(h:Nr d l w)(hk:0<=k)(hl:∀x∈l,0<=x):Nr d (l++[k]) (if 0<=d.getD k.toNat 0/\(w<0\/d.getD k.toNat 0<d.getD w.toNat 0)then k else w):=by
 split
 ·rename_i h1;refine .inr ⟨by simp,h1.1,λz hz h0=>?_⟩;rw[aY]at hz;rcases hz with hz |hz
  ·rcases h with ⟨rfl,h⟩ |⟨hw,hw0,h⟩
   ·have:=h z hz;omega
   ·have h2:=h z hz h0;have:=hl w hw;rcases h1.2 with h3 |h3<;>omega
  ·simp at hz;subst hz;exact Int.le_refl _
 ·rename_i h1;rcases h with ⟨rfl,h⟩ |⟨hw,hw0,h⟩
  ·refine .inl ⟨rfl,λz hz=>?_⟩;rw[aY]at hz;rcases hz with hz |hz
   ·exact h z hz
   ·simp at hz;subst hz;exact Int.not_le.1 λh2=>h1 ⟨h2,.inl (by omega)⟩
  ·refine .inr ⟨List.mem_append_left _ hw,hw0,λz hz h0=>?_⟩;rw[aY]at hz;rcases hz with hz |hz
   ·exact h z hz h0
   ·simp at hz;subst hz;exact Int.not_lt.1 λh2=>h1 ⟨h0,.inr h2⟩
theorem aiD{n N:Nat}{d l:List Int}(hd:d.length=N)(hl:l.length<=4000000)(hr:∀k∈l,0<=k/\k<(N:Int))(hn:4000001<=n):∃w,iter (gV d l) n ((-1:Int),(0:Int))=some w/\Nr d l w:=by
 refine dZ (λ i (v:Int×Int)=>i<=l.length/\v.2=(i:Int)/\Nr d (l.take i) v.1) (λ w=>Nr d l w) l.length (λ k v h=>h.1) ?_ n 0 _ ⟨Nat.zero_le _,rfl,.inl ⟨rfl,by simp⟩⟩ (by omega);rintro i ⟨v3,v4⟩ ⟨hi,rfl,hN⟩;by_cases hlt:i<l.length
 ·left;have hk:=hr l[i] (getElem_mem hlt);obtain⟨k,hk2⟩:=Int.eq_ofNat_of_zero_le hk.1;have hkN:k<d.length:=by omega
  have Do:d[k]=d.getD k 0:=by simp[List.getD,hkN]
  have htk:l.take (i+1)=l.take i++[l[i]]:=by rw[List.take_add_one,cZ hlt];rfl
  have hlk:∀x∈l.take i,0<=x:=λx hx=>(hr x (List.mem_of_mem_take hx)).1;have hsn:=hN.snoc hk.1 hlk;refine⟨(if 0<=d.getD (l[i]).toNat 0/\(v3<0\/d.getD (l[i]).toNat 0<d.getD v3.toNat 0)then l[i]else v3,((i+1:Nat):Int)),?_,hlt,rfl,by rw[htk];exact hsn⟩;simp only[gV,show decide ((i:Int)<(l.length:Int))=true from by simp;omega,aj,bq hlt,af,hk2,bF hkN,bJ hkN,Do,Int.toNat_natCast,aV i];by_cases h0:0<=d.getD k 0
  ·by_cases h1:v3<0
   ·simp only[h0,h1,ge_iff_le,decide_true,aj,af,true_and,true_or,if_true]
   ·have hv:v3∈l.take i:=by
     rcases hN with ⟨rfl,_⟩ |⟨h,_⟩
     ·omega
     ·exact h
    have xa:=hr v3 (List.mem_of_mem_take hv);obtain⟨z,hz⟩:=Int.eq_ofNat_of_zero_le xa.1;subst hz;have A3:z<d.length:=(by omega);have hgz:d[z]=d.getD z 0:=(by simp[List.getD,A3]);simp only[h0,ge_iff_le,decide_true,aj,h1,decide_false,ak,bF A3,bJ A3,af,hgz,Int.toNat_natCast,true_and,false_or];by_cases h2:d.getD k 0<d.getD z 0
    ·simp only[h2,decide_true,aj,if_true,af]
    ·simp only[h2,decide_false,ak,if_false,af]
  ·simp only[h0,ge_iff_le,decide_false,ak,af,false_and,if_false]
 ·right;refine⟨v3,?_,?_⟩
  ·simp only[gV,show decide ((i:Int)<(l.length:Int))=false from by simp;omega,ak]
  ·rw[take_of_length_le (by omega)]at hN;exact hN
theorem BI.step{us:List (List Int)}{N to h:Nat}{d:List Int}{F:List Nat}(b:BI us N to h d F){x:Nat}(hx:x<N)(hne:x≠to)(h0:0<=d.getD x 0):∃y:Nat,(y:Int)∈us.getD x []/\d.getD y 0=d.getD x 0 -1/\0<=d.getD y 0:=by
 obtain⟨j,hj,hjx⟩:=mem_iff_getElem.1 ((b.mem x hx).1 h0);have hj':F[j]? =some x:=by rw[cZ hj,hjx]
 have hj0:0<j:=by
  cases j with
  |zero=>rw[b.hd.1]at hj';cases hj';exact absurd rfl hne
  |succ j=>exact Nat.succ_pos _
 have⟨p,y,_,h2,h3,h4⟩:=b.pre j x hj' hj0;have Rd:=bW h2;exact⟨y,h3,h4,(b.mem y (b.rg y Rd)).2 Rd⟩
theorem afm{n N fr:Nat}{a1:List eH}{us:List (List Int)}(hg:Ve us N)(hd:a1.length=N)(hn:4000003<=n)(hf:fr<N):∃d F c,BI us N fr F.length d F/\jo n fr a1 us=some (a1,us,c)/\c.length<=N+1/\(c=[]->∀k∈us.getD fr [],d.getD k.toNat 0<0):=by
 obtain⟨d,F,hdi,hb⟩:=Yn (n:=n) (a0:=nP.mk a1 us) hg hd (by omega) hf;have hN:=hg.2.1;have A5:=hg.1;have hmx:maxLen=9223372036854775807:=rfl;have hloop:∃o,iter (j3 n fr a1 us d) n ((fr:Int),([]:List ByteArray))=some o/\∃c,o= .inr (a1,us,c)/\c.length<=N+1/\(c=[]->∀k∈us.getD fr [],d.getD k.toNat 0<0):=by
  refine dZ (λ k (v:Int×List ByteArray)=>∃at_:Nat,v.1=(at_:Int)/\at_<N/\v.2.length=k/\k<=N/\((k=0/\at_=fr)\/(0<k/\at_≠fr/\0<=d.getD at_ 0/\d.getD at_ 0+k<=N))) _ N (λ k v ⟨_,_,_,_,h,_⟩=>h) ?_ n 0 _ ⟨fr,rfl,hf,rfl,Nat.zero_le _,.inl ⟨rfl,rfl⟩⟩ (by omega);rintro k ⟨v1,v2⟩ ⟨x,rfl,hx,hv2,hkN,hst⟩;simp only at hv2;have hxa:x<a1.length:=by omega
  have hxu:x<us.length:=by omega
  have hl:=hg.2.2 us[x] (getElem_mem hxu);obtain⟨w,hw,hnr⟩:=aiD (n:=n) (d:=d) (l:=us[x]) hb.dl hl.1 hl.2 (by omega);have hgu:us.getD x []=us[x]:=by simp[List.getD,hxu]
  have hap:bP v2.length v2.length (sub [a1[x].name] 0 1).length 1 16=true:=by simp[bP,sub];omega
  simp only[j3,bq hxa,bq hxu,af,hap,aj,eX,hw];have hsl:(v2++sub [a1[x].name] 0 1).length=k+1:=by simp[sub,hv2]
  have hne:((v2++sub [a1[x].name] 0 1).length==0)=false:=by rw[hsl];simp
  rcases hnr with ⟨rfl,hno⟩ |⟨hwm,hw0,hmin⟩
  ·right;refine⟨.inr (a1,us,[]),by simp[bj],[],rfl,by simp,λ_=>?_⟩;rcases hst with ⟨_,rfl⟩ |⟨_,IP,hx0,_⟩
   ·rw[hgu];exact hno
   ·have⟨y,hy,_,hy0⟩:=hb.step hx IP hx0;have hy':(y:Int)∈us[x]:=(by rw[<- hgu];exact hy);have:=hno _ hy';simp only[Int.toNat_natCast]at this;omega
  ·have hwr:=hl.2 w hwm;obtain⟨z,rfl⟩:=Int.eq_ofNat_of_zero_le hwr.1;simp only[Int.toNat_natCast]at hw0 hmin;by_cases Q4:z=fr
   ·right;subst Q4;refine⟨.inr (a1,us,v2++sub [a1[x].name] 0 1),?_,_,rfl,by omega,λh=>by rw[h]at hsl;simp at hsl⟩;simp only[show decide ((z:Int)<0)=false from by simp,ak,beq_self_eq_true,aj,hne,Bool.not_false,Bool.true_and,aH,Option.map_some]
   ·left;have A3:z<N:=(by omega);have hb1:d.getD z 0+((k+1:Nat):Int)<=N:=by
     rcases hst with ⟨hk0,rfl⟩ |⟨_,IP,hx0,hle⟩
     ·have hzF:=(hb.mem z A3).1 hw0;obtain⟨j,hj,hjz⟩:=mem_iff_getElem.1 hzF;have h3:=hb.ub j z (by rw[cZ hj,hjz]);have:=hb.len;omega
     ·have⟨y,hy,hyd,hy0⟩:=hb.step hx IP hx0;have:=hmin y (by rw[<- hgu];exact hy) (by simpa using hy0);simp only[Int.toNat_natCast]at this;omega
    refine⟨((z:Int),v2++sub [a1[x].name] 0 1),?_,z,rfl,A3,hsl,by omega,.inr ⟨Nat.succ_pos _,Q4,hw0,hb1⟩⟩;simp only[show decide ((z:Int)<0)=false from by simp,ak,show((z:Int)==(fr:Int))=false from by simp;omega,aH,aj]
 obtain⟨o,h1,c,rfl,h2⟩:=hloop;refine⟨d,F,c,hb,?_,h2⟩;simp only[jo,hdi,af,h1];simp[bj]
theorem Yo(a b:ByteArray):∃r,mE a b=some r:=by
 simp only[mE,cmp_isNaN_string,af];cases (!a.toList==a.toList)<;>cases (!b.toList==b.toList)<;>cases Ri a b<;>cases (a.toList==b.toList)<;>exact⟨_,rfl⟩
theorem Yp{a b:List ByteArray}(ha:a.length<=5000000)(hn:5000001<=n):∃r,kQ n a b=some r:=by
 obtain⟨o,h,_⟩:=dZ (step:=kP a b) (λ i (v:Int)=>v=(i:Int)/\i<=a.length) (λ _=>True) a.length (λ k v h=>h.2) (by
  rintro i v ⟨rfl,hi⟩;by_cases hlt:i<a.length
  ·simp only[kP,show decide ((i:Int)<(a.length:Int))=true from by simp;omega,aj,bq hlt,af];by_cases hb:i<b.length
   ·have⟨r,hr⟩:=Yo a[i] b[i];simp only[show decide ((i:Int)>=(b.length:Int))=false from by simp;omega,ak,bq hb,af,hr];cases hr0:(r !=(0:Int))with
    |true=>exact .inr ⟨_,rfl,trivial⟩
    |false=>exact .inl ⟨_,rfl,by rw[bD (by omega)],by omega⟩
   ·simp only[show decide ((i:Int)>=(b.length:Int))=true from by simp;omega,aj];exact .inr ⟨_,rfl,trivial⟩
  ·simp only[kP,show decide ((i:Int)<(a.length:Int))=false from by simp;omega,ak];exact .inr ⟨_,rfl,trivial⟩) n 0 0 ⟨rfl,Nat.zero_le _⟩ (by omega)
 simp only[kQ,h];cases o with
 |inl u=>cases u;simp only[dQ];cases decide ((a.length:Int)<(b.length:Int))<;>exact⟨_,rfl⟩
 |inr r=>exact⟨r,by simp⟩
def rk(us:List (List Int))(N j:Nat):Prop:=∃d F,BI us N j F.length d F/\∀k∈us.getD j [],d.getD k.toNat 0<0
theorem aaw{n N:Nat}{a0:List eH}{us:List (List Int)}(hg:Ve us N)(hd:a0.length=N)(hn:5000003<=n):∃c,iB n a0 us=some (a0,us,c)/\(c=[]->∀j,j<N->rk us N j)/\c.length<=N+1:=by
 have hN:=hg.2.1
 obtain⟨o,h1,c,rfl,h2⟩:=dZ (step:=gG n a0) (λ i (v:Int×List eH×List (List Int)×List ByteArray)=>∃c,v=((i:Int),a0,us,c)/\i<=N/\c.length<=N+1/\(c=[]->∀j,j<i->rk us N j))
  (λ o=>∃c,o=(a0,us,c)/\(c=[]->∀j,j<N->rk us N j)/\c.length<=N+1) N (λ k v ⟨_,_,h,_⟩=>h) (by
  rintro i v ⟨c,rfl,hi,hcl,hc⟩;by_cases hlt:i<N
  ·left;obtain⟨d,F,c2,hb,hci,Lk,hc2⟩:=afm (n:=n) (a1:=a0) hg hd (by omega) hlt;simp only[gG,show decide ((i:Int)<(a0.length:Int))=true from by simp;omega,aj,hci,af,aV i,cB,aH];have hfin:∀c':List ByteArray,c'.length<=N+1->(c'=[]->c=[]/\c2=[])->∃c'',(((i+1:Nat):Int),a0,us,c')=(((i+1:Nat):Int),a0,us,c'')/\i+1<=N/\c''.length<=N+1/\(c''=[]->∀j,j<i+1->rk us N j):=λc' hl' he=>
    ⟨c',rfl,hlt,hl',λe j hj=>by
     have⟨e1,e2⟩:=he e;by_cases h:j=i
     ·subst h;exact⟨d,F,hb,hc2 e2⟩
     ·exact hc e1 j (by omega)⟩
   obtain⟨r,hr⟩:=Yp (n:=n) (a:=c2) (b:=c) (by omega) (by omega);cases h0:(c2.length==0)with
   |true=>
    have e2:c2=[]:=List.eq_nil_of_length_eq_zero (by simpa using h0);exact⟨_,by simp only[aj,af],hfin c hcl λe=>⟨e,e2⟩⟩
   |false=>
    have hne:c2≠[]:=λe=>(by rw[e]at h0;simp at h0);simp only[ak,af];have key:∃b,(bif c.length==0 then some true else bif decide ((c2.length:Int)<(c.length:Int))then some true else bif(c2.length:Int)==(c.length:Int)then(kQ n c2 c).bind λr2=>some (decide (r2<0))else some false)=some b/\(c.length=0->b=true):=by
     cases h3:(c.length==0)with
     |true=>exact⟨true,rfl,λ_=>rfl⟩
     |false=>
      have hcn:c.length≠0:=(by simpa using h3);simp only[ak,hr,af];cases decide ((c2.length:Int)<(c.length:Int))<;>cases ((c2.length:Int)==(c.length:Int))<;>exact⟨_,rfl,λe=>absurd e hcn⟩
    obtain⟨b,hb1,hb2⟩:=key;rw[hb1];cases b with
    |true=>exact⟨_,by simp only[aj,af],hfin c2 Lk λe=>absurd e hne⟩
    |false=>exact⟨_,by simp only[ak,af],hfin c hcl λe=>by rw[e]at hb2;exact absurd (hb2 rfl) (by simp)⟩
  ·right;refine⟨(a0,us,c),?_,c,rfl,λe j hj=>hc e j (by omega),hcl⟩;simp only[gG,show decide ((i:Int)<(a0.length:Int))=false from by simp;omega,ak,aH,aj]) n 0 ((0:Int),a0,us,[]) ⟨[],rfl,Nat.zero_le _,by simp,λ_ j hj=>absurd hj (Nat.not_lt_zero _)⟩ (by omega)
 exact⟨c,by simp[iB,h1,bj],h2⟩
theorem BI.back{us:List (List Int)}{N to:Nat}{d:List Int}{F:List Nat}(b:BI us N to F.length d F){i y:Nat}(hi:i<N)(hy:y<N)(h:(y:Int)∈us.getD i [])(h0:0<=d.getD y 0):0<=d.getD i 0:=by
 obtain⟨j,hj,hjy⟩:=mem_iff_getElem.1 ((b.mem y hy).1 h0);exact b.cl j y hj (by rw[cZ hj,hjy]) i hi h
theorem aiE{us:List (List Int)}{N:Nat}(hg:Ve us N)(hf:∀j,j<N->rk us N j)(done:Nat->Prop){i0:Nat}(h0:i0<N)(hd0:¬done i0):∃i,i<N/\¬done i/\∀k∈us.getD i [],done k.toNat:=by
 refine sw λhno=>?_;have hstep:∀i:{i:Nat // i<N/\¬done i},∃k:{k:Nat // k<N/\¬done k},(k.1:Int)∈us.getD i.1 []:=by
  rintro⟨i,hi,hnd⟩;refine sw λh=>hno ⟨i,hi,hnd,λk hk=>sw λhkd=>h ?_⟩;have hl:us.getD i []∈us:=by
   have:i<us.length:=(by rw[hg.1];exact hi);simp[List.getD,this]
  have hr:=(hg.2.2 _ hl).2 k hk;exact⟨⟨k.toNat,by omega,hkd⟩,by show(k.toNat:Int)∈_;rw[Int.toNat_of_nonneg hr.1];exact hk⟩
 obtain⟨f,hfs⟩:=Classical.axiomOfChoice hstep
 let g:Nat->{i:Nat // i<N/\¬done i}:=λj=>Nat.rec ⟨i0,h0,hd0⟩ (λ _ x=>f x) j
 have hgs:∀j,((g (j+1)).1:Int)∈us.getD (g j).1 []:=λj=>hfs (g j);have hnd:¬((List.range (N+1)).map λj=>(g j).1).Nodup:=λh=>by
  have:=Fq N _ h λy hy=>by
   obtain⟨j,_,rfl⟩:=mem_map.1 hy;exact(g j).2.1
  rw[length_map,List.length_range]at this;omega
 obtain⟨a,b,hab,he⟩:∃a b,a<b/\(g a).1=(g b).1:=by
  refine sw λh=>hnd ?_;rw[List.nodup_iff_pairwise_ne,List.pairwise_map];exact List.pairwise_lt_range.imp λ{x y} hxy e=>h ⟨x,y,hxy,e⟩
 obtain⟨d,F,hb,hneg⟩:=hf _ (g a).2.1;have hall:∀c,a<b -c->c<b -a->0<=d.getD (g (b -c)).1 0:=by
  intro c
  induction c with
  |zero=>intro _ _;rw[Nat.sub_zero,<- he,hb.hd.2];exact Int.le_refl _
  |succ c ih=>
   intro h1 h2;have:=ih (by omega) (by omega);have e:b -c=b -(c+1)+1:=(by omega);rw[e]at this;exact hb.back (g (b -(c+1))).2.1 (g (b -(c+1)+1)).2.1 (hgs (b -(c+1))) this
 have h1:=hall (b -a -1) (by omega) (by omega);have e:b -(b -a -1)=a+1:=by omega
 rw[e]at h1;have h2:=hneg _ (hgs a);simp only[Int.toNat_natCast]at h2;omega
theorem aax{n N:Nat}{l:List Int}{done:List Bool}(hd:done.length=N)(hl:l.length<=4000000)(hr:∀k∈l,0<=k/\k<(N:Int))(hn:4000001<=n):
 ∃r,gL n l done=some (r,done)/\(r=false↔∀k∈l,done.getD k.toNat false=true):=by
 obtain⟨o,h1,h2⟩:=dZ (step:=jm l) (λ i (v:Int×List Bool)=>v=((i:Int),done)/\i<=l.length/\∀k∈l.take i,done.getD k.toNat false=true)
  (λ o=>(o= .inl done/\∀k∈l,done.getD k.toNat false=true)\/∃i:Nat,o= .inr ((i:Int),done)/\∃k∈l,done.getD k.toNat false=false) l.length (λ k v h=>h.2.1) (by
  rintro i v ⟨rfl,hi,hall⟩;by_cases hlt:i<l.length
  ·have hk:=hr l[i] (getElem_mem hlt);obtain⟨k,hk2⟩:=Int.eq_ofNat_of_zero_le hk.1;have hkN:k<done.length:=(by omega);have Do:done[k]=done.getD k false:=(by simp[List.getD,hkN]);have htk:l.take (i+1)=l.take i++[l[i]]:=(by rw[List.take_add_one,cZ hlt];rfl);simp only[jm,show decide ((i:Int)<(l.length:Int))=true from by simp;omega,aj,bq hlt,af,aH,hk2,lg,bF hkN,bJ hkN,Do];cases hdk:done.getD k false with
   |true=>
    refine .inl ⟨_,by simp only[Bool.not_true,ak];rfl,by rw[bD (by omega)],hlt,λz hz=>?_⟩;rw[htk,aY]at hz;rcases hz with hz |hz
    ·exact hall z hz
    ·simp only[aT]at hz;rw[hz,hk2];simpa using hdk
   |false=>exact .inr ⟨_,by simp only[Bool.not_false,aj,Option.map_some],.inr ⟨i,rfl,l[i],getElem_mem hlt,by rw[hk2];simpa using hdk⟩⟩
  ·refine .inr ⟨.inl done,?_,.inl ⟨rfl,by rw[take_of_length_le (by omega)]at hall;exact hall⟩⟩;simp only[jm,show decide ((i:Int)<(l.length:Int))=false from by simp;omega,ak,aH,aj]) n 0 ((0:Int),done) ⟨rfl,Nat.zero_le _,by simp⟩ (by omega)
 rcases h2 with ⟨rfl,h2⟩ |⟨i,rfl,k,hk,hkd⟩
 ·exact⟨false,by simp[gL,lK,h1],λ_=>h2,λ_=>rfl⟩
 ·refine⟨true,by simp[gL,lK,h1],λh=>(by cases h),λh=>?_⟩;rw[h k hk]at hkd;cases hkd
def GM(us:List (List Int))(N:Nat)(done:List Bool)(i:Nat)(w:Int):Prop:=
 (w= -1/\∀j,j<i->¬(done.getD j false=false/\∀k∈us.getD j [],done.getD k.toNat false=true))\/∃j:Nat,w=(j:Int)/\j<i/\done.getD j false=false
theorem ahe{n N:Nat}{a0:nP}{done:List Bool}(hg:Ve a0.uses N)(hd:a0.defs.length=N)(hl:done.length=N)(hn:4000002<=n):∃w,iter (gZ n a0) n ((-1:Int),(0:Int),done)=some (w,done)/\GM a0.uses N done N w:=by
 have hN:=hg.2.1;have A5:=hg.1;obtain⟨o,h1,w,rfl,h2⟩:=dZ (step:=gZ n a0) (λ i (v:Int×Int×List Bool)=>∃w,v=(w,(i:Int),done)/\i<=N/\GM a0.uses N done i w) (λ o=>∃w,o=(w,done)/\GM a0.uses N done N w) N (λ k v ⟨_,_,h,_⟩=>h) (by
  rintro i v ⟨w,rfl,hi,hw⟩;by_cases hlt:i<N
  ·left;have hiu:i<a0.uses.length:=(by omega);have hid:i<a0.defs.length:=(by omega);have hib:i<done.length:=(by omega);have hl2:=hg.2.2 a0.uses[i] (getElem_mem hiu);obtain⟨r,hr1,hr2⟩:=aax (n:=n) hl hl2.1 hl2.2 (by omega);have hgi:a0.uses.getD i []=a0.uses[i]:=(by simp[List.getD,hiu]);have hdi:done[i]=done.getD i false:=(by simp[List.getD,hib]);simp only[gZ,show decide ((i:Int)<(a0.uses.length:Int))=true from by simp;omega,aj,bq hiu,af,aH,hr1,bF hib,bJ hib,hdi,aV i];have keep:(done.getD i false=true\/r=true)->GM a0.uses N done (i+1) w:=by
    intro hno;rcases hw with ⟨rfl,hw⟩ |⟨j,rfl,hj,hw⟩
    ·refine .inl ⟨rfl,λj hj h=>?_⟩;by_cases e:j=i
     ·subst e;rw[hgi]at h;rcases hno with h3 |h3
      ·rw[h3]at h;exact absurd h.1 (by simp)
      ·have:=hr2.2 h.2;rw[h3]at this;cases this
     ·exact hw j (by omega) h
    ·exact .inr ⟨j,rfl,by omega,hw⟩
   cases hdn:done.getD i false with
   |true=>exact⟨_,by simp only[Bool.not_true,ak,af],w,rfl,hlt,keep (.inl hdn)⟩
   |false=>
    cases r with
    |true=>exact⟨_,by simp only[Bool.not_false,Bool.not_true,aj,ak,af],w,rfl,hlt,keep (.inr rfl)⟩
    |false=>
     have an:GM a0.uses N done (i+1) i:= .inr ⟨i,rfl,by omega,hdn⟩;rcases hw with ⟨rfl,hw⟩ |⟨j,rfl,hj,hw⟩
     ·exact⟨_,by simp only[Bool.not_false,aj,show decide ((-1:Int)<0)=true from rfl,af],_,rfl,hlt,an⟩
     ·have hjd:j<a0.defs.length:=(by omega);simp only[Bool.not_false,aj,show decide ((j:Int)<0)=false from by simp,ak,bq hid,bq hjd,af];cases Ri a0.defs[i].name a0.defs[j].name with
      |true=>exact⟨_,rfl,_,rfl,hlt,an⟩
      |false=>exact⟨_,rfl,_,rfl,hlt,.inr ⟨j,rfl,by omega,hw⟩⟩
  ·right;have RM:i=N:=(by omega);refine⟨(w,done),?_,w,rfl,RM ▸ hw⟩;simp only[gZ,show decide ((i:Int)<(a0.uses.length:Int))=false from by simp;omega,ak,aH,aj]) n 0 ((-1:Int),(0:Int),done) ⟨_,rfl,Nat.zero_le _,.inl ⟨rfl,λj hj=>absurd hj (Nat.not_lt_zero _)⟩⟩ (by omega)
 exact⟨w,h1,h2⟩
theorem ahf{n N:Nat}{a0:nP}(hg:Ve a0.uses N)(hd:a0.defs.length=N)(hf:∀j,j<N->rk a0.uses N j)(hn:4000002<=n):∃l,mF n a0=some l/\l.length=N/\∀k∈l,0<=k/\k<(N:Int):=by
 have hN:=hg.2.1;have hmx:maxLen=9223372036854775807:=rfl
 obtain⟨o,h1,h2⟩:=dZ (step:=jW n a0) (λ c (v:Int×List Int×List Bool)=>∃ab done,v=((c:Int),ab,done)/\c<=N/\ab.length=c/\(∀ k∈ab,0<=k/\k<(N:Int))/\done.length=N/\done.count false=N -c)
  (λ o=>o.length=N/\∀k∈o,0<=k/\k<(N:Int)) N (λ k v ⟨_,_,_,h,_⟩=>h) (by
  rintro c v ⟨ab,done,rfl,hc,hol,hor,hdl,hcf⟩;by_cases hlt:c<N
  ·left;have⟨w,hw1,hw2⟩:=ahe (n:=n) hg hd hdl hn;have hopen:∃i0,i0<N/\done.getD i0 false=false:=by
    have hm:false∈done:=List.count_pos_iff.1 (by omega);obtain⟨i0,h0,e⟩:=mem_iff_getElem.1 hm;exact⟨i0,by omega,by simp[List.getD,h0,e]⟩
   obtain⟨i0,h0,h0d⟩:=hopen;obtain⟨i,hi,hid,hia⟩:=aiE hg hf (λ j=>done.getD j false=true) h0 (by rw[h0d];simp);rcases hw2 with ⟨rfl,hw2⟩ |⟨j,rfl,hj,hjd⟩
   ·exact absurd ⟨Bool.eq_false_iff.2 hid,hia⟩ (hw2 i hi)
   ·have hjl:j<done.length:=(by omega);have hap:bP ab.length ab.length (sub [(j:Int)] 0 1).length 1 8=true:=(by simp[bP,sub];omega);have hset:(done.set j true).length=done.length:=(by simp);refine⟨(((c+1:Nat):Int),ab++[(j:Int)],done.set j true),?_,_,_,rfl,hlt,by simp[hol],?_,by simp[hdl],?_⟩
    ·simp only[jW,show decide ((c:Int)<(a0.defs.length:Int))=true from by simp;omega,aj,aH,hw1,af,bF hjl,bJ hjl,hap,eX,aV c,show(((0:Nat):Int)+(j:Int)).toNat=j by omega,Mv hset.symm];simp[sub]
    ·intro k hk;rw[aY]at hk;rcases hk with hk |hk
     ·exact hor k hk
     ·simp at hk;subst hk;omega
    ·have hjf:done[j]=false:=(by simpa[List.getD,hjl]using hjd);rw[List.count_set hjl,hcf,hjf];simp;omega
  ·right;have:c=N:=(by omega);refine⟨ab,?_,by omega,hor⟩;simp only[jW,show decide ((c:Int)<(a0.defs.length:Int))=false from by simp;omega,ak,aH,aj]) n 0 ((0:Int),[],List.replicate N false) ⟨[],_,rfl,Nat.zero_le _,rfl,by simp,by simp,by simp⟩ (by omega)
 refine⟨o,?_,h2⟩;have hmk:xG (N:Int) 1=true:=by simp[xG];omega
 simp only[mF,hd,Int.le_refl,decide_true,Bool.true_and,show decide ((0:Int)<=(N:Int))=true from by simp,hmk,aj,Int.toNat_natCast,h1,af,cB,aH];simp[bj]
def nf(ab:List aL)(s:aL):List aL:=
 match ab.getLast? with
 |some q=>bif decide (s.from_<=q.to)then ab.dropLast++[⟨q.from_,max q.to s.to⟩]else ab++[s]
 |none=>[s]
theorem SS(ab:List aL)(s:aL):(nf ab s).length<=ab.length+1:=by
 unfold nf;cases ab.getLast? with
 |none=>simp
 |some q=>simp only;cases decide (s.from_<=q.to)<;>simp<;>omega
theorem acS(o:List aL)(q s:aL):nf (o++[q]) s=bif decide (s.from_<=q.to)then o++[⟨q.from_,max q.to s.to⟩]else o++[q]++[s]:=by simp[nf]
abbrev AH(s:aL):Prop:=s.from_<s.to
def gp(l:List aL)(y:Int):Bool:=l.any λs=>decide (s.from_<=y)&&decide (y<s.to)
def Can(l:List aL):Prop:=l.Pairwise (λ a b=>a.to<b.from_)/\∀s∈l,AH s
theorem KC(l:List aL)(y:Int):gp l y=true↔∃s∈l,s.from_<=y/\y<s.to:=by simp[gp]
theorem Cx(l m:List aL)(y:Int):gp (l++m) y=(gp l y || gp m y):=by simp[gp]
theorem GA(y:Int):gp [] y=false:=rfl
theorem mW(s:aL)(l:List aL)(y:Int):gp (s::l) y=((decide (s.from_<=y)&&decide (y<s.to)) || gp l y):=by simp[gp]
theorem aay{l m:List aL}(h:l.Perm m)(y:Int):gp l y=gp m y:=by
 rw[kC,KC,KC];exact⟨λ ⟨s,hs,h1⟩=>⟨s,h.mem_iff.1 hs,h1⟩,λ⟨s,hs,h1⟩=>⟨s,h.mem_iff.2 hs,h1⟩⟩
theorem W7:Can []:=⟨List.Pairwise.nil,by simp⟩
theorem ahg{ab:List aL}{s:aL}(hc:Can ab)(hs:AH s)(hb:∀o∈ab,o.from_<=s.from_):
 Can (nf ab s)/\(∀ o∈nf ab s,o.from_<=s.from_)/\∀y,gp (nf ab s) y=(gp ab y || gp [s] y):=by
 rcases List.eq_nil_or_concat ab with rfl |⟨o,q,rfl⟩
 ·refine⟨⟨by simp[nf],by simp[nf];exact hs⟩,by simp[nf],λy=>by simp[nf,gp]⟩
 ·rw[List.concat_eq_append]at*;obtain⟨h1,h2⟩:=hc;rw[pairwise_append]at h1;obtain⟨p1,_,p3⟩:=h1;have hq:AH q:=h2 q (by simp);have hqs:q.from_<=s.from_:=hb q (by simp);rw[acS];by_cases hj:s.from_<=q.to
  ·simp only[hj,decide_true,aj];refine⟨⟨?_,?_⟩,?_,?_⟩
   ·rw[pairwise_append];refine⟨p1,by simp,λa ha b hb'=>?_⟩;rw[aT]at hb';subst hb';exact p3 a ha q (by simp)
   ·intro a ha;rcases aY.1 ha with ha |ha
    ·exact h2 a (by simp[ha])
    ·rw[aT]at ha;subst ha;show q.from_<max q.to s.to;have:q.from_<q.to:=hq;omega
   ·intro a ha;rcases aY.1 ha with ha |ha
    ·exact hb a (by simp[ha])
    ·rw[aT]at ha;subst ha;exact hqs
   ·intro y;rw[Cx,Cx,Bool.or_assoc];congr 1;simp only[mW,GA,Bool.or_false];rw[kC];simp only[aJ,Bool.or_eq_true,aR];have:q.from_<q.to:=hq;have:s.from_<s.to:=hs;omega
  ·simp only[hj,decide_false,ak];refine⟨⟨?_,?_⟩,?_,?_⟩
   ·rw[pairwise_append];refine⟨?_,by simp,λa ha b hb'=>?_⟩
    ·rw[pairwise_append];exact⟨p1,by simp,p3⟩
    ·rw[aT]at hb';subst hb';rcases aY.1 ha with ha |ha
     ·have:=p3 a ha q (by simp);have:q.from_<q.to:=hq;omega
     ·rw[aT]at ha;subst ha;omega
   ·intro a ha;rcases aY.1 ha with ha |ha
    ·exact h2 a ha
    ·rw[aT]at ha;subst ha;exact hs
   ·intro a ha;rcases aY.1 ha with ha |ha
    ·exact hb a ha
    ·rw[aT]at ha;subst ha;exact Int.le_refl _
   ·intro y;rw[Cx]
theorem MN:∀(l ab:List aL),Can ab->(∀ s∈l,AH s)->l.Pairwise (λ x y=>x.from_<=y.from_)->(∀ o∈ab,∀s∈l,o.from_<=s.from_)->Can (l.foldl nf ab)/\∀y,gp (l.foldl nf ab) y=(gp ab y || gp l y)
 |[],ab,hc,_,_,_=>⟨hc,λy=>by simp[GA]⟩
 |s::l,ab,hc,hv,hp,hb=>by
  rw[pairwise_cons]at hp;obtain⟨m1,m2,m3⟩:=ahg hc (hv s (by simp)) (λ o ho=>hb o ho s (by simp));obtain⟨f1,f2⟩:=MN l (nf ab s) m1 (λ t ht=>hv t (by simp[ht])) hp.2 (λ o ho t ht=>Int.le_trans (m2 o ho) (hp.1 t ht));refine⟨f1,λy=>?_⟩;rw[foldl_cons,f2,m3,Bool.or_assoc,<- Cx];rfl
theorem aaz{a:aL}{l:List aL}(h:Can (a::l)):Can l:=⟨(pairwise_cons.1 h.1).2,λs hs=>h.2 s (by simp[hs])⟩
theorem GD{a:aL}{l:List aL}(h:Can (a::l)){y:Int}(hy:gp l y=true):a.to<y:=by
 obtain⟨s,hs,h1,_⟩:=(KC _ _).1 hy;have:=(pairwise_cons.1 h.1).1 s hs;omega
theorem WT{a:aL}{l:List aL}(h:Can (a::l)){y:Int}(hy:gp (a::l) y=true):a.from_<=y:=by
 rw[mW,Bool.or_eq_true]at hy;rcases hy with hy |hy
 ·simp only[aJ,aR]at hy;exact hy.1
 ·have:=GD h hy;have:a.from_<a.to:=h.2 a (by simp);omega
theorem SV:∀{l m:List aL},Can l->Can m->(∀ y,gp l y=gp m y)->l=m
 |[],[],_,_,_=>rfl
 |[],b::m,_,hm,h=>by
  have:=h b.from_;have hb:b.from_<b.to:=hm.2 b (by simp);rw[GA,mW]at this;simp[hb]at this
 |a::l,[],hl,_,h=>by
  have:=h a.from_;have ha:a.from_<a.to:=hl.2 a (by simp);rw[GA,mW]at this;simp[ha]at this
 |a::l,b::m,hl,hm,h=>by
  have ha:a.from_<a.to:=hl.2 a (by simp);have hb:b.from_<b.to:=hm.2 b (by simp);have ina:gp (a::l) a.from_=true:=by rw[mW];simp[ha]
  have ID:gp (b::m) b.from_=true:=by rw[mW];simp[hb]
  have e1:a.from_=b.from_:=by
   have h1:=WT hm (by rw[<- h];exact ina);have h2:=WT hl (by rw[h];exact ID);omega
  have nl:∀(c:aL)(k:List aL),Can (c::k)->gp (c::k) c.to=false:=by
   intro c k hk;cases hc:gp (c::k) c.to with
   |false=>rfl
   |true=>
    rw[mW,Bool.or_eq_true]at hc;rcases hc with hc |hc
    ·simp at hc
    ·have:=GD hk hc;omega
  have e2:a.to=b.to:=by
   rcases Int.lt_trichotomy a.to b.to with hlt |he |hlt
   ·have h1:=nl a l hl;rw[h,mW]at h1;simp only[Bool.or_eq_false_iff,Bool.and_eq_false_iff,dL]at h1;omega
   ·exact he
   ·have h1:=nl b m hm;rw[<- h,mW]at h1;simp only[Bool.or_eq_false_iff,Bool.and_eq_false_iff,dL]at h1;omega
  have e:a=b:=by cases a;cases b;simp only at e1 e2;rw[e1,e2]
  subst e;rw[SV (aaz hl) (aaz hm) λy=>?_];have hy:=h y;rw[mW,mW]at hy;cases h1:gp l y with
  |true=>
   have:=GD hl h1;have z:(decide (a.from_<=y)&&decide (y<a.to))=false:=(by rw[Bool.and_eq_false_iff,dL,dL];omega);rw[z,h1,Bool.false_or,Bool.false_or]at hy;rw[<- hy]
  |false=>
   cases h2:gp m y with
   |false=>rfl
   |true=>
    have:=GD hm h2;have z:(decide (a.from_<=y)&&decide (y<a.to))=false:=(by rw[Bool.and_eq_false_iff,dL,dL];omega);rw[z,h1,h2]at hy;simp at hy
def As(l:List aL):List aL:=(jM q6 l).foldl nf []
theorem UP{l:List aL}(h:l.Pairwise λx y=>q6 y x=false):l.Pairwise λx y=>x.from_<=y.from_:=
 h.imp λ{x y} hxy=>by simp only[q6,dL]at hxy;omega
theorem WU{l:List aL}(h:∀s∈l,AH s):Can (As l)/\∀y,gp (As l) y=gp l y:=by
 have hp:=Cb q6 l;obtain⟨h1,h2⟩:=MN (jM q6 l) [] W7 (λ s hs=>h s (hp.mem_iff.1 hs)) (UP (Wc KA l)) (by simp);exact⟨h1,λy=>by rw[As,h2,GA,Bool.false_or,aay hp]⟩
theorem afn{l:List aL}(h:∀s∈l,AH s):(qy q6 l).foldl nf []=As l:=by
 have hp:=Sr KA l;obtain⟨h1,h2⟩:=MN (qy q6 l) [] W7 (λ s hs=>h s (hp.mem_iff.1 hs)) (UP (Yc KA l)) (by simp);have⟨h3,h4⟩:=WU h;exact SV h1 h3 λy=>by rw[h2,GA,Bool.false_or,aay hp,h4]
theorem aaA(l:List aL):(As l).length<=l.length:=by
 have:∀(ys ab:List aL),(ys.foldl nf ab).length<=ab.length+ys.length:=by
  intro ys
  induction ys with
  |nil=>intro ab;simp
  |cons y ys ih=>
   intro ab;simp only[foldl_cons,bI];have:=ih (nf ab y);have:=SS ab y;omega
 have h:=this (jM q6 l) [];rw[dW]at h;simpa[As]using h
abbrev dC(r:ax):Bool:=decide (0<=r.x0)&&(decide (r.x0<r.x1)&&(decide (r.x1<=1048576)&&(decide (0<=r.y0)&&(decide (r.y0<r.y1)&&decide (r.y1<=1048576)))))
theorem Yq(a b:Bool):(bif a then some b else some false)=some (a&&b):=by cases a<;>rfl
theorem iV(r:ax):nE r=some (dC r):=by simp only[nE,Yq]
def iT(l:List ax)(x:Int):List aL:=(l.filter λr=>decide (r.x0<=x)&&decide (x<r.x1)).map λr=>⟨r.y0,r.y1⟩
def bV(l:List ax)(x:Int):List aL:=As (iT l x)
theorem Fs(l:List ax)(x:Int):(iT l x).length<=l.length:=by simp only[iT,length_map];exact length_filter_le _ _
theorem wQ(l:List ax)(x:Int):(bV l x).length<=l.length:=
 Nat.le_trans (aaA _) (Fs l x)
theorem aki{r:ax}(h:dC r=true):r.x0<r.x1:=by simp only[dC,aJ,aR]at h;omega
theorem To{r:ax}(h:dC r=true):r.y0<r.y1:=by simp only[dC,aJ,aR]at h;omega
theorem SY{l:List ax}(h:∀r∈l,dC r=true)(x:Int):∀s∈iT l x,AH s:=by
 intro s hs;simp only[iT,mem_map,mem_filter]at hs;obtain⟨r,⟨hr,_⟩,rfl⟩:=hs;exact To (h r hr)
theorem MO{l:List ax}{x:Int}(hl:l.length<1099511627776){n:Nat}(hn:l.length<n):iter (qX l x) n ((0:Int),([]:List aL))=some (iT l x):=by
 have:=fE (l:=l) (step:=qX l x) (λ i (s:List aL)=>((i:Int),s)) (λ r s=>bif decide (r.x0<=x)&&decide (x<r.x1)then s++[⟨r.y0,r.y1⟩]else s) (λ s=>s) (λ i s=>s.length<=i)
  (λ i hi s hs=>?_) (λ s hs=>by simp[qX]) n hn [] (aB _)
 ·rw[show ((0:Nat):Int)=0 from rfl]at this;rw[this];congr 1;have gen:∀(ys:List ax)(s:List aL),ys.foldl (λ s r=>bif decide (r.x0<=x)&&decide (x<r.x1)then s++[⟨r.y0,r.y1⟩]else s) s=s++iT ys x:=by
   intro ys
   induction ys with
   |nil=>intro s;simp[iT]
   |cons y ys ih=>
    intro s;simp only[foldl_cons,ih];cases h:(decide (y.x0<=x)&&decide (x<y.x1))with
    |true=>simp[iT,h]
    |false=>simp[iT,h]
  simpa using gen l []
 ·have hi':decide ((i:Int)<(l.length:Int))=true:=by simpa using hi
  have ap:bP s.length s.length (sub ([(aL.mk l[i].y0 l[i].y1)]:List aL) 0 1).length 1 16=true:=dm (n:=1);simp only[qX,hi',aj,bq hi,af,Yq];cases h:(decide (l[i].x0<=x)&&decide (x<l[i].x1))with
  |true=>
   simp only[aj,ap,eX,aH,af];refine⟨?_,by simp;omega⟩;rw[bD (by omega)];rfl
  |false=>
   simp only[ak,aH,aj,af];exact⟨by rw[bD (by omega)],by omega⟩
theorem MP(w1 r2:List aL)(hw:w1.length=r2.length)(hl:r2.length<1099511627776)(hn:r2.length<n):iter (qY w1 r2) n ((0:Int),([]:List aL))=some (r2.foldl nf []):=by
 have:=fE (l:=r2) (step:=qY w1 r2) (λ i (s:List aL)=>((i:Int),s)) (λ r s=>nf s r) (λ s=>s) (λ i s=>s.length<=i)
  (λ i hi s hs=>?_) (λ s hs=>by simp[qY,hw]) n hn [] (aB _)
 ·rw[show ((0:Nat):Int)=0 from rfl]at this;exact this
 ·refine⟨?_,by have:=SS s r2[i];omega⟩;have hi':decide ((i:Int)<(w1.length:Int))=true:=by simp;omega
  have ib:cH (i:Int) w1.length=true:=bF (by omega);have ap:bP s.length s.length (sub ([r2[i]]:List aL) 0 1).length 1 16=true:=dm (n:=1);simp only[qY,hi',aj,ib,bJ hi,af];rcases List.eq_nil_or_concat s with rfl |⟨s0,q,C5⟩
  ·have d0:decide (((([]:List aL).length:Nat):Int)>0)=false:=(by simp);simp only[d0,ak,af,ap,aj,eX,aH];rw[bD (by omega)];rfl
  ·rw[List.concat_eq_append]at C5;subst C5;have d0:decide (((((s0++[q]).length:Nat):Int))>0)=true:=(by simp<;>omega);have wx:(s0++[q]).length=s0.length+1:=(by simp);have wp:i64.wrap ((((s0++[q]).length:Nat):Int) -1)=(s0.length:Int):=(by rw[lQ (by simp) (by omega),wx];rfl);have IF:cH (s0.length:Int) (s0++[q]).length=true:=bF (by omega);have g:bz (s0++[q]) (((0:Nat):Int)+(s0.length:Int))=some q:=(by rw[BV];simp);have z:(((0:Nat):Int)+(s0.length:Int)).toNat=s0.length:=(by simp);have st:(s0++[q]).set s0.length (aL.mk q.from_ (max q.to r2[i].to))=s0++[⟨q.from_,max q.to r2[i].to⟩]:=(by simp);have m:nf (s0++[q]) r2[i]=bif decide (r2[i].from_<=q.to)then s0++[⟨q.from_,max q.to r2[i].to⟩]else s0++[q]++[r2[i]]:=(by simp[nf]);simp only[d0,aj,wp,IF,g,af,m,z,st];cases decide (r2[i].from_<=q.to)with
   |true=>
    have e:bj (s0++[q]).length (s0++[(⟨q.from_,max q.to r2[i].to⟩:aL)]).length=true:=(by simp);simp only[aj,e,af,aH];rw[bD (by omega)]
   |false=>
    simp only[ak,ap,aj,eX,aH,af];rw[bD (by omega)];rfl
theorem Yr{l:List ax}{x:Int}(hv:∀r∈l,dC r=true)(hl:l.length<1099511627776)(hn:l.length<n):Gt n l x=some (bV l x):=by
 have h1:=Fs l x;have h2:(qy q6 (iT l x)).length=(iT l x).length:=BZ KA _;unfold Gt;simp only[length_nil,aH,aj,MO (x:=x) (l:=l) (by omega) (n:=n) (by omega),af];rw[GX (λ a b=>if a.from_<b.from_ then -1 else if b.from_<a.from_ then 1 else 0) (λ a b=>by show vz a b=_;unfold vz;rw[jT];rfl) (λ a b=>by
  by_cases h1:a.from_<b.from_
  ·simp[h1]
  ·by_cases h2:b.from_<a.from_<;>simp[h1,h2]) (by omega) (by omega)]
 simp only[af];rw[MP _ _ h2.symm (by omega) (by omega)];simp only[af,cB,aH,aj];rw[afn (SY hv x)];rfl
def fK(l:List ax):List Int:=AC (l.flatMap λr=>[r.x0,r.x1])
def iq{α:Type}(f:Int->Int->α):List Int->List α
 |a::b::l=>f a b::iq f (b::l)
 |_=>[]
def aZ(l:List ax):List bM:=iq (λ a b=>⟨a,b,bV l a⟩) (fK l)
theorem qj{α:Type}(f:Int->Int->α):∀(l:List Int),(iq f l).length=l.length -1/\∀i (h:i+1<l.length) (h':i<(iq f l).length),(iq f l)[i]=f l[i] l[i+1]
 |[]=>⟨rfl,λi h=>by simp at h⟩
 |[a]=>⟨rfl,λi h=>by simp at h⟩
 |a::b::l=>by
  have⟨h1,h2⟩:=qj f (b::l);refine⟨by simp only[iq,bI,h1];simp,λi h h'=>?_⟩;cases i with
  |zero=>rfl
  |succ i=>
   simp only[iq,List.getElem_cons_succ];exact h2 i (by simpa using h) _
theorem uH(l:List ax):(l.flatMap λr=>[r.x0,r.x1]).length=2*l.length:=by
 induction l with
 |nil=>rfl
 |cons x l ih=>simp only[List.flatMap_cons,dG,ih,bI,length_nil];omega
theorem qa(l:List Int):(fT l).length<=l.length:=by
 match l with
 |[]=>simp[fT]
 |[x]=>simp[fT]
 |x::y::l=>
  have:=qa (y::l);simp only[fT];cases x==y<;>simp at* <;>omega
theorem Im(l:List ax):(fK l).length<=2*l.length:=by
 have h:=qa (jM (λ a b=>decide (a<b)) (l.flatMap λr=>[r.x0,r.x1]));rw[dW,uH]at h;exact h
theorem MQ{l:List ax}(hl:l.length<10995116277)(hn:l.length<n):iter (qZ l) n ((0:Int),([]:List Int))=some (l.flatMap λr=>[r.x0,r.x1]):=by
 have:=fE (l:=l) (step:=qZ l) (λ i (s:List Int)=>((i:Int),s)) (λ r s=>s++[r.x0,r.x1]) (λ s=>s) (λ i s=>s.length<=2*i)
  (λ i hi s hs=>?_) (λ s hs=>by simp[qZ]) n hn [] (aB _)
 ·rw[show ((0:Nat):Int)=0 from rfl]at this;rw[this];have gen:∀(ys:List ax)(s:List Int),ys.foldl (λ s r=>s++[r.x0,r.x1]) s=s++ys.flatMap λr=>[r.x0,r.x1]:=by
   intro ys
   induction ys with
   |nil=>intro s;simp
   |cons y ys ih=>intro s;simp[ih]
  congr 1;simpa using gen l []
 ·have hi':decide ((i:Int)<(l.length:Int))=true:=by simpa using hi
  have ap:bP s.length s.length (sub ([l[i].x0,l[i].x1]:List Int) 0 2).length 2 8=true:=dm (n:=2);simp only[qZ,hi',aj,bF hi,bJ hi,af,ap,eX,aH];refine⟨?_,by simp;omega⟩;rw[bD (by omega)];rfl
theorem vL{ls:List (List ax)}(hv:∀r∈ls.flatten,dC r=true)(hl:ls.flatten.length<10995116277)(hls:ls.length<1099511627776)(hn:2*ls.flatten.length<n)(hn2:ls.length<n):ng n ls=some (aZ ls.flatten):=by
 unfold ng;rw[Kz (by omega) hls hn2];generalize ls.flatten=l at*;have he:=Im l;simp only[af,length_nil,aH,aj,MQ (l:=l) (n:=n) (by omega) (by omega)];rw[nU (by rw[uH];omega) (by rw[uH];omega)];simp only[af,dW,aH,aj];rw[rG (by rw[dW,uH];omega) (by rw[dW,uH];omega)];simp only[af];have hE:fT (jM mA (l.flatMap λr=>[r.x0,r.x1]))=fK l:=rfl;rw[hE];obtain⟨p1,p2⟩:=qj (λ a b=>(⟨a,b,bV l a⟩:bM)) (fK l);have key:iter (q8 n l ((),fK l)) n ((1:Int),([]:List bM))=some (aZ l):=by
  have:=lH (step:=q8 n l ((),fK l)) (λ i=>(((i+1:Nat):Int),(aZ l).take i)) (aZ l).length (aZ l) (λ i hi=>?_) ?_ n (by unfold aZ;omega)
  ·simpa using this
  ·have hi2:i+1<(fK l).length:=(by unfold aZ at hi;omega);have d:decide (((i+1:Nat):Int)<(((fK l).length:Nat):Int))=true:=(by simp;omega);have wp:i64.wrap (((i+1:Nat):Int) -1)=(i:Int):=(by rw[lQ (by omega) (by omega)];rfl);have ap:bP ((aZ l).take i).length ((aZ l).take i).length (sub ([(bM.mk ((fK l)[i]'(by omega)) (fK l)[i+1] (bV l ((fK l)[i]'(by omega))))]:List bM) 0 1).length 1 40=true:=by
    refine dm (n:=1) ?_ ?_
    ·rw[length_take];unfold aZ;omega
    ·rw[length_take];unfold aZ;simp only[maxLen];omega
   have tk:(aZ l).take (i+1)=(aZ l).take i++[⟨(fK l)[i]'(by omega),(fK l)[i+1],bV l ((fK l)[i]'(by omega))⟩]:=by
    rw[jD hi];congr 2;exact p2 i hi2 hi
   simp only[q8,d,aj,wp,bF (show i<(fK l).length by omega),bJ (show i<(fK l).length by omega),af,bF hi2,bJ hi2,cB,aH,Yr (l:=l) (n:=n) hv (by omega) (by omega),ap,eX];rw[bD (by omega),tk];rfl
  ·have d:decide ((((aZ l).length+1:Nat):Int)<(((fK l).length:Nat):Int))=false:=(by unfold aZ;simp;omega);simp only[q8,d,ak,List.take_length,aH,aj]
 rw[key];simp only[af,cB,aH,aj]
def zi(x0 x1:Int)(c:List aL):List ax:=c.map λq=>⟨x0,q.from_,x1,q.to⟩
def wc(x0 x1:Int)(c:List aL):List bM->List ax
 |[]=>zi x0 x1 c
 |s::l=>if s.column=c then wc x0 s.x1 c l else zi x0 x1 c++wc s.x0 s.x1 s.column l
def lu:List bM->List ax
 |[]=>[]
 |s::l=>wc s.x0 s.x1 s.column l
theorem WV(x0:Int)(c:List aL):∀(l:List bM)(x1:Int)(k:Nat)(hk:k<=l.length),(∀ j (hj:j<k),(l[j]'(by omega)).column=c)->(∀ h:k<l.length,l[k].column≠c)->
 wc x0 x1 c l=zi x0 (if h:0<k then(l[k -1]'(by omega)).x1 else x1) c++lu (l.drop k)
 |l,x1,0,_,_,h2=>by
  cases l with
  |nil=>simp[wc,lu]
  |cons s l=>
   have:=h2 (by simp);simp only[List.getElem_cons_zero]at this;simp[wc,lu,this]
 |[],x1,k+1,hk,_,_=>by simp at hk
 |s::l,x1,k+1,hk,h1,h2=>by
  have e0:=h1 0 (by omega);simp only[List.getElem_cons_zero]at e0;simp only[wc,e0,if_true];rw[WV x0 c l s.x1 k (by simpa using hk) (λ j hj=>by have:=h1 (j+1) (by omega);simpa using this) (λ h=>by have:=h2 (by simpa using h);simpa using this)];simp only[List.drop_succ_cons];congr 2;by_cases hk0:0<k
  ·simp only[hk0,dite_true,Nat.zero_lt_succ,Nat.add_sub_cancel];obtain⟨m,rfl⟩:∃m,k=m+1:=⟨k -1,by omega⟩;simp
  ·have:k=0:=(by omega);subst this;simp
theorem O1{l:List bM}{i k:Nat}(hi:i<l.length)(hk1:0<k)(hk:k<=l.length)(hl:l.length<10995116277)(x3:bM)(ab:List ax)(ho:ab.length<1099511627776)(hc:x3.column.length<1099511627776)(hn:x3.column.length<n):
 iter (uw l (i:Int) (k:Int) x3) n ((0:Int),ab)=some (ab++zi l[i].x0 (l[k -1]'(by omega)).x1 x3.column):=by
 have:=fE (l:=x3.column) (step:=uw l (i:Int) (k:Int) x3) (λ j (s:List ax)=>((j:Int),s)) (λ q s=>s++[⟨l[i].x0,q.from_,(l[k -1]'(by omega)).x1,q.to⟩]) (λ s=>s) (λ j s=>s.length<=ab.length+j)
  (λ j hj s hs=>?_) (λ s hs=>by simp[uw]) n hn ab (aB _)
 ·rw[show ((0:Nat):Int)=0 from rfl]at this;rw[this];have gen:∀(ys:List aL)(s:List ax),ys.foldl (λ s q=>s++[⟨l[i].x0,q.from_,(l[k -1]'(by omega)).x1,q.to⟩]) s=s++zi l[i].x0 (l[k -1]'(by omega)).x1 ys:=by
   intro ys
   induction ys with
   |nil=>intro s;simp[zi]
   |cons y ys ih=>intro s;simp only[foldl_cons,ih];simp[zi]
  rw[gen]
 ·have hj':decide ((j:Int)<(x3.column.length:Int))=true:=by simpa using hj
  have wp:i64.wrap ((k:Int) -1)=((k -1:Nat):Int):=lQ hk1 (by omega);have ap:bP s.length s.length (sub ([(ax.mk l[i].x0 (x3.column[j]).from_ (l[k -1]'(by omega)).x1 (x3.column[j]).to)]:List ax) 0 1).length 1 32=true:=dm (n:=1);simp only[uw,hj',aj,bq hj,bq hi,wp,bq (show k -1<l.length by omega),af,ap,eX,aH];refine⟨?_,by simp;omega⟩;rw[bD (by omega)];rfl
theorem Ov{l:List bM}{b:Nat}(hb:b<=100000)(hl:l.length<=100000)(hc:∀s∈l,s.column.length<=b)(hn:b<n)(hn2:l.length<n):Fe n l=some (lu l):=by
 unfold Fe;simp only[length_nil,aH,aj];have main:∀(m i:Nat)(ab:List ax)(k:Nat),i+m=l.length->m<k->ab.length<=i*b->iter (uy n l) k ((i:Int),ab)=some (ab++lu (l.drop i)):=by
  intro m
  induction m using Nat.strongRecOn with
  |ind m ih=>
   intro i ab k him hk ho;obtain⟨k,rfl⟩:∃j,k=j+1:=⟨k -1,by omega⟩;by_cases hm:m=0
   ·subst hm;have:i=l.length:=(by omega);subst this;refine iE ?_;simp[uy,lu]
   ·have hi:i<l.length:=(by omega);have di:decide ((i:Int)<(l.length:Int))=true:=(by simpa using hi);obtain⟨q,hq1,hq2,hq3,hq4⟩:∃q,i<q/\q<=l.length/\(∀ j,i<j->j<q->∀h:j<l.length,l[j].column=l[i].column)/\(∀ h:q<l.length,l[q].column≠l[i].column):=by
     rcases Ij (λ j=>if h:j<l.length then decide (l[j].column≠l[i].column)else false) (i+1) l.length with ⟨q,h1,h2,h3,h4⟩ |h
     ·simp only[h2,dite_true,aR]at h3;refine⟨q,by omega,by omega,λj hj1 hj2 hj=>?_,λ_=>h3⟩;have:=h4 j (by omega) hj2;simp only[hj,dite_true,dL,ne_eq,Decidable.not_not]at this;exact this
     ·refine⟨l.length,hi,aB _,λj hj1 hj2 hj=>?_,λh=>by omega⟩;have:=h j (by omega) hj;simp only[hj,dite_true,dL,ne_eq,Decidable.not_not]at this;exact this
    have cl:∀j (hj:j<l.length),l[j].column.length<=b:=λj hj=>hc _ (getElem_mem hj);have r2:iter (qD n l (i:Int)) n (i64.wrap ((i:Int)+1))=some (q:Int):=by
     rw[bD (by omega)];have:=lH (step:=qD n l (i:Int)) (λ j=>((i+1+j:Nat):Int)) (q -(i+1)) (q:Int) (λ j hj=>?_) ?_ n (by omega)
     ·simpa using this
     ·have hjl:i+1+j<l.length:=(by omega);have dj:decide (((i+1+j:Nat):Int)<(l.length:Int))=true:=(by simp;omega);have hcc:=cl (i+1+j) hjl;simp only[qD,dj,aj,bq hjl,bq hi,af];rw[AO (by omega) (by omega),hq3 (i+1+j) (by omega) (by omega) hjl];simp only[decide_true,af,aj];rw[bD (by omega)];rfl
     ·rw[show i+1+(q -(i+1))=q by omega];by_cases u9:q<l.length
      ·have dj:decide ((q:Int)<(l.length:Int))=true:=(by simpa using u9);have hcc:=cl q u9;simp only[qD,dj,aj,bq u9,bq hi,af];rw[AO (by omega) (by omega)];simp[hq4 u9]
      ·have dj:decide ((q:Int)<(l.length:Int))=false:=(by simp;omega);simp only[qD,dj,ak,af]
    have ob:i*b<=100000*100000:=Nat.mul_le_mul (by omega) hb;have hci:=cl i hi;have r3:=O1 (n:=n) hi (show 0<q by omega) hq2 (by omega) l[i] ab (by omega) (by omega) (by omega);have step:uy n l ((i:Int),ab)=some (.inl ((q:Int),ab++zi l[i].x0 (l[q -1]'(by omega)).x1 l[i].column)):=(by simp only[uy,di,aj,r2,bq hi,af,aH,r3]);rw[lT step,ih (l.length -q) (by omega) q _ k (by omega) (by omega) (by
     rw[dG,zi,length_map];have:(i+1)*b<=q*b:=Nat.mul_le_mul_right _ (by omega);rw[Nat.add_mul]at this;omega)]
    rw[aM];congr 2
    conv=>rhs;rw[List.drop_eq_getElem_cons hi]
    simp only[lu];rw[WV l[i].x0 l[i].column (l.drop (i+1)) l[i].x1 (q -(i+1)) (by rw[length_drop];omega) (λ j hj=>by
     rw[getElem_drop];exact hq3 _ (by omega) (by omega) (by omega)) (λ h=>by
     rw[length_drop]at h;rw[getElem_drop];have:=hq4 (by omega);have hqq:i+1+(q -(i+1))=q:=(by omega);simp only[hqq];exact this)]
    rw[List.drop_drop,show i+1+(q -(i+1))=q by omega];congr 2;by_cases h0:0<q -(i+1)
    ·simp only[h0,dite_true,getElem_drop];congr 2;omega
    ·simp only[h0,dite_false];have:q -1=i:=(by omega);congr 2
 have:=main l.length 0 [] n (by omega) (by omega) (by simp);simp only[Int.natCast_zero,bK,List.drop_zero]at this;rw[this];simp
def pj(l:List ax):List ax×Int:=
 if l.all dC then(if l.length>400 then([],6)else if (lu (aZ l)).length>200 then([],6)else(lu (aZ l),0))else([],1)
def cC(l:List ax):Bool:=decide ((pj l).2=0)&&decide ((pj l).1=l)
theorem aaC{l:List ax}{s:bM}(h:s∈aZ l):s.column.length<=l.length:=by
 obtain⟨i,hi,rfl⟩:=List.getElem_of_mem h;obtain⟨p1,p2⟩:=qj (λ a b=>(⟨a,b,bV l a⟩:bM)) (fK l);have:(aZ l)[i]=⟨(fK l)[i]'(by unfold aZ at hi;omega),(fK l)[i+1]'(by unfold aZ at hi;omega),bV l ((fK l)[i]'(by unfold aZ at hi;omega))⟩:=p2 i (by unfold aZ at hi;omega) hi;rw[this];exact wQ l _
theorem rH(l:List ax):(aZ l).length<=2*l.length:=by
 obtain⟨p1,_⟩:=qj (λ a b=>(⟨a,b,bV l a⟩:bM)) (fK l);have:=Im l;unfold aZ;omega
theorem ahi{l:List ax}(hl:l.length<1099511627776)(hl2:l.length<n)(hn:1000<=n):HC n l=some (pj l):=by
 unfold HC;have h1:=qx (l:=l) (step:=Kq l) (λ i=>(i:Int)) (λ r=>!dC r) () (λ _=>(([]:List ax),(1:Int))) (λ i hi=>?_) ?_ n (by omega)
 ·rw[show ((0:Nat):Int)=0 from rfl]at h1;rw[h1];have h2:=qR (λ r=>!dC r) l;cases hf:nD (λ r=>!dC r) l with
  |some i=>
   rw[hf]at h2;have:l.all dC=false:=by
    rw[<- Bool.not_eq_true,all_eq_true];intro hall;have h3:=h2.symm;simp only[Option.isSome_some,any_eq_true]at h3;obtain⟨x,hx,hx2⟩:=h3;rw[hall x hx]at hx2;cases hx2
   simp[pj,this]
  |none=>
   rw[hf]at h2;have:l.all dC=true:=by
    rw[all_eq_true];intro x hx;cases h:dC x with
    |true=>rfl
    |false=>
     have:l.any (λ r=>!dC r)=true:=any_eq_true.2 ⟨x,hx,by rw[h];rfl⟩;rw[this]at h2;cases h2
   have hv:∀r∈l,dC r=true:=all_eq_true.1 this;by_cases DO:l.length>400
   ·have d4:decide ((l.length:Int)>400)=true:=(by simp;omega);simp only[dQ,d4,aj,pj,this,if_true,bn DO]
   have d4:decide ((l.length:Int)>400)=false:=(by simp;omega);have ls:=rH l;simp only[dQ,d4,ak];have fl:[l].flatten=l:=(by simp);rw[show (sub ([l]:List (List ax)) 0 1)=[l]from rfl,vL (ls:=[l]) (by rw[fl];exact hv) (by rw[fl];omega) (by simp) (by rw[fl];omega) (by simp;omega),fl];simp only[length_singleton,aH,aj,af,cB];rw[Ov (b:=400) (by omega) (by omega) (λ s hs=>Nat.le_trans (aaC hs) (by omega)) (by omega) (by omega)];simp only[af,cB,aH,aj,wL,pj,this,if_true,bf DO];by_cases px:(lu (aZ l)).length>200
   ·have:decide (((lu (aZ l)).length:Int)>200)=true:=(by simp;omega);simp only[this,aj,af,px,if_true]
   ·have:decide (((lu (aZ l)).length:Int)>200)=false:=(by simp;omega);simp only[this,ak,af,px,if_false]
 ·have hi':decide ((i:Int)<(l.length:Int))=true:=by simpa using hi
  simp only[Kq,hi',aj,bq hi,af,iV];cases dC l[i]with
  |false=>rfl
  |true=>simp only[Bool.not_true,ak];rw[bD (by omega)]
 ·simp[Kq]
theorem kS{l:List ax}(hl:l.length<1099511627776)(hl2:l.length<n)(hn:1000<=n):mQ n l=some (cC l):=by
 unfold mQ cC;rw[ahi hl hl2 hn];simp only[af];by_cases h:(pj l).2=0
 ·have e:((pj l).2==0)=true:=by simp[h]
  have lo:(pj l).1.length<=200:=by
   unfold pj;split
   ·split
    ·simp
    ·split
     ·simp
     ·simp;omega
   ·simp
  by_cases hlen:(pj l).1.length<n
  ·simp only[e,aj,h,decide_true,Bool.true_and];rw[AL (by omega) hlen];rfl
  ·have:(pj l).1.length≠l.length:=(by omega);have hne:(pj l).1≠l:=λe=>this (by rw[e]);simp only[e,aj,h,decide_true,Bool.true_and];unfold ni;have hb:(((pj l).1.length:Int) !=(l.length:Int))=true:=(by simp;omega);rw[hb];simp[hne]
 ·have e:((pj l).2==0)=false:=by simp[h]
  simp[e,h]
theorem KD{α:Type}(c:Bool)(a b:α):(bif c then some a else some b)=some (bif c then a else b):=by cases c<;>rfl
theorem WW(i n:Nat):Int.tmod (i:Int) (n:Int)=((i%n:Nat):Int):=by rw[Int.tmod_eq_emod_of_nonneg (by omega)];omega
theorem dK{i n:Nat}(h:i<n):decide ((i:Int)<(n:Int))=true:=by simpa using h
theorem fe(n:Nat):decide ((n:Int)<(n:Int))=false:=by simp
theorem W6{k b:Nat}(h:k*b<=140737488355328)(h2:k<=maxLen):xG (k:Int) b=true:=by
 have e:((k:Int)).toNat=k:=by omega
 simp only[xG,aJ,aR,e];exact⟨⟨by omega,h⟩,h2⟩
def oE(p:List dn)(i:Nat):dn:=p.getD i ⟨0,0⟩
def iJ(p:List dn)(i:Nat):iY:=⟨(oE p i).x,(oE p i).y,(oE p ((i+1)%p.length)).x,(oE p ((i+1)%p.length)).y⟩
def fH(p:List dn):List iY:=(List.range p.length).map (iJ p)
theorem Qp{p:List dn}{i:Nat}(h:i<p.length):oE p i=p[i]:=by simp[oE,h]
theorem dO(p:List dn):(fH p).length=p.length:=by simp[fH]
theorem wR{p:List dn}{i:Nat}(h:i<(fH p).length):(fH p)[i]=iJ p i:=by simp[fH]
theorem ahj{α:Type}(A B:List α)(z x:α):(A++z::B).set A.length x=A++x::B:=by rw[List.set_append_right _ _ (aB _),Nat.sub_self];rfl
theorem yP{p:List dn}(hl:p.length<=100000)(hn:p.length<n):nS n p=some (fH p):=by
 unfold nS;have mk:xG (p.length:Int) 32=true:=W6 (by omega) (by show p.length<=2 ^ 63 -1;omega);have main:=lH (step:=nH p) (λ i=>((i:Int),(List.range i).map (iJ p)++List.replicate (p.length -i) (iY.mk 0 0 0 0))) p.length (fH p) (λ i hi=>?_) ?_ n hn
 ·have z:((p.length:Int)).toNat=p.length:=by omega
  simp only[List.range_zero,List.map_nil,bK,Nat.sub_zero]at main;have d1:decide ((p.length:Int)<=(p.length:Int))=true:=by simp
  have d2:decide ((0:Int)<=(p.length:Int))=true:=by simp
  rw[mk,d1,d2,z];simp only[Bool.and_self,aj];rw[show ((0:Nat):Int)=0 from rfl]at main;rw[main];simp only[af];have e:sub (fH p) 0 p.length=fH p:=by rw[<- dO p];exact cB _
  rw[e,dO];simp
 ·have nz:((p.length:Int) !=0)=true:=by simp;intro h;rw[h]at hi;simp at hi
  have md:(i+1)%p.length<p.length:=Nat.mod_lt _ (by omega);have w:i64.wrap ((i:Int)+1)=((i+1:Nat):Int):=bD (by omega);have z:((p.length:Int)).toNat=p.length:=by omega
  have rp:List.replicate (p.length -i) (iY.mk 0 0 0 0)=iY.mk 0 0 0 0::List.replicate (p.length -(i+1)) (iY.mk 0 0 0 0):=by rw[show p.length -i=(p.length -(i+1))+1 by omega,List.replicate_succ]
  have la:((List.range i).map (iJ p)).length=i:=by simp
  have g:bz ((List.range i).map (iJ p)++List.replicate (p.length -i) (iY.mk 0 0 0 0)) (((0:Nat):Int)+(i:Int))=some (iY.mk 0 0 0 0):=by rw[BV,nY (by omega),la,rp,Nat.sub_self];rfl
  have z2:(((0:Nat):Int)+(i:Int)).toNat=i:=by omega
  have st:((List.range i).map (iJ p)++List.replicate (p.length -i) (iY.mk 0 0 0 0)).set i (iJ p i)=(List.range (i+1)).map (iJ p)++List.replicate (p.length -(i+1)) (iY.mk 0 0 0 0):=by
   rw[rp];have:=ahj ((List.range i).map (iJ p)) (List.replicate (p.length -(i+1)) (iY.mk 0 0 0 0)) (iY.mk 0 0 0 0) (iJ p i);rw[la]at this;rw[this,List.range_succ,map_append,aM];rfl
  simp only[nH,dK hi,aj,bq hi,af,nz,w,WW,bq md,z,bF hi,g,z2];rw[<- Qp hi,<- Qp md];rw[show iY.mk (oE p i).x (oE p i).y (oE p ((i+1)%p.length)).x (oE p ((i+1)%p.length)).y=iJ p i from rfl,st]
 ·simp only[nH,fe,ak,Nat.sub_self,List.replicate_zero,append_nil];rfl
def Qq(a:dn):Bool:=decide (0<=a.x)&&(decide (a.x<=1048576)&&(decide (0<=a.y)&&decide (a.y<=1048576)))
def sY(s:iY):Bool:=s.kO==s.li
def Yt(s t:iY):Bool:=decide (max (min s.kO s.li) (min t.kO t.li)<=min (max s.kO s.li) (max t.kO t.li))&&decide (max (min s.oy s.sR) (min t.oy t.sR)<=min (max s.oy s.sR) (max t.oy t.sR))
def Qr(a b:dn):Bool:=decide (a.x<b.x) || (a.x==b.x&&decide (a.y<b.y))
theorem KE(a:dn):rf a=some (Qq a):=by simp only[rf,Yq,Qq]
theorem AP(s t:iY):kK s t=some (Yt s t):=by simp only[kK,Yq,Yt]
theorem lY(s:iY):fV s=some (sY s):=rfl
theorem S9(a b:Int)(hn:3<=n):qf n [a,b]=some (if a=0 then b else a):=by
 obtain⟨m,rfl⟩:∃m,n=m+3:=⟨n -3,by omega⟩;have w1:i64.wrap ((0:Int)+1)=1:=by decide
 have w2:i64.wrap ((1:Int)+1)=2:=by decide
 by_cases ha:a=0
 ·by_cases hb:b=0
  ·subst ha;subst hb;simp only[qf,Av,tC,w1,w2];rfl
  ·have hb':(b !=0)=true:=(by simpa using hb);subst ha;simp only[qf,Av,tC,w1];simp[bz,hb',dx]
 ·have ha':(a !=0)=true:=by simpa using ha
  simp only[qf,Av,tC];simp[bz,ha',dx,ha]
theorem IY(a b:dn)(hn:3<=n):∃r,pU n a b=some r/\decide (r>=0)=!Qr a b:=by
 unfold pU;rw[jT,jT];simp only[af];rw[show ∀u v:Int,sub [u,v] 0 2=[u,v]from λ_ _=>rfl,S9 _ _ hn];refine⟨_,rfl,?_⟩;unfold Qr;by_cases h1:a.x<b.x
 ·simp[h1]
 ·by_cases h2:b.x<a.x
  ·have h3:¬a.x=b.x:=(by omega);simp[h1,h2,h3]
  ·have h3:a.x=b.x:=(by omega);by_cases h4:a.y<b.y
   ·simp[h3,h4]
   ·by_cases h5:b.y<a.y<;>simp[h3,h4,h5]
def Fm(p:List dn)(i:Nat):Bool:=
 (!Qq (oE p i) || ((((iJ p i).kO==(iJ p i).li)==((iJ p i).oy==(iJ p i).sR)) || (sY (iJ p i)==sY (iJ p ((i+1)%p.length))))) || (decide (0<i)&&!Qr (oE p 0) (oE p i))
def O3(p:List dn)(i k:Nat):Bool:=decide (i+p.length -k>1)&&Yt (iJ p i) (iJ p k)
def MR(p:List dn):Bool:=
 decide (4<=p.length)&&(decide (p.length<=60)&&(!((List.range p.length).any (Fm p))&&(!((List.range p.length).any λi=>(List.range p.length).any λk=>decide (i+2<=k)&&O3 p i k)&&!sY (iJ p 0))))
def Pi(l:List ax)(x y:Int):Bool:=l.any λr=>(decide (r.x0<=x)&&decide (x<r.x1))&&(decide (r.y0<=y)&&decide (y<r.y1))
theorem aaD(l:List ax)(x y:Int):gp (iT l x) y=Pi l x y:=by
 induction l with
 |nil=>rfl
 |cons r l ih=>
  unfold iT Pi at*;rw[List.filter_cons,List.any_cons,<- ih];cases h:(decide (r.x0<=x)&&decide (x<r.x1))with
  |true=>simp only[if_true,aF,Bool.true_and];rw[mW]
  |false=>simp
theorem KF{l:List ax}(h:∀r∈l,dC r=true)(x:Int):Can (bV l x)/\∀y,gp (bV l x) y=Pi l x y:=by
 have⟨h1,h2⟩:=WU (SY h x);exact⟨h1,λy=>by rw[bV,h2,aaD]⟩
def Ta:List bM->Prop
 |[]=>True
 |[s]=>s.x0<s.x1
 |s::t::l=>s.x0<s.x1/\s.x1=t.x0/\Ta (t::l)
def Fu:List bM->Int->List aL
 |[],_=>[]
 |s::l,x=>bif decide (s.x0<=x)&&decide (x<s.x1)then s.column else Fu l x
theorem wS(s:bM)(l:List bM)(x:Int):Fu (s::l) x=bif decide (s.x0<=x)&&decide (x<s.x1)then s.column else Fu l x:=rfl
def Runs:List bM->Prop
 |[]=>True
 |[s]=>s.x0<s.x1/\s.column≠[]
 |s::t::l=>(s.x0<s.x1/\s.column≠[])/\s.x1<=t.x0/\(s.x1=t.x0->s.column≠t.column)/\Runs (t::l)
theorem aiF{s:bM}{l:List bM}{x:Int}(h1:s.x0<=x)(h2:x<s.x1):Fu (s::l) x=s.column:=by rw[wS,show(decide (s.x0<=x)&&decide (x<s.x1))=true by simp[h1,h2]];rfl
theorem oH{α:Type}(f:Int->Int->α)(a b:Int)(l:List Int):iq f (a::b::l)=f a b::iq f (b::l):=rfl
theorem KG(g:Int->List aL):∀(es:List Int),es.Pairwise (· < ·)->Ta (iq (λ a b=>(⟨a,b,g a⟩:bM)) es)
 |[],_=>trivial
 |[_],_=>trivial
 |[a,b],h=>by
  have h1:=(pairwise_cons.1 h).1 b (by simp);exact h1
 |a::b::c::l,h=>by
  have h1:=(pairwise_cons.1 h).1 b (by simp);exact⟨h1,rfl,KG g (b::c::l) (pairwise_cons.1 h).2⟩
theorem Fv(g:Int->List aL)(x:Int):∀(es:List Int),(∀ e∈es,x<e)->Fu (iq (λ a b=>(⟨a,b,g a⟩:bM)) es) x=[]
 |[],_=>rfl
 |[_],_=>rfl
 |a::b::l,h=>by
  have ha:=h a (by simp);rw[oH,wS,show(decide (a<=x)&&decide (x<b))=false by rw[Bool.and_eq_false_iff,dL];left;omega,ak];exact Fv g x (b::l) λe he=>h e (dV _ he)
theorem Fw(g:Int->List aL)(x:Int):∀(l:List Int)(a:Int),(a::l).Pairwise (· < ·)->a<=x->
 (∀ e∈a::l,e<=x->(∀ e'∈a::l,e'<=e\/x<e')->g e=g x)->((∀ e∈a::l,e<=x)->g x=[])->Fu (iq (λ a b=>(⟨a,b,g a⟩:bM)) (a::l)) x=g x
 |[],a,_,hx,_,h2=>(h2 (λ e he=>by have:e=a:=by simpa using he
                                  subst this;exact hx)).symm
 |b::l,a,hp,hx,h1,h2=>by
  have hab:=(pairwise_cons.1 hp).1 b (by simp);rw[oH,wS];by_cases hb:x<b
  ·rw[show (decide (a<=x)&&decide (x<b))=true by simp[hx,hb],aj];refine h1 a (by simp) hx λe he=>?_;rcases aN.1 he with rfl |he
   ·exact .inl (Int.le_refl _)
   ·right;rcases aN.1 he with rfl |he
    ·exact hb
    ·have:=(pairwise_cons.1 (pairwise_cons.1 hp).2).1 e he;omega
  ·rw[show (decide (a<=x)&&decide (x<b))=false by simp[hb],ak];refine Fw g x l b (pairwise_cons.1 hp).2 (by omega) (λ e he hex hc=>h1 e (dV _ he) hex λe' he'=>?_) λhall=>h2 λe he=>?_
   ·rcases aN.1 he' with rfl |he'
    ·left;have:=(pairwise_cons.1 hp).1 e he;omega
    ·exact hc e' he'
   ·rcases aN.1 he with rfl |he
    ·exact hx
    ·exact hall e he
theorem aaE(g:Int->List aL)(es:List Int)(hp:es.Pairwise (· < ·))(x:Int)
 (h1:∀e∈es,e<=x->(∀ e'∈es,e'<=e\/x<e')->g e=g x) (h2:(∀ e∈es,e<=x)->g x=[]) (h3:(∀ e∈es,x<e)->g x=[]):Fu (iq (λ a b=>(⟨a,b,g a⟩:bM)) es) x=g x:=by
 cases es with
 |nil=>exact(h3 (by simp)).symm
 |cons a l=>
  by_cases hx:a<=x
  ·exact Fw g x l a hp hx h1 h2
  ·have hall:∀e∈a::l,x<e:=by
    intro e he;rcases aN.1 he with rfl |he
    ·omega
    ·have:=(pairwise_cons.1 hp).1 e he;omega
   rw[Fv g x _ hall,h3 hall]
theorem Td{l:List ax}{z:Int}:z∈fK l↔∃r∈l,z=r.x0\/z=r.x1:=by
 rw[fK,aaf,List.mem_flatMap];simp
theorem Io(l:List ax):(fK l).Pairwise (· < ·):=Oi _
theorem Vf{l:List ax}{es:List Int}(hes:∀r∈l,r.x0∈es/\r.x1∈es){e x:Int}(hex:e<=x)(hc:∀e'∈es,e'<=e\/x<e'):iT l e=iT l x:=by
 unfold iT;congr 1;refine List.filter_congr λr hr=>?_;have⟨h0,h1⟩:=hes r hr;have:=hc _ h0;have:=hc _ h1;rw[kC,aJ,aJ,aR,aR,aR,aR];omega
theorem KH{l:List ax}{x:Int}(h:∀r∈l,x<r.x0\/r.x1<=x):iT l x=[]:=by
 unfold iT;rw[List.map_eq_nil_iff,List.filter_eq_nil_iff];intro r hr;have:=h r hr;rw[aJ,aR,aR];omega
theorem Fx(l:List ax):Ta (aZ l):=KG _ _ (Io l)
theorem Ip(l:List ax)(x:Int):Fu (aZ l) x=bV l x:=by
 have hes:∀r∈l,r.x0∈fK l/\r.x1∈fK l:=λr hr=>⟨Td.2 ⟨r,hr,.inl rfl⟩,Td.2 ⟨r,hr,.inr rfl⟩⟩;refine aaE (bV l) (fK l) (Io l) x (λ e _ hex hc=>?_) (λ hall=>?_) (λ hall=>?_)
 ·unfold bV;rw[Vf hes hex hc]
 ·unfold bV;rw[KH λr hr=> .inr (hall _ (hes r hr).2)];rfl
 ·unfold bV;rw[KH λr hr=> .inl (hall _ (hes r hr).1)];rfl
theorem afo{a:List ax}(h:cC a=true):pj a=(a,0):=by
 unfold cC at h;rw[aJ,aR,aR]at h;obtain⟨h1,h2⟩:=h;exact Prod.ext h2 h1
theorem rJ{a:List ax}(h:cC a=true):(∀ r∈a,dC r=true)/\a.length<=200/\lu (aZ a)=a:=by
 have h:=afo h;unfold pj at h;split at h
 ·rename_i hall;split at h
  ·simp at h
  ·split at h
   ·simp at h
   ·rename_i px;injection h with h _;refine⟨all_eq_true.1 hall,?_,h⟩;rw[<- h];omega
 ·simp at h
def ext(ab:List aL)(p:aL):List aL:=
 match ab.getLast? with
 |some q=>bif q.to==p.from_ then ab.dropLast++[⟨q.from_,p.to⟩]else ab++[p]
 |none=>[p]
def j0(a b:List aL):List Int:=AC ((a++b).flatMap λs=>[s.from_,s.to])
def rM(keep:Bool->Bool->Bool)(a b:List aL):List aL:=
 ((iq aL.mk (j0 a b)).filter λp=>keep (gp a p.from_) (gp b p.from_)).foldl ext []
theorem acV(o:List aL)(q p:aL):ext (o++[q]) p=bif q.to==p.from_ then o++[⟨q.from_,p.to⟩]else o++[q]++[p]:=by simp[ext]
def pI(keep:Bool->Bool->Bool)(a b:List ax):List bM:=
 iq (λ x x'=>(⟨x,x',rM keep (bV a x) (bV b x)⟩:bM)) (fK (a++b))
def rO(keep:Bool->Bool->Bool)(a b:List ax):List ax×Int:=
 if cC a&&cC b then(if (lu (pI keep a b)).length>200 then([],6)else(lu (pI keep a b),0))else([],1)
def Te{α:Type}(a0:List α)(a1:Int)(a2:(α×Int×Unit)->Option Int):(Int×Int)->Option ((Int×Int)⊕Int)
 |(v1,v2)=>(bif (decide (v1<(v2:Int)))then(ck (decide (0<=1)&&decide (1<=IntKind.u64.bits)) ((bz a0 (i64.wrap ((IntKind.u64.wrap (i64.wrap (v1+v2)))/2 ^ (1:Int).toNat))).bind λx1=>(a2 (x1,a1,())).bind λr1=>(bif (decide (r1<(0:Int)))then some (.inl ((i64.wrap ((i64.wrap ((IntKind.u64.wrap (i64.wrap (v1+v2)))/2 ^ (1:Int).toNat))+1)),v2))else some (.inl (v1,(i64.wrap ((IntKind.u64.wrap (i64.wrap (v1+v2)))/2 ^ (1:Int).toNat)))))))else some (.inr v1))
theorem aaF{α:Type}{l:List α}{key:Int}{φ:(α×Int×Unit)->Option Int}(p:α->Bool)(f:α->Int)(hφ:∀x,φ (x,key,())=some (f x))(hf:∀x,decide (f x<0)=p x)
 (hm:∀i j (hj:j<l.length) (hij:i<j),p l[j]=true->p (l[i]'(by omega))=true) (hl:l.length<1099511627776):
 ∀(m i j n:Nat),j -i<=m->i<=j->j<=l.length->(∀ k (hk:k<i) (hkl:k<l.length),p l[k]=true)->(∀ k (hk:j<=k) (hkl:k<l.length),p l[k]=false)->m<n->
 ∃w:Nat,w<=l.length/\iter (Te l key φ) n ((i:Int),(j:Int))=some (w:Int)/\(∀ k (hk:k<w) (hkl:k<l.length),p l[k]=true)/\∀k (hk:w<=k) (hkl:k<l.length),p l[k]=false:=by
 intro m
 induction m with
 |zero=>
  intro i j n hm0 hij hjl h1 h2 hn;obtain⟨n,rfl⟩:∃q,n=q+1:=⟨n -1,by omega⟩;have:i=j:=by omega
  subst this;exact⟨i,hjl,iE (by simp[Te]),h1,h2⟩
 |succ m ih=>
  intro i j n hm0 hij hjl h1 h2 hn;obtain⟨n,rfl⟩:∃q,n=q+1:=⟨n -1,by omega⟩;by_cases hlt:i<j
  ·have c:decide ((i:Int)<(j:Int))=true:=(by simpa using hlt);have c1:(decide (0<=1)&&decide (1<=IntKind.u64.bits))=true:=rfl;have e:i64.wrap ((IntKind.u64.wrap (i64.wrap ((i:Int)+(j:Int))))/2 ^ (1:Int).toNat)=(((i+j)/2:Nat):Int):=by
    rw[akv (by omega),afd (by omega),show((((i+j:Nat):Int))/2 ^ (1:Int).toNat)=(((i+j)/2:Nat):Int)by
     rw[show (1:Int).toNat=1 from rfl,Int.pow_one];omega,Sj (by omega)]
   have hh:(i+j)/2<l.length:=(by omega);cases hp:p l[(i+j)/2]with
   |true=>
    have s:Te l key φ ((i:Int),(j:Int))=some (.inl ((((i+j)/2+1:Nat):Int),(j:Int))):=by
     simp only[Te,c,aj,c1,e,bq hh,af,hφ,hf,hp];rw[bD (by omega)]
    rw[lT s];refine ih _ _ n (by omega) (by omega) hjl (λ k hk hkl=>?_) h2 (by omega);by_cases hk2:k<(i+j)/2
    ·exact hm k _ hh hk2 hp
    ·have:k=(i+j)/2:=(by omega);subst this;exact hp
   |false=>
    have s:Te l key φ ((i:Int),(j:Int))=some (.inl ((i:Int),(((i+j)/2:Nat):Int))):=(by simp only[Te,c,aj,c1,e,bq hh,af,hφ,hf,hp,ak]);rw[lT s];refine ih _ _ n (by omega) (by omega) (by omega) h1 (λ k hk hkl=>?_) (by omega);by_cases hk2:(i+j)/2<k
    ·cases hpk:p l[k]with
     |false=>rfl
     |true=>have:=hm _ k hkl hk2 hpk;rw[hp]at this;cases this
    ·have:k=(i+j)/2:=(by omega);subst this;exact hp
  ·have:i=j:=(by omega);subst this;exact⟨i,hjl,iE (by simp[Te]),h1,h2⟩
theorem ahl(l:List bM)(key:Int)(φ:(bM×Int×Unit)->Option Int):kI l key φ=Te l key φ:=by funext ⟨a,b⟩;rfl
theorem aiG(l:List aL)(key:Int)(φ:(aL×Int×Unit)->Option Int):lG l key φ=Te l key φ:=by funext ⟨a,b⟩;rfl
theorem Tf:∀{l:List bM},Ta l->l.Pairwise (λ s t=>s.x1<=t.x0)/\∀s∈l,s.x0<s.x1
 |[],_=>⟨List.Pairwise.nil,by simp⟩
 |[s],h=>⟨by simp,λt ht=>by have:t=s:=by simpa using ht
                            subst this;exact h⟩
 |s::t::l,h=>by
  obtain⟨h1,h2,h3⟩:=h;have⟨p1,p2⟩:=Tf h3;refine⟨?_,?_⟩
  ·rw[pairwise_cons];refine⟨λ u hu=>?_,p1⟩;rcases aN.1 hu with rfl |hu
   ·omega
   ·have:=(pairwise_cons.1 p1).1 u hu;have:=p2 t (by simp);omega
  ·intro u hu;rcases aN.1 hu with rfl |hu
   ·exact h1
   ·exact p2 u hu
theorem IZ{x:Int}:∀{l:List bM},(∀ s∈l,¬(s.x0<=x/\x<s.x1))->Fu l x=[]
 |[],_=>rfl
 |s::l,h=>by
  have:=h s (by simp);rw[wS,show(decide (s.x0<=x)&&decide (x<s.x1))=false by rw[Bool.and_eq_false_iff,dL,dL];omega,ak];exact IZ λt ht=>h t (by simp[ht])
theorem WX{x:Int}:∀{l:List bM}{w:Nat}(hw:w<l.length),(∀ k (hk:k<w),¬((l[k]'(by omega)).x0<=x/\x<(l[k]'(by omega)).x1))->l[w].x0<=x->x<l[w].x1->Fu l x=l[w].column
 |[],w,hw,_,_,_=>by simp at hw
 |s::l,0,hw,_,h0,h1=>aiF h0 h1
 |s::l,w+1,hw,hk,h0,h1=>by
  have hs:=hk 0 (by omega);simp only[List.getElem_cons_zero]at hs;rw[wS,show(decide (s.x0<=x)&&decide (x<s.x1))=false by rw[Bool.and_eq_false_iff,dL,dL];omega,ak];exact WX (by simpa using hw) (λ k hk'=>by have:=hk (k+1) (by omega);simpa using this) h0 h1
theorem aaG{l:List bM}{x:Int}(h:Ta l)(hl:l.length<1099511627776)(hn:l.length<n):SQ n l x=some (Fu l x):=by
 have⟨a1,a2⟩:=Tf h;rw[List.pairwise_iff_getElem]at a1
 have run:=aaF (l:=l) (key:=x) (φ:=λ(y1:bM×Int×Unit)=>uz y1.1 y1.2.1) (λ s=>decide (s.x1<=x)) (λ s=>if s.x1<=x then -1 else 1)
  (λ s=>by show uz s x=_;unfold uz;by_cases c:s.x1<=x<;>simp[c]) (λ s=>by by_cases c:s.x1<=x<;>simp[c])
  (λ i j hj hij hp=>by
   rw[aR]at hp ⊢;have:=a1 i j (by omega) hj hij;have:=a2 l[j] (getElem_mem _);omega) hl l.length 0 l.length n (by omega) (by omega) (aB _) (λ k hk=>by omega) (λ k hk hkl=>by omega) hn
 obtain⟨w,hw,e,h1,h2⟩:=run;unfold SQ iF;rw[ahl];have e':iter (Te l x λ(y1:bM×Int×Unit)=>uz y1.1 y1.2.1) n ((0:Int),(l.length:Int))=some (w:Int):=e;rw[e'];simp only[af];have aq:∀b:Int,∃bb,((bif (decide ((w:Int)<((l.length:Int):Int)))then(bz l (w:Int)).bind λx2=>(uz x2 x).bind λr2=>some ((w:Int),(r2==b))else some ((w:Int),false)):Option (Int×Bool))=some ((w:Int),bb):=by
  intro b;by_cases c:w<l.length
  ·have d:decide ((w:Int)<(l.length:Int))=true:=(by simpa using c);rw[d];simp only[aj];rw[bq c,af];unfold uz;cases decide (l[w].x1<=x)<;>exact⟨_,rfl⟩
  ·have d:decide ((w:Int)<(l.length:Int))=false:=(by simp;omega);rw[d];exact⟨_,rfl⟩
 have⟨bb,hbb⟩:=aq 0;rw[hbb,af];simp only[];by_cases c:w<l.length
 ·have d:decide ((w:Int)<(l.length:Int))=true:=by simpa using c
  simp only[d,aj,bq c,af];have hx1:=h2 w (aB _) c;rw[dL]at hx1;by_cases c2:l[w].x0<=x
  ·simp only[c2,decide_true,aj];rw[WX c (λ k hk hh=>?_) c2 (by omega)];have:=h1 k hk (by omega);rw[aR]at this;omega
  ·simp only[c2,decide_false,ak];rw[IZ λs hs hh=>?_];obtain⟨k,hk,rfl⟩:=mem_iff_getElem.1 hs;rcases Nat.lt_trichotomy k w with xm |rfl |xm
   ·have:=h1 k xm hk;rw[aR]at this;omega
   ·omega
   ·have:=a1 w k c hk xm;have:=a2 l[w] (getElem_mem _);omega
 ·have d:decide ((w:Int)<(l.length:Int))=false:=by simp;omega
  simp only[d,ak,af];rw[IZ λs hs hh=>?_];obtain⟨k,hk,rfl⟩:=mem_iff_getElem.1 hs;have:=h1 k (by omega) hk;rw[aR]at this;omega
theorem KI{l:List aL}{y:Int}(h:Can l)(hl:l.length<1099511627776)(hn:l.length<n):Az n l y=some (gp l y):=by
 obtain⟨a1,a2⟩:=h;rw[List.pairwise_iff_getElem]at a1
 have run:=aaF (l:=l) (key:=y) (φ:=λ(y1:aL×Int×Unit)=>kJ y1.1 y1.2.1) (λ s=>decide (s.to<=y)) (λ s=>if s.to<=y then -1 else 1)
  (λ s=>by show kJ s y=_;unfold kJ;by_cases c:s.to<=y<;>simp[c]) (λ s=>by by_cases c:s.to<=y<;>simp[c])
  (λ i j hj hij hp=>by
   rw[aR]at hp ⊢;have:=a1 i j (by omega) hj hij;have:l[j].from_<l[j].to:=a2 l[j] (getElem_mem _);omega) hl l.length 0 l.length n (by omega) (by omega) (aB _) (λ k hk=>by omega) (λ k hk hkl=>by omega) hn
 obtain⟨w,hw,e,h1,h2⟩:=run;unfold Az iU;rw[aiG];have e':iter (Te l y λ(y1:aL×Int×Unit)=>kJ y1.1 y1.2.1) n ((0:Int),(l.length:Int))=some (w:Int):=e;rw[e'];simp only[af];have aq:∀b:Int,∃bb,((bif (decide ((w:Int)<((l.length:Int):Int)))then(bz l (w:Int)).bind λx2=>(kJ x2 y).bind λr2=>some ((w:Int),(r2==b))else some ((w:Int),false)):Option (Int×Bool))=some ((w:Int),bb):=by
  intro b;by_cases c:w<l.length
  ·have d:decide ((w:Int)<(l.length:Int))=true:=(by simpa using c);rw[d];simp only[aj];rw[bq c,af];unfold kJ;cases decide (l[w].to<=y)<;>exact⟨_,rfl⟩
  ·have d:decide ((w:Int)<(l.length:Int))=false:=(by simp;omega);rw[d];exact⟨_,rfl⟩
 have⟨bb,hbb⟩:=aq 0;rw[hbb,af];simp only[];by_cases c:w<l.length
 ·have d:decide ((w:Int)<(l.length:Int))=true:=by simpa using c
  simp only[d,aj,bq c,af];have hx1:=h2 w (aB _) c;rw[dL]at hx1;congr 1;rw[kC,aR,KC];constructor
  ·exact λhf=>⟨l[w],getElem_mem _,hf,by omega⟩
  ·rintro⟨s,hs,g1,g2⟩;obtain⟨k,hk,rfl⟩:=mem_iff_getElem.1 hs;rcases Nat.lt_trichotomy k w with xm |rfl |xm
   ·have:=h1 k xm hk;rw[aR]at this;omega
   ·exact g1
   ·have:=a1 w k c hk xm;omega
 ·have d:decide ((w:Int)<(l.length:Int))=false:=by simp;omega
  simp only[d,ak];congr 1;symm;cases hh:gp l y with
  |false=>rfl
  |true=>
   obtain⟨s,hs,g1,g2⟩:=(KC _ _).1 hh;obtain⟨k,hk,rfl⟩:=mem_iff_getElem.1 hs;have:=h1 k (by omega) hk;rw[aR]at this;omega
theorem KJ{l:List (List aL)}(hf:l.flatten.length<1099511627776)(hl:l.length<1099511627776)(hn:l.length<n):wM n l=some l.flatten:=J3 (aL.mk 0 0) (b:=16) hf (by omega) hl hn
theorem KL(l:List aL):(l.flatMap λr=>[r.from_,r.to]).length=2*l.length:=by
 induction l with
 |nil=>rfl
 |cons x l ih=>simp only[List.flatMap_cons,dG,ih,bI,length_nil];omega
theorem O4{l:List aL}(hl:l.length<10995116277)(hn:l.length<n):iter (uD l) n ((0:Int),([]:List Int))=some (l.flatMap λr=>[r.from_,r.to]):=by
 have:=fE (l:=l) (step:=uD l) (λ i (s:List Int)=>((i:Int),s)) (λ r s=>s++[r.from_,r.to]) (λ s=>s) (λ i s=>s.length<=2*i)
  (λ i hi s hs=>?_) (λ s hs=>by simp[uD]) n hn [] (aB _)
 ·rw[show ((0:Nat):Int)=0 from rfl]at this;rw[this];have gen:∀(ys:List aL)(s:List Int),ys.foldl (λ s r=>s++[r.from_,r.to]) s=s++ys.flatMap λr=>[r.from_,r.to]:=by
   intro ys
   induction ys with
   |nil=>intro s;simp
   |cons y ys ih=>intro s;simp[ih]
  congr 1;simpa using gen l []
 ·have hi':decide ((i:Int)<(l.length:Int))=true:=by simpa using hi
  have ap:bP s.length s.length (sub ([l[i].from_,l[i].to]:List Int) 0 2).length 2 8=true:=dm (n:=2);simp only[uD,hi',aj,bF hi,bJ hi,af,ap,eX,aH];refine⟨?_,by simp;omega⟩;rw[bD (by omega)];rfl
theorem I4{α β:Type}(p:α->Bool)(f:β->α->β):∀(l:List α)(s:β),(l.filter p).foldl f s=l.foldl (λ s x=>bif p x then f s x else s) s
 |[],s=>rfl
 |x::l,s=>by
  rw[List.filter_cons,foldl_cons];cases h:p x with
  |true=>simp only[if_true,foldl_cons,aj];exact I4 p f l _
  |false=>simp only[Bool.false_eq_true,if_false,ak];exact I4 p f l _
theorem Tg(ab:List aL)(p:aL):(ext ab p).length<=ab.length+1:=by
 unfold ext;cases ab.getLast? with
 |none=>simp
 |some q=>simp only;cases q.to==p.from_<;>simp<;>omega
theorem Ti(a b:List aL):(j0 a b).length<=2*(a.length+b.length):=by
 have h:=qa (jM (λ a b=>decide (a<b)) ((a++b).flatMap λr=>[r.from_,r.to]));rw[dW,KL,dG]at h;exact h
theorem Vg(keep:Bool->Bool->Bool)(a b:List aL):(rM keep a b).length<=2*(a.length+b.length):=by
 have gen:∀(ys ab:List aL),(ys.foldl ext ab).length<=ab.length+ys.length:=by
  intro ys
  induction ys with
  |nil=>intro ab;simp
  |cons y ys ih=>
   intro ab;simp only[foldl_cons,bI];have:=ih (ext ab y);have:=Tg ab y;omega
 have h:=gen ((iq aL.mk (j0 a b)).filter λp=>keep (gp a p.from_) (gp b p.from_)) [];have h2:=length_filter_le (λ p=>keep (gp a p.from_) (gp b p.from_)) (iq aL.mk (j0 a b));have h3:=(qj aL.mk (j0 a b)).1;have h4:=Ti a b;simp only[length_nil]at h;unfold rM;omega
theorem aaH{keep:Bool->Bool->Bool}{φ:(Bool×Bool×Unit)->Option Bool}(hφ:∀p q,φ (p,q,())=some (keep p q)){a b:List aL}(ha:Can a)(hb:Can b)(hl:a.length+b.length<1099511627)(hn:2*(a.length+b.length)+2<n):Ff n a b φ=some (rM keep a b):=by
 have fl:[a,b].flatten=a++b:=by simp
 have s2:(sub ([a,b]:List (List aL)) 0 2)=[a,b]:=rfl;have q2:bj ([a,b]:List (List aL)).length 2=true:=rfl;have hys:=Ti a b;have hfl:((a++b).flatMap λr=>[r.from_,r.to]).length=2*(a.length+b.length):=by rw[KL,dG]
 unfold Ff;rw[s2,q2];simp only[aj];rw[KJ (by rw[fl,dG];omega) (by simp) (by simp;omega),fl];simp only[af,length_nil,aH,aj,O4 (l:=a++b) (n:=n) (by rw[dG];omega) (by rw[dG];omega)];rw[nU (by rw[hfl];omega) (by rw[hfl];omega)];simp only[af,dW,aH,aj];rw[rG (by rw[dW,hfl];omega) (by rw[dW,hfl];omega)];simp only[af];have hE:fT (jM mA ((a++b).flatMap λr=>[r.from_,r.to]))=j0 a b:=rfl;rw[hE];have⟨p1,p2⟩:=qj aL.mk (j0 a b);have key:iter (uE n a b φ ((),j0 a b)) n ((1:Int),([]:List aL))=some (rM keep a b):=by
  have:=fE (l:=iq aL.mk (j0 a b)) (step:=uE n a b φ ((),j0 a b)) (λ i (s:List aL)=>(((i+1:Nat):Int),s)) (λ p s=>bif keep (gp a p.from_) (gp b p.from_)then ext s p else s) (λ s=>s) (λ i s=>s.length<=i)
   (λ i hi s hs=>?_) (λ s hs=>?_) n (by omega) [] (aB _)
  ·rw[show ((0+1:Nat):Int)=1 from rfl]at this;rw[this,rM,I4]
  ·have hi2:i+1<(j0 a b).length:=(by omega);have hi1:i<(j0 a b).length:=(by omega);have d:decide (((i+1:Nat):Int)<(((j0 a b).length:Nat):Int))=true:=(by simp;omega);have wp:i64.wrap (((i+1:Nat):Int) -1)=(i:Int):=(by rw[lQ (by omega) (by omega)];rfl);have pe:(iq aL.mk (j0 a b))[i]=aL.mk (j0 a b)[i] (j0 a b)[i+1]:=p2 i hi2 hi;rw[pe];have lx:=Tg s (aL.mk (j0 a b)[i] (j0 a b)[i+1]);have ap:bP s.length s.length (sub ([(aL.mk (j0 a b)[i] (j0 a b)[i+1])]:List aL) 0 1).length 1 16=true:=dm (n:=1);have sb:(sub ([(aL.mk (j0 a b)[i] (j0 a b)[i+1])]:List aL) 0 1)=[aL.mk (j0 a b)[i] (j0 a b)[i+1]]:=rfl;refine⟨?_,by cases keep (gp a (j0 a b)[i]) (gp b (j0 a b)[i])<;>simp only[aj,ak]<;>omega⟩;simp only[uE,d,aj,wp,bF hi1,bJ hi1,af,KI (n:=n) ha (show a.length<1099511627776 by omega) (show a.length<n by omega),KI (n:=n) hb (show b.length<1099511627776 by omega) (show b.length<n by omega),hφ];cases hk:keep (gp a (j0 a b)[i]) (gp b (j0 a b)[i])with
   |false=>
    simp only[Bool.not_false,aj,aH,af,ak];rw[bD (by omega)]
   |true=>
    simp only[Bool.not_true,ak,aj];rcases List.eq_nil_or_concat s with rfl |⟨s0,q,C5⟩
    ·have d0:decide (((([]:List aL).length:Nat):Int)>0)=false:=(by simp);simp only[d0,ak,af,bF hi2,bJ hi2,aj,ap,eX,aH];rw[bD (by omega)];rfl
    ·rw[List.concat_eq_append]at C5;subst C5;have d0:decide (((((s0++[q]).length:Nat):Int))>0)=true:=(by simp<;>omega);have wx:(s0++[q]).length=s0.length+1:=(by simp);have wq:i64.wrap ((((s0++[q]).length:Nat):Int) -1)=(s0.length:Int):=(by rw[lQ (by simp) (by omega),wx];rfl);have IF:cH (s0.length:Int) (s0++[q]).length=true:=bF (by omega);have g:bz (s0++[q]) (((0:Nat):Int)+(s0.length:Int))=some q:=(by rw[BV];simp);have z:(((0:Nat):Int)+(s0.length:Int)).toNat=s0.length:=(by simp);have st:(s0++[q]).set s0.length (aL.mk q.from_ (j0 a b)[i+1])=s0++[⟨q.from_,(j0 a b)[i+1]⟩]:=(by simp);simp only[d0,aj,wq,IF,g,af,acV];cases hj:q.to==(j0 a b)[i]with
     |true=>
      simp only[aj,bF hi2,bJ hi2,af,z,st];have e:bj (s0++[q]).length (s0++[(⟨q.from_,(j0 a b)[i+1]⟩:aL)]).length=true:=(by simp);simp only[e,aj,af,aH];rw[bD (by omega)]
     |false=>
      rw[sb]at ap;simp only[ak,bF hi2,bJ hi2,af,aj,sb,ap,eX,aH];rw[bD (by omega)]
  ·have d:decide ((((iq aL.mk (j0 a b)).length+1:Nat):Int)<(((j0 a b).length:Nat):Int))=false:=(by simp;omega);simp only[uE,d,ak,aH,aj]
 rw[key];simp only[af,cB,aH,aj]
theorem AQ(keep:Bool->Bool->Bool)(a b:List ax):pI keep a b=(aZ (a++b)).map λs=>⟨s.x0,s.x1,rM keep (bV a s.x0) (bV b s.x0)⟩:=by
 have gen:∀es:List Int,iq (λ x x'=>(⟨x,x',rM keep (bV a x) (bV b x)⟩:bM)) es=(iq (λ x x'=>(⟨x,x',bV (a++b) x⟩:bM)) es).map λs=>⟨s.x0,s.x1,rM keep (bV a s.x0) (bV b s.x0)⟩:=by
  intro es
  match es with
  |[]=>rfl
  |[_]=>rfl
  |x::y::l=>
   rw[oH,oH,aF];congr 1;have:∀es:List Int,iq (λ x x'=>(⟨x,x',rM keep (bV a x) (bV b x)⟩:bM)) es=(iq (λ x x'=>(⟨x,x',bV (a++b) x⟩:bM)) es).map λs=>⟨s.x0,s.x1,rM keep (bV a s.x0) (bV b s.x0)⟩:=by
    intro es
    induction es with
    |nil=>rfl
    |cons x es ih=>
     cases es with
     |nil=>rfl
     |cons y es=>rw[oH,oH,aF,ih]
   exact this (y::l)
 exact gen (fK (a++b))
theorem Vh{keep:Bool->Bool->Bool}{φ:(Bool×Bool×Unit)->Option Bool}(hφ:∀p q,φ (p,q,())=some (keep p q)){a b:List ax}(ha:a.length<1099511627776)(hb:b.length<1099511627776)(hna:a.length<n)(hnb:b.length<n)(hn:1000<=n):Ci n a b φ=some (rO keep a b):=by
 unfold Ci rO;rw[kS ha hna hn,af];cases hra:cC a with
 |false=>rfl
 |true=>
  rw[kS hb hnb hn];simp only[Bool.not_true,ak,af,Bool.true_and];cases hrb:cC b with
  |false=>rfl
  |true=>
   have⟨a1,a2,_⟩:=rJ hra;have⟨b1,b2,_⟩:=rJ hrb;have fa:[a].flatten=a:=(by simp);have fb:[b].flatten=b:=(by simp);have fab:[a,b].flatten=a++b:=(by simp);have hab:∀r∈a++b,dC r=true:=λr hr=>by
    rcases aY.1 hr with hr |hr
    ·exact a1 r hr
    ·exact b1 r hr
   have sa:ng n [a]=some (aZ a):=by
    have:=vL (n:=n) (ls:=[a]) (by rw[fa];exact a1) (by rw[fa];omega) (by simp) (by rw[fa];omega) (by simp;omega)
    rwa [fa]at this
   have sb:ng n [b]=some (aZ b):=by
    have:=vL (n:=n) (ls:=[b]) (by rw[fb];exact b1) (by rw[fb];omega) (by simp) (by rw[fb];omega) (by simp;omega)
    rwa [fb]at this
   have lab:(a++b).length=a.length+b.length:=dG;have sab:ng n [a,b]=some (aZ (a++b)):=by
    have:=vL (n:=n) (ls:=[a,b]) (by rw[fab];exact hab) (by rw[fab,lab];omega) (by simp) (by rw[fab,lab];omega) (by simp;omega)
    rwa [fab]at this
   have e1:(sub ([a]:List (List ax)) 0 1)=[a]:=rfl;have e2:(sub ([b]:List (List ax)) 0 1)=[b]:=rfl;have e3:(sub ([a,b]:List (List ax)) 0 2)=[a,b]:=rfl;have q1:bj ([a]:List (List ax)).length 1=true:=rfl;have q2:bj ([b]:List (List ax)).length 1=true:=rfl;have q3:bj ([a,b]:List (List ax)).length 2=true:=rfl;have la:=rH a;have lb:=rH b;have lS:=rH (a++b);rw[lab]at lS;have mc:∀x,(bV a x).length<=200/\(bV b x).length<=200:=λx=>⟨Nat.le_trans (wQ a x) a2,Nat.le_trans (wQ b x) b2⟩;have lm:∀x,(rM keep (bV a x) (bV b x)).length<=800:=λx=>by
    have:=Vg keep (bV a x) (bV b x);have:=mc x;omega
   have key:iter (pu n φ (aZ a) (aZ b) (aZ (a++b))) n ((0:Int),aZ (a++b))=some (pI keep a b):=by
    have:=lH (step:=pu n φ (aZ a) (aZ b) (aZ (a++b))) (λ i=>((i:Int),(pI keep a b).take i++(aZ (a++b)).drop i)) (aZ (a++b)).length (pI keep a b) (λ i hi=>?_) ?_ n (by omega)
    ·simpa using this
    ·have d:decide ((i:Int)<(((aZ (a++b)).length:Nat):Int))=true:=(by simpa using hi);have lc:(pI keep a b).length=(aZ (a++b)).length:=(by rw[AQ,length_map]);have lt:((pI keep a b).take i).length=i:=(by rw[length_take];omega);have hd:(aZ (a++b)).drop i=(aZ (a++b))[i]::(aZ (a++b)).drop (i+1):=List.drop_eq_getElem_cons hi;have g:bz ((pI keep a b).take i++(aZ (a++b)).drop i) (((0:Nat):Int)+(i:Int))=some (aZ (a++b))[i]:=(by rw[BV,nY (by omega),lt,hd];simp);have st:∀s:bM,((pI keep a b).take i++(aZ (a++b)).drop i).set i s=(pI keep a b).take i++s::(aZ (a++b)).drop (i+1):=by
      intro s;rw[List.set_append_right _ _ (by omega),lt,hd,Nat.sub_self];rfl
     have z:(((0:Nat):Int)+(i:Int)).toNat=i:=(by simp);have tk:(pI keep a b).take (i+1)=(pI keep a b).take i++[⟨(aZ (a++b))[i].x0,(aZ (a++b))[i].x1,rM keep (bV a (aZ (a++b))[i].x0) (bV b (aZ (a++b))[i].x0)⟩]:=by
      rw[jD (by omega)];congr 2;simp only[AQ,List.getElem_map]
     have hm:=mc (aZ (a++b))[i].x0;have mg:Ff n (bV a (aZ (a++b))[i].x0) (bV b (aZ (a++b))[i].x0) φ=some (rM keep (bV a (aZ (a++b))[i].x0) (bV b (aZ (a++b))[i].x0)):=
      aaH hφ (KF a1 _).1 (KF b1 _).1 (by omega) (by omega)
     have at1:SQ n (aZ a) (aZ (a++b))[i].x0=some (bV a (aZ (a++b))[i].x0):=(by rw[aaG (Fx a) (by omega) (by omega),Ip]);have at2:SQ n (aZ b) (aZ (a++b))[i].x0=some (bV b (aZ (a++b))[i].x0):=(by rw[aaG (Fx b) (by omega) (by omega),Ip]);simp only[pu,d,aj,bF hi,g,af,cB,at1,at2,mg,aH,z,st];rw[bD (by omega),tk,aM];rfl
    ·have lc:(pI keep a b).length=(aZ (a++b)).length:=(by rw[AQ,length_map]);have d:decide ((((aZ (a++b)).length:Nat):Int)<(((aZ (a++b)).length:Nat):Int))=false:=(by simp);simp only[pu,d,ak,List.drop_length,append_nil];rw[take_of_length_le (by omega)]
   have lc:(pI keep a b).length=(aZ (a++b)).length:=(by rw[AQ,length_map]);have cc:∀s∈pI keep a b,s.column.length<=800:=by
    intro s hs;rw[AQ,mem_map]at hs;obtain⟨t,_,rfl⟩:=hs;exact lm _
   have sl:sub (pI keep a b) 0 (aZ (a++b)).length=pI keep a b:=(by rw[<- lc,cB]);simp only[Bool.not_true,ak,e1,e2,e3,q1,q2,q3,aj,sa,sb,sab,af,cB,aH,key,sl,lc];rw[Ov (b:=800) (by omega) (by omega) cc (by omega) (by omega)];simp only[af,cB,aH,aj,wL,if_true,Bool.and_self];by_cases px:(lu (pI keep a b)).length>200
   ·have:decide (((lu (pI keep a b)).length:Int)>200)=true:=(by simp;omega);simp only[this,aj,af,px,if_true]
   ·have:decide (((lu (pI keep a b)).length:Int)>200)=false:=(by simp;omega);simp only[this,ak,af,px,if_false]
theorem Yu{a b:List ax}(ha:a.length<1099511627776)(hb:b.length<1099511627776)(hna:a.length<n)(hnb:b.length<n)(hn:1000<=n):Gu n a b=some (rO (λ p q=>p&&q) a b):=by
 unfold Gu;rw[Vh (keep:=λp q=>p&&q) (λ p q=>by show vB p q=_;unfold vB;cases p<;>rfl) ha hb hna hnb hn];rfl
theorem Yv{keep:Bool->Bool->Bool}(a b:List ax):(rO keep a b).1.length<=200:=by
 unfold rO;split
 ·split
  ·simp
  ·show(lu _).length<=200;omega
 ·simp
def Ow(r:ax):Int:=(r.x1 -r.x0)*(r.y1 -r.y0)
def I5(l:List ax):Int:=(l.map Ow).sum
theorem Fy{r:ax}(h:dC r=true):0<=Ow r/\Ow r<=1099511627776:=by
 simp only[dC,aJ,aR]at h;unfold Ow;refine⟨Int.mul_nonneg (by omega) (by omega),?_⟩;have:=Int.mul_le_mul (show r.x1 -r.x0<=1048576 by omega) (show r.y1 -r.y0<=1048576 by omega) (by omega) (by omega);omega
theorem Tj:∀{l:List ax},(∀ r∈l,dC r=true)->0<=I5 l/\I5 l<=1099511627776*(l.length:Int)
 |[],_=>by simp[I5]
 |r::l,h=>by
  have h1:=Fy (h r List.mem_cons_self);have h2:=Tj (l:=l) λq hq=>h q (dV _ hq);have e:I5 (r::l)=Ow r+I5 l:=rfl;rw[e,bI]
  push_cast
  omega
theorem Fz{l:List ax}{φ:(ax×Unit)->Option Bool}(p:ax->Bool)(h:∀x∈l,φ (x,())=some (p x))(hl:l.length<1099511627776)(hn:l.length<n):rE n l φ=some (ze p l):=gT p h hl hn
theorem qG{l:List ax}{φ:(ax×Unit)->Option Bool}(p:ax->Bool)(h:∀x∈l,φ (x,())=some (p x))(hl:l.length<1099511627776)(hn:l.length<n):iH n l φ=some (l.any p):=by
 unfold iH;rw[Fz p h hl hn,af,ve]
theorem WY:∀(l:List Int)(x:Int),(l++[x]).sum=l.sum+x
 |[],x=>by simp
 |a::l,x=>by rw[List.cons_append,List.sum_cons,List.sum_cons,WY l x];omega
theorem afp{r:ax}(h:dC r=true):wN r=some (Ow r):=by
 have hb:=Fy h;unfold wN vW;rw[iV,h];simp only[af,aj];simp only[dC,aJ,aR]at h;unfold Ow at*;rw[cK (x:=r.x1 -r.x0),cK (x:=r.y1 -r.y0),cK (by omega) (by omega)]
theorem Tk{a:List ax}(ha:a.length<=900)(hn:1000<=n):Kv n a=some (bif cC a then I5 a else 0):=by
 unfold Kv;rw[kS (by omega) (by omega) hn];simp only[af];cases hr:cC a with
 |false=>rfl
 |true=>
  have ok:=(rJ hr).1;have:=lH (step:=Cj a) (λ i=>(I5 (a.take i),(i:Int))) a.length (I5 a) (λ i hi=>?_) ?_ n (by omega)
  ·have e:I5 (a.take 0)=0:=rfl;rw[e,show((0:Nat):Int)=0 from rfl]at this;simp only[Bool.not_true,ak,aj,this,af]
  ·have c:decide ((i:Int)<(a.length:Int))=true:=(by simpa using hi);have h1:=Tj (l:=a.take i) λr hr=>ok r (List.mem_of_mem_take hr);rw[length_take]at h1;have h2:=Fy (ok _ (getElem_mem hi));have e:I5 (a.take (i+1))=I5 (a.take i)+Ow a[i]:=(by rw[jD hi];unfold I5;rw[map_append];exact WY _ _);simp only[Cj,c,aj,bq hi,af,afp (ok _ (getElem_mem hi))];rw[bD (by omega),cK (by omega) (by omega),e]
  ·simp[Cj]
theorem MS{α:Type}(p:α->Bool)(l:List α):(match nD p l with |some _=>true |none=>false)=l.any p:=by
 have:=qR p l;rw[<- this];cases nD p l<;>rfl
def HA(p q:ax):Bool:=decide (max p.x0 q.x0<min p.x1 q.x1)&&decide (max p.y0 q.y0<min p.y1 q.y1)
def GG(a b:List ax):Bool:=a.any λp=>b.any λq=>HA p q
theorem acW{a b:List ax}(ha:a.length<1099511627776)(hb:b.length<1099511627776)(hna:a.length<n)(hnb:b.length<n):Qn n a b=some (GG a b):=by
 unfold Qn GG;rw[qG (λ p=>b.any λq=>HA p q) (λ p _=>?_) ha hna]
 ·rfl
 ·show Cr n p b=_;unfold Cr;rw[qG (λ q=>HA p q) (λ q _=>?_) hb hnb]
  ·rfl
  ·show tK q p=_;unfold tK HA;have e1:max q.x0 p.x0=max p.x0 q.x0:=(by omega);have e2:min q.x1 p.x1=min p.x1 q.x1:=(by omega);have e3:max q.y0 p.y0=max p.y0 q.y0:=(by omega);have e4:min q.y1 p.y1=min p.y1 q.y1:=by omega
   first
    |(cases decide (max p.x0 q.x0<min p.x1 q.x1)<;>rfl)
    |(rw [e1,e2,e3,e4];cases decide (max p.x0 q.x0<min p.x1 q.x1)<;>rfl)
theorem acX{a b:List ax}(hl:a.length<1099511627776)(hn:a.length<n):Qm n a b=some (decide (a=b)):=by
 unfold Qm;rw[AL hl hn];rfl
abbrev tU(a b:ax):Bool:=decide (a.y0<b.y0)
theorem W5:Go.Sort.SWO tU where
 irrefl x:=by simp[tU]
 trans x y z h1 h2:=by simp only[tU,aR]at *;omega
 ntrans x y z h1 h2:=by simp only[tU,dL]at *;omega
instance:Inhabited ax:=⟨ax.mk 0 0 0 0⟩
theorem GY{l:List ax}{φ:(ax×ax×Unit)->Option Int}(f:ax->ax->Int)(hφ:∀x y,φ (x,y,())=some (f x y))(hf:∀x y,decide (f x y<0)=tU x y)(hl:l.length<1099511627776)(_:l.length<n):sQ n l φ=some (qy tU l):=
 aas f hφ hf W5 hl
structure aky(R:List bM):Prop where
 runs:Runs R
 len:R.length<=200
 col:∀s∈R,Can s.column/\∀q∈s.column,0<=q.from_/\q.from_<q.to/\q.to<=1048576
 xs:∀s∈R,0<=s.x0/\s.x0<s.x1/\s.x1<=1048576
 vj:(R.flatMap λs=>s.column.map (·.from_)).length<=200
theorem acY(p:Nat->Bool)(N:Nat):(nD p (List.range N)=none->(List.range N).any p=false)/\(∀ i,nD p (List.range N)=some i->(List.range N).any p=true):=by
 refine⟨λ h=>?_,λi h=>?_⟩
 ·rw[<- qR,h];rfl
 ·rw[<- qR,h];rfl
theorem FB{W O:Type}{step:Int->Option (Int⊕(W⊕O))}(N:Nat)(p:Nat->Bool)(w:W)(o:O)
 (h:∀i,i<N->step (i:Int)=some (bif p i then .inr (.inr o)else .inl ((i+1:Nat):Int)))
 (hend:step (N:Int)=some (.inr (.inl w))) (n:Nat) (hn:N<n):iter step n (0:Int)=some (bif (List.range N).any p then .inr o else .inl w):=by
 have:=qx (l:=List.range N) (step:=step) (λ i=>(i:Int)) p w (λ _=>o) (λ i hi=>by
  rw[List.length_range]at hi;rw[List.getElem_range];exact h i hi) (by rw[List.length_range];exact hend) n (by rw[List.length_range];exact hn)
 rw[show ((0:Nat):Int)=0 from rfl]at this;rw[this];have⟨r1,r2⟩:=acY p N;cases hf:nD p (List.range N)with
 |none=>rw[r1 hf];rfl
 |some i=>rw[r2 i hf];rfl
theorem FC{p:List dn}(hl:p.length<=1000)(hn:2000<=n):iter (oq n p (fH p)) n (0:Int)=some (bif (List.range p.length).any (Fm p)then .inr false else .inl ()):=by
 refine FB p.length (Fm p) () false (λ i hi=>?_) ?_ n (by omega)
 ·have nz:((p.length:Int) !=0)=true:=by simp;intro h;rw[h]at hi;simp at hi
  have md:(i+1)%p.length<p.length:=Nat.mod_lt _ (by omega);have w:i64.wrap ((i:Int)+1)=((i+1:Nat):Int):=bD (by omega);have g1:bz (fH p) (((0:Nat):Int)+(i:Int))=some (iJ p i):=by rw[bJ (by rw[dO];exact hi),wR]
  have g2:bz (fH p) (((0:Nat):Int)+(((i+1)%p.length:Nat):Int))=some (iJ p ((i+1)%p.length)):=by rw[bJ (by rw[dO];exact md),wR]
  obtain⟨r,hr1,hr2⟩:=IY (n:=n) (oE p 0) (oE p i) (by omega);have g3:bz p 0=some (oE p 0):=by rw[ain (by omega),<- Qp]
  have g4:bz p (i:Int)=some (oE p i):=by rw[bq hi,<- Qp]
  have dz:decide ((i:Int)>0)=decide (0<i):=by rw[kC];simp
  have pt:dn.mk (iJ p i).kO (iJ p i).oy=oE p i:=rfl;simp only[oq,dO,dK hi,aj,bF hi,g1,g2,af,nz,w,WW,bF md,pt,KE,lY,KD,g3,g4,hr1,hr2,dz,Option.map_some];unfold Fm;generalize Qq (oE p i)=b1;generalize (((iJ p i).kO==(iJ p i).li)==((iJ p i).oy==(iJ p i).sR))=b2;generalize (sY (iJ p i)==sY (iJ p ((i+1)%p.length)))=b3;generalize decide (0<i)=b4;generalize Qr (oE p 0) (oE p i)=b5;cases b1<;>cases b2<;>cases b3<;>cases b4<;>cases b5<;>rfl
 ·simp only[oq,dO,fe,ak]
theorem FD{p:List dn}(hl:p.length<=1000)(hn:2000<=n){i:Nat}(hi:i<p.length):
 iter (ig (fH p) (i:Int)) n (((i+2:Nat):Int))=some (bif (List.range p.length).any λk=>decide (i+2<=k)&&O3 p i k then .inr (.inr (.inr false))else .inl ()):=by
 have st:∀k,k<p.length->ig (fH p) (i:Int) (k:Int)=some (bif O3 p i k then .inr (.inr (.inr (.inr false)))else .inl ((k+1:Nat):Int)):=by
  intro k hk;have g1:bz (fH p) (((0:Nat):Int)+(i:Int))=some (iJ p i):=by rw[bJ (by rw[dO];exact hi),wR]
  have g2:bz (fH p) (((0:Nat):Int)+(k:Int))=some (iJ p k):=by rw[bJ (by rw[dO];exact hk),wR]
  have w:i64.wrap (i64.wrap ((i:Int)+(p.length:Int)) -(k:Int))=((i+p.length -k:Nat):Int):=by rw[cK (x:=(i:Int)+(p.length:Int)),cK (by omega) (by omega)];omega
  have dz:decide (((i+p.length -k:Nat):Int)>1)=decide (i+p.length -k>1):=by rw[kC,aR,aR];omega
  simp only[ig,dO,dK hk,aj,bF hi,bF hk,g1,g2,af,w,dz,AP,KD,Option.map_some,aV k];unfold O3;cases decide (i+p.length -k>1)<;>cases Yt (iJ p i) (iJ p k)<;>rfl
 have main:∀m k,k+m=p.length->∀f,m<f->iter (ig (fH p) (i:Int)) f (k:Int)=some (bif (List.range p.length).any λj=>decide (k<=j)&&O3 p i j then .inr (.inr (.inr false))else .inl ()):=by
  intro m
  induction m with
  |zero=>
   intro k hk f hf;obtain⟨f,rfl⟩:∃g,f=g+1:=⟨f -1,by omega⟩;have:k=p.length:=(by omega);subst this;have e:((List.range p.length).any λj=>decide (p.length<=j)&&O3 p i j)=false:=by
    rw[Bool.eq_false_iff];intro h;rw[any_eq_true]at h;obtain⟨j,h1,h2⟩:=h;rw[List.mem_range]at h1;simp only[aJ,aR]at h2;omega
   rw[e];refine iE ?_;simp only[ig,dO,fe,ak]
  |succ m ih=>
   intro k hk f hf;obtain⟨f,rfl⟩:∃g,f=g+1:=⟨f -1,by omega⟩;have hkl:k<p.length:=(by omega);have h1:=st k hkl;cases hb:O3 p i k with
   |true=>
    rw[hb]at h1;have e:((List.range p.length).any λj=>decide (k<=j)&&O3 p i j)=true:=by
     rw[any_eq_true];exact⟨k,List.mem_range.2 hkl,by simp[hb]⟩
    rw[e];exact iE h1
   |false=>
    rw[hb]at h1;rw[lT h1,ih (k+1) (by omega) f (by omega)];congr 2;rw[kC,any_eq_true,any_eq_true];constructor
    ·rintro⟨j,j1,j2⟩;simp only[aJ,aR]at j2;exact⟨j,j1,by simp only[aJ,aR];exact⟨by omega,j2.2⟩⟩
    ·rintro⟨j,j1,j2⟩;simp only[aJ,aR]at j2;refine⟨j,j1,?_⟩;simp only[aJ,aR];refine⟨?_,j2.2⟩;rcases Nat.lt_or_ge k j with h |h
     ·omega
     ·have:j=k:=(by omega);subst this;rw[hb]at j2;simp at j2
 by_cases h2:i+2<=p.length
 ·exact main (p.length -(i+2)) (i+2) (by omega) n (by omega)
 ·obtain⟨n,rfl⟩:∃g,n=g+1:=⟨n -1,by omega⟩;have e:((List.range p.length).any λj=>decide (i+2<=j)&&O3 p i j)=false:=by
   rw[Bool.eq_false_iff];intro h;rw[any_eq_true]at h;obtain⟨j,h1,h2⟩:=h;rw[List.mem_range]at h1;simp only[aJ,aR]at h2;omega
  rw[e];have d:decide (((i+2:Nat):Int)<(p.length:Int))=false:=by rw[dL];omega
  refine iE ?_;simp only[ig,dO,d,ak]
theorem FE{p:List dn}(hl:p.length<=1000)(hn:2000<=n):iter (ow n (fH p)) n (0:Int)=some (bif (List.range p.length).any λi=>(List.range p.length).any λk=>decide (i+2<=k)&&O3 p i k then .inr false else .inl ()):=by
 refine FB p.length _ () false (λ i hi=>?_) ?_ n (by omega)
 ·have w2:i64.wrap ((i:Int)+2)=((i+2:Nat):Int):=by rw[cK (by omega) (by omega)];omega
  simp only[ow,dO,dK hi,aj,w2,FD hl hn hi,aV i];cases (List.range p.length).any λk=>decide (i+2<=k)&&O3 p i k<;>rfl
 ·simp only[ow,dO,fe,ak]
theorem MU(p:List dn)(hn:2000<=n):tF n p=some (MR p):=by
 unfold tF MR;by_cases h4:p.length<4
 ·have d1:decide ((p.length:Int)<4)=true:=by simp;omega
  have d2:decide (4<=p.length)=false:=by simp;omega
  rw[d1,d2];rfl
 ·have d1:decide ((p.length:Int)<4)=false:=by simp;omega
  have d2:decide (4<=p.length)=true:=by simp;omega
  by_cases h60:p.length>60
  ·have d3:decide ((p.length:Int)>60)=true:=(by simp;omega);have d4:decide (p.length<=60)=false:=(by simp;omega);rw[d1,d2,d3,d4];rfl
  ·have d3:decide ((p.length:Int)>60)=false:=(by simp;omega);have d4:decide (p.length<=60)=true:=(by simp;omega);have g:bz (fH p) (((0:Nat):Int)+0)=some (iJ p 0):=by
    have:=bJ (l:=fH p) (i:=0) (by rw[dO];omega);rw[wR]at this;exact this
   have i0:cH 0 (fH p).length=true:=by
    have:=bF (i:=0) (n:=(fH p).length) (by rw[dO];omega);simpa using this
   rw[d1,d2,d3,d4];simp only[ak,af,yP (n:=n) (p:=p) (by omega) (by omega),FC (n:=n) (p:=p) (by omega) hn,Bool.true_and];cases (List.range p.length).any (Fm p)with
   |true=>rfl
   |false=>
    simp only[ak,dQ,FE (n:=n) (p:=p) (by omega) hn];cases (List.range p.length).any λi=>(List.range p.length).any λk=>decide (i+2<=k)&&O3 p i k with
    |true=>rfl
    |false=>
     simp only[ak,dQ,i0,aj,g,af,lY];rfl
def zk(p:List dn)(x:Int):List Int:=((fH p).filter λs=>!sY s&&(decide (min s.kO s.li<=x)&&decide (x<max s.kO s.li))).map (·.oy)
def AR(x0 x1:Int):List Int->List ax
 |a::b::l=>⟨x0,a,x1,b⟩::AR x0 x1 l
 |_=>[]
def mw(p:List dn):List Int:=AC (p.map (·.x))
def Tm(p:List dn):List ax:=(iq (λ a b=>AR a b (jM mA (zk p a))) (mw p)).flatten
def vM(p:List dn):List ax×Int:=if MR p=true then(if (Tm p).length>200 then([],6)else(Tm p,0))else([],10)
theorem acZ{p:List dn}(h:MR p=true):4<=p.length/\p.length<=60:=by
 unfold MR at h;simp only[aJ,aR]at h;exact⟨h.1,h.2.1⟩
theorem Dt{p:List dn}(hl:p.length<=1000)(hn:2000<=n):iter (kL p) n ((0:Int),([]:List Int))=some (p.map (·.x)):=by
 have:=fE (l:=p) (step:=kL p) (λ i (s:List Int)=>((i:Int),s)) (λ r s=>s++[r.x]) (λ s=>s) (λ i s=>s.length<=i)
  (λ i hi s hs=>?_) (λ s hs=>by simp[kL]) n (by omega) [] (aB _)
 ·rw[show ((0:Nat):Int)=0 from rfl]at this;rw[this];have gen:∀(ys:List dn)(s:List Int),ys.foldl (λ s r=>s++[r.x]) s=s++ys.map (·.x):=by
   intro ys
   induction ys with
   |nil=>intro s;simp
   |cons y ys ih=>intro s;rw[foldl_cons,ih];simp
  congr 1;simpa using gen p []
 ·have ap:bP s.length s.length (sub ([(p[i]).x]:List Int) 0 1).length 1 8=true:=dm (n:=1);simp only[kL,dK hi,aj,bq hi,af,ap,eX,aH];refine⟨?_,by simp;omega⟩;rw[bD (by omega)];rfl
theorem Du{p:List dn}(hl:p.length<=1000)(hn:2000<=n)(es:List Int)(i:Nat)(hi:i<es.length):iter (kM ((),es) (fH p) (i:Int)) n ((0:Int),([]:List Int))=some (zk p es[i]):=by
 have:=fE (l:=fH p) (step:=kM ((),es) (fH p) (i:Int)) (λ i (s:List Int)=>((i:Int),s)) (λ r s=>bif !sY r&&(decide (min r.kO r.li<=es[i])&&decide (es[i] <max r.kO r.li))then s++[r.oy]else s) (λ s=>s) (λ i s=>s.length<=i)
  (λ j hj s hs=>?_) (λ s hs=>by simp[kM]) n (by rw[dO];omega) [] (aB _)
 ·rw[show ((0:Nat):Int)=0 from rfl]at this;rw[this];have gen:∀(ys:List iY)(s:List Int),ys.foldl (λ s r=>bif !sY r&&(decide (min r.kO r.li<=es[i])&&decide (es[i] <max r.kO r.li))then s++[r.oy]else s) s=s++(ys.filter λs=>!sY s&&(decide (min s.kO s.li<=es[i])&&decide (es[i] <max s.kO s.li))).map (·.oy):=by
   intro ys
   induction ys with
   |nil=>intro s;simp
   |cons y ys ih=>
    intro s;rw[foldl_cons,ih,List.filter_cons];cases !sY y&&(decide (min y.kO y.li<=es[i])&&decide (es[i] <max y.kO y.li))<;>simp
  congr 1;exact gen (fH p) []
 ·rw[dO]at hj;have g:bz (fH p) (((0:Nat):Int)+(j:Int))=some (fH p)[j]:=bJ (by rw[dO];exact hj);have ap:bP s.length s.length (sub ([((fH p)[j]'(by rw[dO];exact hj)).oy]:List Int) 0 1).length 1 8=true:=dm (n:=1);generalize hr:(fH p)[j]'(by rw[dO];exact hj)=r at*;simp only[kM,dO,dK hj,aj,bF hj,g,af,lY,bF hi,bJ hi,KD,ap,eX,aH,aV j];cases sY r<;>cases decide (min r.kO r.li<=es[i])<;>cases decide (es[i] <max r.kO r.li)<;>refine⟨rfl,?_⟩<;>simp<;>omega
theorem WZ(x0 x1:Int):∀l:List Int,(AR x0 x1 l).length<=l.length
 |[]=>by simp[AR]
 |[_]=>by simp[AR]
 |a::b::l=>by have:=WZ x0 x1 l;simp only[AR,bI];omega
theorem Dv(es:List Int)(i:Nat)(hi:i+1<es.length)(he:es.length<=10000)(w2 r8:List Int)(hw:w2.length=r8.length)(hr:r8.length<=1000)(ab:List ax)(ho:ab.length<=10000000)(hn:2000<=n):
 iter (iO ((),es) (i:Int) w2 r8) n ((0:Int),ab)=some (ab++AR (es[i]'(by omega)) es[i+1] r8):=by
 have main:∀(m k:Nat)(ab:List ax),k+m=r8.length->ab.length<=10000000+k->∀f,m<f->iter (iO ((),es) (i:Int) w2 r8) f ((k:Int),ab)=some (ab++AR (es[i]'(by omega)) es[i+1] (r8.drop k)):=by
  intro m
  induction m using Nat.strongRecOn with
  |ind m ih=>
   intro k ab hk hko f hf;obtain⟨f,rfl⟩:∃g,f=g+1:=⟨f -1,by omega⟩;have w1:i64.wrap ((k:Int)+1)=((k+1:Nat):Int):=bD (by omega);have w3:i64.wrap ((k:Int)+2)=((k+2:Nat):Int):=(by rw[cK (by omega) (by omega)];omega);have w4:i64.wrap ((i:Int)+1)=((i+1:Nat):Int):=bD (by omega);by_cases h2:k+1<r8.length
   ·have d:decide (((k+1:Nat):Int)<(w2.length:Int))=true:=(by rw[hw];exact dK h2);have ap:bP ab.length ab.length (sub ([(ax.mk (es[i]'(by omega)) (r8[k]'(by omega)) es[i+1] r8[k+1])]:List ax) 0 1).length 1 32=true:=dm (n:=1);have st:iO ((),es) (i:Int) w2 r8 ((k:Int),ab)=some (.inl (((k+2:Nat):Int),ab++[ax.mk (es[i]'(by omega)) (r8[k]'(by omega)) es[i+1] r8[k+1]])):=by
     simp only[iO,w1,w3,w4,d,aj,bF (show i<es.length by omega),bJ (show i<es.length by omega),af,bF (show k<w2.length by omega),bJ (show k<r8.length by omega),bF hi,bJ hi,bF (show k+1<w2.length by omega),bJ h2,ap,eX,aH];rfl
    have dr:r8.drop k=r8[k]::r8[k+1]::r8.drop (k+2):=(by rw[List.drop_eq_getElem_cons (by omega),List.drop_eq_getElem_cons h2]);rw[lT st,ih (m -2) (by omega) (k+2) _ (by omega) (by rw[dG,length_singleton];omega) f (by omega),dr];simp[AR]
   ·have d:decide (((k+1:Nat):Int)<(w2.length:Int))=false:=(by rw[hw,dL];omega);have e:AR (es[i]'(by omega)) es[i+1] (r8.drop k)=[]:=by
     have hl:(r8.drop k).length<=1:=by rw[length_drop];omega
     match r8.drop k,hl with
     |[],_=>rfl
     |[_],_=>rfl
     |_::_::_,h=>simp at h
    rw[e,append_nil];refine iE ?_;simp only[iO,w1,d,ak,aH,aj]
 have:=main r8.length 0 ab (by omega) (by omega) n (by omega);rw[show ((0:Nat):Int)=0 from rfl,List.drop_zero]at this;exact this
theorem aiH(p:List dn):(mw p).length<=p.length:=by
 have h:=qa (jM mA (p.map (·.x)));rw[dW,length_map]at h;exact h
theorem Tn(p:List dn)(x:Int):(zk p x).length<=p.length:=by
 unfold zk;rw[length_map,<- dO p];exact length_filter_le _ _
theorem FH{α:Type}(b:Nat):∀l:List (List α),(∀ x∈l,x.length<=b)->l.flatten.length<=l.length*b
 |[],_=>by simp
 |x::l,h=>by
  have h1:=FH b l λy hy=>h y (dV _ hy);have h2:=h x List.mem_cons_self;rw[List.flatten_cons,dG,bI,Nat.add_mul];omega
theorem Dw{p:List dn}(hl:p.length<=1000)(hn:2000<=n):
 iter (kN n ((),mw p) (fH p)) n ((0:Int),([]:List ax))=some (Tm p):=by
 have hx:=aiH p;obtain⟨p1,p2⟩:=qj (λ a b=>AR a b (jM mA (zk p a))) (mw p)
 let C:=iq (λ a b=>AR a b (jM mA (zk p a))) (mw p)
 have hC:C.length=(mw p).length -1:=p1;have cl:∀c∈C,c.length<=1000:=by
  intro c hc;obtain⟨i,hi,rfl⟩:=mem_iff_getElem.1 hc;have:=p2 i (by omega) hi;show(C[i]).length<=1000;rw[show C[i]=_ from this];have h1:=WZ (mw p)[i] (mw p)[i+1] (jM mA (zk p (mw p)[i]));rw[dW]at h1;have h2:=Tn p (mw p)[i];omega
 have bl:∀i,((C.take i).flatten).length<=1000*1000:=by
  intro i;have h1:=FH 1000 (C.take i) λx hx=>cl x (List.mem_of_mem_take hx);have h2:(C.take i).length<=1000:=by rw[length_take];omega
  exact Nat.le_trans h1 (Nat.mul_le_mul_right _ h2)
 have main:=lH (step:=kN n ((),mw p) (fH p)) (λ i=>((i:Int),(C.take i).flatten)) C.length (Tm p) (λ i hi=>?_) ?_ n (by omega)
 ·simpa using main
 ·have hi2:i+1<(mw p).length:=by omega
  have hw:i64.wrap ((((mw p).length:Nat):Int) -1)=(C.length:Int):=by rw[cK (by omega) (by omega)];omega
  have bi:=bl i;have cr:=Tn p (mw p)[i];have e:C.take (i+1)=C.take i++[AR (mw p)[i] (mw p)[i+1] (jM mA (zk p (mw p)[i]))]:=by
   rw[jD hi];congr 2;exact p2 i hi2 hi
  simp only[kN,hw,dK hi,aj,length_nil,aH,Du hl hn (mw p) i (by omega),af];rw[nU (by omega) (by omega)];simp only[af];rw[Dv (mw p) i hi2 (by omega) (zk p (mw p)[i]) (jM mA (zk p (mw p)[i])) (by rw[dW]) (by rw[dW];omega) _ (by omega) hn];simp only[af,aH,aj,e,List.flatten_append,List.flatten_cons,List.flatten_nil,append_nil,aV i]
 ·have hw:i64.wrap ((((mw p).length:Nat):Int) -1)=(((mw p).length:Nat):Int) -1:=cK (by omega) (by omega);have d:decide ((C.length:Int)<(((mw p).length:Nat):Int) -1)=false:=by rw[dL];omega
  simp only[kN,hw,d,ak,aH,aj,List.take_length];rfl
theorem KM(p:List dn)(hn:2000<=n):rq n p=some (vM p):=by
 unfold rq vM;rw[MU p hn];simp only[af];cases hr:MR p with
 |false=>rfl
 |true=>
  have⟨_,hl⟩:=acZ hr;simp only[Bool.not_true,ak,length_nil,aH,aj,Dt (n:=n) (p:=p) (by omega) hn,af,if_true];rw[nU (by rw[length_map];omega) (by rw[length_map];omega)];simp only[af,dW,aH,aj];rw[rG (by rw[dW,length_map];omega) (by rw[dW,length_map];omega)];simp only[af,yP (n:=n) (p:=p) (by omega) (by omega)];have hE:fT (jM mA (p.map (·.x)))=mw p:=rfl;rw[hE,Dw (by omega) hn];simp only[af,cB,aH,aj];by_cases px:(Tm p).length>200
  ·have:decide ((((Tm p).length:Nat):Int)>200)=true:=(by simp;omega);rw[this,bn px];rfl
  ·have:decide ((((Tm p).length:Nat):Int)>200)=false:=(by simp;omega);rw[this,bf px];rfl
theorem aaJ(p:List dn):(vM p).1.length<=200:=by
 unfold vM;split
 ·split
  ·simp
  ·simp;omega
 ·simp
def S3(a b:ax):Int:=bif(!dC a || !dC b)then -1 else max (max 0 (i64.wrap ((max a.x0 b.x0) -(min a.x1 b.x1)))) (i64.wrap ((max a.y0 b.y0) -(min a.y1 b.y1)))
theorem ahm(a b:ax):HB a b=some (S3 a b):=by
 unfold HB S3;rw[iV,iV];simp only[af];cases dC a<;>cases dC b<;>rfl
def N1:fU:=fU.mk 0 0 [] []
def lM(land:List fU)(id:Int):fU×Bool:=match land.find? λt=>t.id==id with
 |some t=>(t,true)
 |none=>(N1,false)
theorem Tp{α:Type}(p:α->Bool)(l:List α):(∃ (i:Nat) (h:i<l.length),nD p l=some i/\l.find? p=some l[i])\/(nD p l=none/\l.find? p=none):=by
 rcases BX p l with ⟨i,hi,h1,h2,h3⟩ |⟨h1,h2⟩
 ·refine .inl ⟨i,hi,h1,?_⟩;rw[List.find?_eq_some_iff_getElem];exact⟨h2,i,hi,rfl,λj hj=>by simpa using h3 j hj⟩
 ·refine .inr ⟨h1,?_⟩;rw[List.find?_eq_none];intro x hx;rw[h2 x hx];simp
def S0(t:bS)(name:ByteArray):Int:=match t.rows.find? λe=>ByteArray.toList e.name==ByteArray.toList name with
 |some e=>e.n
 |none=>t.p7
theorem Tq{α:Type}(p:α->Bool)(l:List α):(∃ (i:Nat) (h:i<l.length),ze p l=(i:Int)/\l.find? p=some l[i])\/(ze p l= -1/\l.find? p=none):=by
 rcases Tp p l with ⟨i,hi,h1,h2⟩ |⟨h1,h2⟩
 ·exact .inl ⟨i,hi,by simp[ze,h1],h2⟩
 ·exact .inr ⟨by simp[ze,h1],h2⟩
def aho:List ByteArray:=[⟨#[104,111,109,101]⟩,⟨#[115,104,111,112]⟩,⟨#[119,111,114,107]⟩,⟨#[112,97,114,107]⟩,⟨#[112,108,97,110,116]⟩,⟨#[104,97,108,108]⟩]
def nameOf(use:Int):Option ByteArray:=bz aho use
theorem KN{V O:Type}{step:V->Option (V⊕O)}(R:Nat->V->Prop)(N:Nat)(Q:O->Prop)(h:∀i v,i<N->R i v->∃v',step v=some (.inl v')/\R (i+1) v')(hN:∀v,R N v->∃o,step v=some (.inr o)/\Q o):
 ∀n,N<n->∀v,R 0 v->∃o,iter step n v=some o/\Q o:=by
 have main:∀k i n v,i+k=N->k<n->R i v->∃o,iter step n v=some o/\Q o:=by
  intro k
  induction k with
  |zero=>
   intro i n v hi hn hR;obtain⟨m,rfl⟩:∃m,n=m+1:=⟨n -1,by omega⟩;have:i=N:=(by omega);subst this;have⟨o,h1,h2⟩:=hN v hR;exact⟨o,iE h1,h2⟩
  |succ k ih=>
   intro i n v hi hn hR;obtain⟨m,rfl⟩:∃m,n=m+1:=⟨n -1,by omega⟩;obtain⟨v',h1,h2⟩:=h i v (by omega) hR;obtain⟨o,h3,h4⟩:=ih (i+1) m v' (by omega) (by omega) h2;exact⟨o,by rw[lT h1,h3],h4⟩
 intro n hn v hR;exact main N 0 n v (by omega) hn hR
def zl(z:dH):List ax:=if (vM z.corners).2=0 then(vM z.corners).1 else []
theorem ac0(z:dH):(zl z).length<=200:=by
 unfold zl;split
 ·exact aaJ _
 ·simp
theorem O5(z:dH)(hn:2000<=n):vC n z=some (zl z):=by
 unfold vC zl;rw[KM _ hn];simp only[af,cB,aH,aj];by_cases h:(vM z.corners).2=0
 ·have:((vM z.corners).2 !=0)=false:=by simp[h]
  rw[this,bn h];rfl
 ·have:((vM z.corners).2 !=0)=true:=by simp[h]
  rw[this,bf h];rfl
def Dh(a b:ax):ax:=⟨max a.x0 b.x0,max a.y0 b.y0,min a.x1 b.x1,min a.y1 b.y1⟩
theorem KO(a:ax):vW a=some (bif dC a then(a,true)else(⟨0,0,0,0⟩,false)):=by
 unfold vW;rw[iV];simp only[af,KD]
theorem wT(a b:ax):qC a b=some (bif dC a&&(dC b&&dC (Dh a b))then(Dh a b,true)else(⟨0,0,0,0⟩,false)):=by
 unfold qC;rw[iV,iV];simp only[af,KD];rw[show ax.mk (max a.x0 b.x0) (max a.y0 b.y0) (min a.x1 b.x1) (min a.y1 b.y1)=Dh a b from rfl,KO];simp only[af];generalize dC (Dh a b)=c;cases dC a<;>cases dC b<;>cases c<;>rfl
def GF(r:ax):Int:=i64.wrap (i64.wrap (r.x1 -r.x0)*i64.wrap (r.y1 -r.y0))
theorem AU{r:ax}(h:dC r=true):wN r=some (GF r):=by
 unfold wN;rw[KO,h];rfl
def Tt(x:ax)(n:Int)(y:ax):Int:=bif dC x&&(dC y&&dC (Dh x y))then i64.wrap (n+GF (Dh x y))else n
def Cy(a b:List ax):Int:=a.foldl (λ n x=>b.foldl (Tt x) n) 0
theorem aiI{α β:Type}(c:Bool)(a:α)(u v:β):(bif c then(a,u)else(a,v)).1=a:=by cases c<;>rfl
theorem FI(b:List ax)(x:ax)(hb:b.length<=1000)(hn:2000<=n)(m u v:Int):∃o,iter (oC n b x) n (m,(0:Int),u,v)=some o/\o.1=b.foldl (Tt x) m:=by
 refine KN (λ i (w:Int×Int×Int×Int)=>w.2.1=(i:Int)/\w.1=(b.take i).foldl (Tt x) m) b.length (λ (o:Int×Int×Int)=>o.1=b.foldl (Tt x) m) (λ i w hi hR=>?_) (λ w hR=>?_) n (by omega) _ ⟨rfl,rfl⟩
 ·obtain⟨w1,w2,w3,w4⟩:=w;obtain⟨h1,h2⟩:=hR;simp only at h1 h2;subst h1;have e:(b.take (i+1)).foldl (Tt x) m=Tt x w1 b[i]:=by rw[jD hi,List.foldl_append,<- h2];rfl
  simp only[oC,dK hi,aj,bq hi,af,wT];have e0:Tt x w1 b[i]=bif dC x&&(dC b[i]&&dC (Dh x b[i]))then i64.wrap (w1+GF (Dh x b[i]))else w1:=rfl;rw[e0]at e;cases hc:dC x&&(dC b[i]&&dC (Dh x b[i]))with
  |false=>
   rw[hc]at e;simp only[ak,Bool.not_false,aj,af];exact⟨_,rfl,bD (by omega),e.symm⟩
  |true=>
   rw[hc]at e;have hcc:dC (Dh x b[i])=true:=by
    revert hc;generalize dC (Dh x b[i])=c;cases c
    ·cases dC x<;>cases dC b[i]<;>simp
    ·simp
   simp only[aj,Bool.not_true,ak,AU hcc,af,jT];rw[show ∀u v:Int,sub [u,v] 0 2=[u,v]from λ_ _=>rfl,S9 _ _ (by omega)];simp only[af,KD];simp only[show ∀u v:Int,bj [u,v].length 2=true from λ_ _=>rfl,aj,af];refine⟨_,rfl,aV i,?_⟩;rw[e];exact aiI _ _ _ _
 ·obtain⟨w1,w2,w3,w4⟩:=w;obtain⟨h1,h2⟩:=hR;simp only at h1 h2;subst h1;simp only[oC,fe,ak];exact⟨_,rfl,by rw[h2,List.take_length]⟩
theorem MV(a b:List ax)(ha:a.length<=1000)(hb:b.length<=1000)(hn:2000<=n):∃q,tH n a b=some (Cy a b,q):=by
 unfold tH;obtain⟨o,h1,h2⟩:=KN (step:=oD n a b) (λ i (w:Int×Int×Int×Int)=>w.2.1=(i:Int)/\w.1=(a.take i).foldl (λ n x=>b.foldl (Tt x) n) 0) a.length (λ (o:Int×Int×Int)=>o.1=Cy a b) (λ i w hi hR=>by
  obtain⟨w1,w2,w3,w4⟩:=w;obtain⟨h1,h2⟩:=hR;simp only at h1 h2;subst h1;have⟨o,g1,g2⟩:=FI (n:=n) b a[i] hb hn w1 w3 w4;obtain⟨o1,o2,o3⟩:=o;simp only[oD,dK hi,aj,bq hi,af,g1];refine⟨_,rfl,bD (by omega),?_⟩;simp only at g2;rw[jD hi,List.foldl_append,<- h2,g2];rfl) (λ w hR=>by
  obtain⟨w1,w2,w3,w4⟩:=w;obtain⟨h1,h2⟩:=hR;simp only at h1 h2;subst h1;simp only[oD,fe,ak];exact⟨_,rfl,by rw[h2,List.take_length];rfl⟩) n (by omega) (0,0,1048576,0) ⟨rfl,rfl⟩
 obtain⟨o1,o2,o3⟩:=o;simp only at h2;subst h2;exact⟨_,by rw[h1];rfl⟩
def vN(zs:List dH)(area:List ax):List Int:=bif cC area then zs.map λz=>Cy area (zl z)else []
theorem MW(p:bZ)(a:List ax)(hz:p.zones.length<=100)(ha:a.length<=900)(hn:2000<=n):tJ n p a=some (vN p.zones a):=by
 unfold tJ vN;rw[kS (by omega) (by omega) (by omega)];simp only[af];cases cC a with
 |false=>rfl
 |true=>
  have:=fE (l:=p.zones) (step:=oF n p a) (λ i (s:List Int)=>((i:Int),s)) (λ z s=>s++[Cy a (zl z)]) (λ s=>s) (λ i s=>s.length<=i)
   (λ i hi s hs=>?_) (λ s hs=>by simp[oF]) n (by omega) [] (aB _)
  ·rw[show ((0:Nat):Int)=0 from rfl]at this;simp only[Bool.not_true,ak,length_nil,aH,aj,this,af,cB];congr 1;have gen:∀(ys:List dH) (s:List Int),ys.foldl (λ s z=>s++[Cy a (zl z)]) s=s++ys.map λz=>Cy a (zl z):=by
    intro ys
    induction ys with
    |nil=>intro s;simp
    |cons y ys ih=>intro s;rw[foldl_cons,ih];simp
   exact gen p.zones []
  ·have cl:=ac0 p.zones[i];obtain⟨q,hq⟩:=MV (n:=n) a (zl p.zones[i]) (by omega) (by omega) hn;have ap:bP s.length s.length (sub ([Cy a (zl p.zones[i])]:List Int) 0 1).length 1 8=true:=dm (n:=1);simp only[oF,dK hi,aj,bq hi,af,O5 _ hn,cB,aH,hq,ap,eX];refine⟨?_,by simp;omega⟩;rw[bD (by omega)];rfl
theorem Ox(zs:List dH)(a:List ax):(vN zs a).length<=zs.length:=by
 unfold vN;cases cC a<;>simp
def uY(zs:List dH)(l:List Int)(m:Nat):Int:=(List.range m).foldl (λ (b:Int) i=>if (!((zs.getD i ⟨⟨#[]⟩,false,[]⟩).overlay)&&(decide (l.getD i 0>0)&&(decide (b<0) || decide (l.getD i 0>l.getD b.toNat 0))))=true then(i:Int)else b) (-1)
def Cz(zs:List dH)(l:List Int)(i:Nat):Bool:=decide ((i:Int)=uY zs l l.length) || ((zs.getD i ⟨⟨#[]⟩,false,[]⟩).overlay&&decide (l.getD i 0>0))
def A1(zs:List dH)(area:List ax):List ByteArray:=((List.range (vN zs area).length).filter (Cz zs (vN zs area))).map λi=>(zs.getD i ⟨⟨#[]⟩,false,[]⟩).name
theorem Oy(zs:List dH)(l:List Int):∀m,uY zs l m= -1\/∃k:Nat,k<m/\uY zs l m=(k:Int)
 | 0=> .inl rfl
 |m+1=>by
  have ih:=Oy zs l m;unfold uY;rw[List.range_succ,List.foldl_append];simp only[foldl_cons,List.foldl_nil];split
  ·exact .inr ⟨m,by omega,rfl⟩
  ·rcases ih with h |⟨k,h1,h2⟩
   ·exact .inl h
   ·exact .inr ⟨k,by omega,h2⟩
theorem FJ{α:Type}{l:List α}{i:Nat}(d:α)(h:i<l.length):l.getD i d=l[i]:=by simp[h]
theorem MX(p:bZ)(l:List Int)(hl:l.length<=p.zones.length)(hz:p.zones.length<=100)(hn:2000<=n):iter (oG p l) n (((-1):Int),(0:Int))=some (uY p.zones l l.length):=by
 have main:=lH (step:=oG p l) (λ i=>(uY p.zones l i,(i:Int))) l.length (uY p.zones l l.length) (λ i hi=>?_) (by simp[oG]) n (by omega)
 ·exact main
 ·have hz':i<p.zones.length:=by omega
  have e:uY p.zones l (i+1)=if (!(p.zones[i]).overlay&&(decide (l[i]>0)&&(decide (uY p.zones l i<0) || decide (l[i]>l.getD (uY p.zones l i).toNat 0))))=true then(i:Int)else uY p.zones l i:=by
   conv=>lhs;unfold uY
   rw[List.range_succ,List.foldl_append];simp only[foldl_cons,List.foldl_nil,FJ _ hz',FJ _ hi];rfl
  rw[e];rcases Oy p.zones l i with h |⟨k,h1,h2⟩
  ·rw[h];have d:decide ((-1:Int)<0)=true:=rfl;simp only[oG,dK hi,aj,bF hi,bJ hi,af,bq hz',d,KD,Bool.true_or,Bool.and_true,aV i];cases (p.zones[i]).overlay<;>cases decide (l[i]>0)<;>rfl
  ·rw[h2];have d:decide ((k:Int)<0)=false:=(by simp);have hk:k<l.length:=(by omega);simp only[oG,dK hi,aj,bF hi,bJ hi,af,bq hz',d,KD,Bool.false_or,ak,bF hk,bJ hk,Int.toNat_natCast,FJ _ hk,aV i];cases (p.zones[i]).overlay<;>cases decide (l[i]>0)<;>cases decide (l[i]>l[k])<;>rfl
theorem Yw(p:bZ)(a:List ax)(hz:p.zones.length<=100)(ha:a.length<=900)(hn:2000<=n):AA n p a=some (A1 p.zones a):=by
 unfold AA;have sl:=Ox p.zones a;rw[MW p a hz ha hn];simp only[af];rw[MX p _ sl hz hn];simp only[af,length_nil,aH,aj];unfold A1;generalize hL:vN p.zones a=l at*
 have:=fE (l:=List.range l.length) (step:=vD p l (uY p.zones l l.length)) (λ i (s:List ByteArray)=>((i:Int),s)) (λ i s=>bif Cz p.zones l i then s++[(p.zones.getD i ⟨⟨#[]⟩,false,[]⟩).name]else s) (λ s=>s) (λ i s=>s.length<=i)
  (λ i hi s hs=>?_) (λ s hs=>by rw[List.length_range];simp[vD]) n (by rw[List.length_range];omega) [] (aB _)
 ·rw[show ((0:Nat):Int)=0 from rfl]at this;simp only[this,af,cB,aH,aj];congr 1;have gen:∀(ys:List Nat)(s:List ByteArray),ys.foldl (λ s i=>bif Cz p.zones l i then s++[(p.zones.getD i ⟨⟨#[]⟩,false,[]⟩).name]else s) s=s++(ys.filter (Cz p.zones l)).map λi=>(p.zones.getD i ⟨⟨#[]⟩,false,[]⟩).name:=by
   intro ys
   induction ys with
   |nil=>intro s;simp
   |cons y ys ih=>
    intro s;rw[foldl_cons,ih,List.filter_cons];cases Cz p.zones l y<;>simp
  exact gen (List.range l.length) []
 ·rw[List.length_range]at hi;have hz':i<p.zones.length:=by omega
  rw[List.getElem_range];have ap:bP s.length s.length (sub ([(p.zones[i]).name]:List ByteArray) 0 1).length 1 16=true:=dm (n:=1);have hb:((i:Int)==uY p.zones l l.length)=decide ((i:Int)=uY p.zones l l.length):=by rw[kC];simp
  simp only[vD,dK hi,aj,bF hi,bJ hi,af,bq hz',hb,KD,ap,eX,aH,Cz,FJ _ hz',FJ _ hi,aV i];cases decide ((i:Int)=uY p.zones l l.length)<;>cases (p.zones[i]).overlay<;>cases decide (l[i]>0)<;>refine⟨rfl,?_⟩<;>simp<;>omega
theorem aiJ(zs:List dH)(a:List ax):(A1 zs a).length<=zs.length:=by
 unfold A1;rw[length_map];have h1:=length_filter_le (Cz zs (vN zs a)) (List.range (vN zs a).length);rw[List.length_range]at h1;have:=Ox zs a;omega
def iz(a b:ByteArray):Bool:=ByteArray.toList a==ByteArray.toList b
theorem rY{l:List ByteArray}{a:ByteArray}(hl:l.length<1099511627776)(hn:l.length<n):eZ n l a=some (l.any (iz a)):=by
 unfold eZ;have e:pV n l a=X9 n (λ x=>ByteArray.toList a==ByteArray.toList x) l:=by kernel_rfl
 rw[e,Oj hl hn,af,ve];rfl
theorem oK{l:List ByteArray}{φ:(ByteArray×Unit)->Option Bool}(p:ByteArray->Bool)(h:∀x∈l,φ (x,())=some (p x))(hl:l.length<1099511627776)(hn:l.length<n):fA n l φ=some (l.any p):=by
 unfold fA;have e:oV n l φ=ul n l φ:=by kernel_rfl
 rw[e,gT p h hl hn,af,ve]
def Qs(r:aO)(zs:List ByteArray):Bool:=(decide (r.zones=[]) || r.zones.any λz=>zs.any (iz z))&&!(r.except.any λz=>zs.any (iz z))
theorem MZ(r:aO)(zs:List ByteArray)(h1:r.zones.length<=100)(h2:r.except.length<=100)(h3:zs.length<=100)(hn:2000<=n):pz n r zs=some (Qs r zs):=by
 have hf:∀x:ByteArray,jH n x zs=some (zs.any (iz x)):=λx=>by unfold jH;rw[rY (by omega) (by omega)];rfl
 unfold pz Qs;rw[oK (λ z=>zs.any (iz z)) (λ x _=>hf x) (by omega) (by omega),oK (λ z=>zs.any (iz z)) (λ x _=>hf x) (by omega) (by omega)];simp only[af,KD];have e:((r.zones.length:Int)==0)=decide (r.zones=[]):=by
  rw[kC,beq_iff_eq,aR];constructor
  ·intro h;exact List.length_eq_zero_iff.1 (by omega)
  ·intro h;rw[h];rfl
 rw[e];cases decide (r.zones=[])<;>cases (r.zones.any λz=>zs.any (iz z))<;>cases (r.except.any λz=>zs.any (iz z))<;>rfl
def pJ(zs:List ByteArray)(day:Int)(r:aO):Bool:=decide (r.from_<=day)&&((r.i6==0 || decide (day<r.i6))&&Qs r zs)
def M0(rules:List aO)(zs:List ByteArray)(day:Int):List Nat:=(List.range rules.length).filter λi=>(rules[i]?).any (pJ zs day)
abbrev I6(r:aO):Prop:=r.zones.length<=100/\r.except.length<=100
theorem O6(p:bZ)(zs:List ByteArray)(day:Int)(hr:∀r∈p.rules,I6 r)(hl:p.rules.length<=100)(h3:zs.length<=100)(hn:2000<=n):ru n p zs day=some ((M0 p.rules zs day).map λ(i:Nat)=>(i:Int)):=by
 unfold ru M0
 have:=fE (l:=List.range p.rules.length) (step:=pW n p zs day) (λ i (s:List Int)=>((i:Int),s)) (λ i s=>bif(p.rules[i]?).any (pJ zs day)then s++[(i:Int)]else s) (λ s=>s) (λ i s=>s.length<=i)
  (λ i hi s hs=>?_) (λ s hs=>by rw[List.length_range];simp[pW]) n (by rw[List.length_range];omega) [] (aB _)
 ·rw[show ((0:Nat):Int)=0 from rfl]at this;simp only[length_nil,aH,aj,this,af,cB];congr 1;have gen:∀(ys:List Nat)(s:List Int),ys.foldl (λ s (i:Nat)=>bif(p.rules[i]?).any (pJ zs day)then s++[(i:Int)]else s) s=s++(ys.filter λi=>(p.rules[i]?).any (pJ zs day)).map λ(i:Nat)=>(i:Int):=by
   intro ys
   induction ys with
   |nil=>intro s;simp
   |cons y ys ih=>
    intro s;rw[foldl_cons,ih,List.filter_cons];cases (p.rules[y]?).any (pJ zs day)<;>simp
  exact gen (List.range p.rules.length) []
 ·rw[List.length_range]at hi;rw[List.getElem_range];obtain⟨o1,o2⟩:=hr _ (getElem_mem hi);have ap:bP s.length s.length (sub ([(i:Int)]:List Int) 0 1).length 1 8=true:=dm (n:=1);have eg:(p.rules[i]?).any (pJ zs day)=pJ zs day p.rules[i]:=by rw[cZ hi];rfl
  rw[eg];simp only[pW,dK hi,aj,bq hi,af,MZ _ zs o1 o2 h3 hn,KD,ap,eX,aH,pJ,aV i];cases decide ((p.rules[i]).from_<=day)<;>cases (p.rules[i]).i6==0<;>cases decide (day<(p.rules[i]).i6)<;>cases Qs p.rules[i] zs<;>refine⟨rfl,?_⟩<;>simp<;>omega
def Tv(p:dI):Bool:=decide (0<=p.side/\p.side<=3)&&(decide (0<=p.base/\p.base<=4096)&&(decide (0<=p.num/\p.num<=4096)&&decide (1<=p.den/\p.den<=4096)))
theorem ahp(p:dI):Tv p=true↔(0<=p.side/\p.side<=3)/\(0<=p.base/\p.base<=4096)/\(0<=p.num/\p.num<=4096)/\(1<=p.den/\p.den<=4096):=by simp only[Tv,aJ,aR]
theorem O7(a b c:Int):mH a b c=some (decide (b<=a/\a<=c)):=by
 unfold mH;by_cases h1:b<=a
 ·have d:decide (b<=a)=true:=by simpa using h1
  rw[d,aj];congr 1;rw[kC];simp[h1]
 ·have d:decide (b<=a)=false:=by simpa using h1
  rw[d,ak];congr 1;rw[kC];simp[h1]
theorem Tw(p:dI):yH p=some (Tv p):=by
 unfold yH Tv;simp only[O7,af,KD];generalize decide (0<=p.side/\p.side<=3)=a;generalize decide (0<=p.base/\p.base<=4096)=b;generalize decide (0<=p.num/\p.num<=4096)=c;cases a<;>cases b<;>cases c<;>rfl
theorem zm{l:List dI}{φ:(dI×Unit)->Option Bool}(p:dI->Bool)(h:∀x∈l,φ (x,())=some (p x))(hl:l.length<1099511627776)(hn:l.length<n):jX n l φ=some (l.any p):=by
 unfold jX;have e:qh n l φ=ul n l φ:=by kernel_rfl
 rw[e,gT p h hl hn,af,ve]
def yQ(b:ax)(l:List dI):Bool:=dC b&&!(l.any λp=>!Tv p)
theorem Tx(b:ax)(l:List dI)(hl:l.length<=1000)(hn:2000<=n):yI n b l=some (yQ b l):=by
 unfold yI yQ;rw[iV,zm (λ p=>!Tv p) (λ p _=>by show rz p=_;unfold rz;rw[Tw];rfl) (by omega) (by omega)];simp only[af,KD];cases dC b<;>rfl
theorem ac1{a n:Int}(hn:0<n):(if Int.tmod a n<0 then Int.tdiv a n -1 else Int.tdiv a n)=a/n:=by
 have h1:=Int.mul_ediv_add_emod a n;have h2:=Int.emod_nonneg a (by omega:n≠0);have h3:=Int.emod_lt_of_pos a hn;rcases Int.le_total 0 a with h |h
 ·have e1:Int.tmod a n=a%n:=Int.tmod_eq_emod_of_nonneg h;have e2:Int.tdiv a n=a/n:=Int.tdiv_eq_ediv_of_nonneg h;rw[e1,e2,bf (by omega)]
 ·obtain⟨b,rfl⟩:∃b,a= -b:=⟨-a,by omega⟩;have hb:0<=b:=by omega
  have e1:Int.tmod (-b) n= -(b%n):=by rw[Int.neg_tmod,Int.tmod_eq_emod_of_nonneg hb]
  have e2:Int.tdiv (-b) n= -(b/n):=by rw[Int.neg_tdiv,Int.tdiv_eq_ediv_of_nonneg hb]
  have g1:=Int.mul_ediv_add_emod b n;have g2:=Int.emod_nonneg b (by omega:n≠0);have g3:=Int.emod_lt_of_pos b hn;rw[e1,e2];by_cases hm:b%n=0
  ·rw[bf (by omega)];have:(-b)/n= -(b/n):=by
    refine(Int.ediv_eq_iff_of_pos hn).2 ?_;constructor
    ·rw[Int.neg_mul,Int.mul_comm (b/n)];omega
    ·rw[Int.neg_mul,Int.mul_comm (b/n)];omega
   omega
  ·rw[bn (by omega)];have:(-b)/n= -(b/n) -1:=by
    refine(Int.ediv_eq_iff_of_pos hn).2 ?_;constructor
    ·rw[Int.sub_mul,Int.neg_mul,Int.mul_comm (b/n)];omega
    ·rw[Int.sub_mul,Int.neg_mul,Int.mul_comm (b/n)];omega
   omega
theorem KP{a n:Int}(hn:0<n)(ha: -4611686018427387904<=a/\a<=4611686018427387904):rC a n=some (a/n):=by
 have nz:(n !=0)=true:=by simp;omega
 have hb: -4611686018427387904<=a/n/\a/n<=4611686018427387904:=by
  constructor
  ·rw[Int.le_ediv_iff_mul_le hn];have: -4611686018427387904*n<= -4611686018427387904:=(by omega);omega
  ·rcases Int.le_total 0 a with h |h
   ·have:=Int.ediv_le_self n h;omega
   ·have:a/n<=0:=by
     have:=(Int.ediv_lt_iff_lt_mul (a:=a) (b:=1) hn).2 (by omega);omega
    omega
 have hf:=ac1 (a:=a) hn;have ht: -4611686018427387904<=Int.tdiv a n/\Int.tdiv a n<=4611686018427387905:=by split at hf<;>omega
 unfold rC;simp only[nz,aj];rw[cK (x:=Int.tdiv a n),cK (x:=Int.tdiv a n -1),<- hf];by_cases h:Int.tmod a n<0
 ·have d:decide (Int.tmod a n<0)=true:=by simpa using h
  rw[d,bn h];rfl
 ·have d:decide (Int.tmod a n<0)=false:=by simpa using h
  rw[d,bf h];rfl
def Ty(b:ax)(side x y:Int):Int:=if side=0 then x -b.x0 else if side=1 then b.x1 -1 -x else if side=2 then y -b.y0 else b.y1 -1 -y
def SZ(b:ax)(p:dI)(x y:Int):Int:=p.base+p.num*Ty b p.side x y/p.den
def Vi(b:ax)(l:List dI)(x y:Int):Int:=l.foldl (λ h p=>min h (SZ b p x y)) 4096
abbrev InG(x y:Int):Prop:=(0<=x/\x<1048576)/\(0<=y/\y<1048576)
theorem aaL{b:ax}(hb:dC b=true){x y:Int}(h:InG x y)(side:Int): -1048576<=Ty b side x y/\Ty b side x y<=1048576:=by
 simp only[dC,aJ,aR]at hb;obtain⟨h1,h2⟩:=h;unfold Ty;split
 ·omega
 ·split
  ·omega
  ·split<;>omega
theorem afq{a d:Int}(ha:0<=a/\a<=4096)(hd: -1048576<=d/\d<=1048576): -4294967296<=a*d/\a*d<=4294967296:=by
 have h1:a*d<=a*1048576:=Int.mul_le_mul_of_nonneg_left hd.2 ha.1;have h2:a*(-1048576)<=a*d:=Int.mul_le_mul_of_nonneg_left hd.1 ha.1;omega
theorem afr{a n:Int}(hn:0<n)(ha: -4294967296<=a/\a<=4294967296): -4294967296<=a/n/\a/n<=4294967296:=by
 constructor
 ·rw[Int.le_ediv_iff_mul_le hn];omega
 ·rcases Int.le_total 0 a with h |h
  ·have:=Int.ediv_le_self n h;omega
  ·have:=(Int.ediv_lt_iff_lt_mul (a:=a) (b:=1) hn).2 (by omega);omega
theorem Yx{b:ax}{l:List dI}{x y:Int}(hb:dC b=true)(hp:∀p∈l,Tv p=true)(h:InG x y)(hl:l.length<=1000)(hn:2000<=n):Gx n b l x y=some (Vi b l x y):=by
 unfold Gx uQ;have hr:=hb;simp only[dC,aJ,aR]at hr;obtain⟨h1,h2⟩:=h;rw[cK (x:=x -b.x0),cK (x:=b.x1 -1),cK (x:=b.x1 -1 -x),cK (x:=y -b.y0),cK (x:=b.y1 -1),cK (x:=b.y1 -1 -y)];simp only[af];have:=mZ (l:=l) (step:=vG b l x y ⟨x -b.x0,b.x1 -1 -x,y -b.y0,b.y1 -1 -y⟩) (λ i (s:Int)=>(s,(i:Int))) (λ p s=>min s (SZ b p x y)) (λ s=>s) (λ i hi s=>?_) (λ s=>by simp[vG]) n (by omega) 4096
 ·rw[show ((0:Nat):Int)=0 from rfl]at this;rw[this];rfl
 ·obtain⟨s1,s2,s3,s4⟩:=(ahp _).1 (hp _ (getElem_mem hi));have ib:cH (l[i]).side 4=true:=by simp[cH];omega
  have g:bz ([x -b.x0,b.x1 -1 -x,y -b.y0,b.y1 -1 -y]:List Int) (l[i]).side=some (Ty b (l[i]).side x y):=by
   have hs:(l[i]).side=0\/(l[i]).side=1\/(l[i]).side=2\/(l[i]).side=3:=(by omega);rcases hs with e |e |e |e<;>rw[e]<;>simp[bz,Ty]
  have db:=aaL hb ⟨h1,h2⟩ (l[i]).side;have mb:=afq s3 db;have dv:=afr (n:=(l[i]).den) (by omega) mb;simp only[vG,dK hi,aj,bq hi,af,ib,g];rw[cK (x:=(l[i]).num*Ty b (l[i]).side x y),KP (by omega) (by omega)];simp only[af];rw[cK (x:=(l[i]).base+_),bD (by omega)];rfl
theorem aaM(b:ax)(l:List dI):yQ b l=true↔dC b=true/\∀p∈l,Tv p=true:=by
 unfold yQ;rw[aJ,Bool.not_eq_true',List.any_eq_false];simp
def Bi(x:fB):Bool:=decide (x.z0<0) || (decide (x.z0>=x.z1) || (decide (x.z1>4096) || (decide (x.area=[]) || !cC x.area)))
def wa(p:Option fB×fB):Bool:=Bi p.2 || p.1.any λq=>decide (q.z1>p.2.z0) || (q.z1==p.2.z0&&decide (q.area=p.2.area))
def zn(s:List fB):List (Option fB×fB):=(none::s.map some).zip s
def zo(s:List fB):Bool:=decide (s.length<=80)&&!((zn s).any wa)
theorem nV(s:List fB):(zn s).length=s.length:=by simp[zn]
theorem CB{s:List fB}{i:Nat}(h:i<(zn s).length):(zn s)[i]=(if h0:i=0 then none else some (s[i -1]'(by rw[nV]at h;omega)),s[i]'(by rw[nV]at h;exact h)):=by
 simp only[zn,List.getElem_zip,Prod.mk.injEq,and_true];cases i with
 |zero=>simp
 |succ i=>simp
theorem Oz{s:List fB}(ha:∀x∈s,x.area.length<=900)(hn:1000<=n):Fj n s=some (zo s):=by
 unfold Fj zo;by_cases h80:s.length<=80
 ·have d:decide ((s.length:Int)>80)=false:=by simp;omega
  have d2:decide (s.length<=80)=true:=by simpa using h80
  have z:∀l:List ax,(((l.length:Int))==0)=decide (l=[]):=λl=>by cases l<;>simp<;>omega
  have:=qx (l:=zn s) (step:=yJ n s) (λ i=>(i:Int)) wa () (λ _=>false) (λ i hi=>?_) ?_ n (by rw[nV];omega)
  ·rw[show ((0:Nat):Int)=0 from rfl]at this;rw[d,d2,this,<- MS];cases nD wa (zn s)<;>rfl
  ·rw[CB];rw[nV]at hi;have hi':decide ((i:Int)<(s.length:Int))=true:=(by simpa using hi);have h1:=ha _ (getElem_mem hi);simp only[yJ,hi',aj,bq hi,af,z,kS (n:=n) (l:=s[i].area) (by omega) (by omega) hn,wa];rw[bD (by omega)];have b:((bif decide (s[i].z0<0)then some true else bif decide (s[i].z0>=s[i].z1)then some true else bif decide (s[i].z1>4096)then some true else bif decide (s[i].area=[])then some true else some (!cC s[i].area)):Option Bool)=some (Bi s[i]):=by
    unfold Bi;cases decide (s[i].z0<0)<;>cases decide (s[i].z0>=s[i].z1)<;>cases decide (s[i].z1>4096)<;>cases decide (s[i].area=[])<;>rfl
   rw[b];simp only[af];cases Bi s[i]with
   |true=>simp[dx]
   |false=>
    by_cases h0:i=0
    ·subst h0;have:((((0:Nat):Int))==0)=true:=rfl;simp only[this,aj,ak,dQ,dif_pos,Option.any_none,Bool.or_false]
    ·have e0:((i:Int)==0)=false:=(by simp;omega);have w:i64.wrap ((i:Int) -1)=((i -1:Nat):Int):=lQ (by omega) (by omega);have h2:=ha _ (getElem_mem (show i -1<s.length by omega));simp only[e0,ak,w,bq (show i -1<s.length by omega),af,acX (n:=n) (a:=s[i -1].area) (b:=s[i].area) (by omega) (by omega),h0,dif_neg,not_false_eq_true,Option.any_some,Bool.false_or];cases decide (s[i -1].z1>s[i].z0)with
     |true=>simp[dx]
     |false=>
      cases s[i -1].z1==s[i].z0 with
      |false=>simp[dx]
      |true=>cases decide (s[i -1].area=s[i].area)<;>simp[dx]
  ·rw[nV];simp[yJ]
 ·have d:decide ((s.length:Int)>80)=true:=by simp;omega
  have d2:decide (s.length<=80)=false:=by simpa using h80
  rw[d,d2];rfl
structure Up(x:fB):Prop where
 lo:0<=x.z0
 lt:x.z0<x.z1
 hi:x.z1<=4096
 ne:x.area≠[]
 rt:cC x.area=true
def akm(s:List fB):Prop:=∀i (h:i+1<s.length),s[i].z1<=s[i+1].z0/\¬(s[i].z1=s[i+1].z0/\s[i].area=s[i+1].area)
theorem aaO(x:fB):Bi x=false↔Up x:=by
 unfold Bi;simp only[Bool.or_eq_false_iff,dL,Bool.not_eq_false'];constructor
 ·rintro⟨h1,h2,h3,h4,h5⟩;exact⟨by omega,by omega,by omega,h4,h5⟩
 ·rintro⟨h1,h2,h3,h4,h5⟩;exact⟨by omega,by omega,by omega,h4,h5⟩
theorem I7(s:List fB):zo s=true↔s.length<=80/\(∀ x∈s,Up x)/\akm s:=by
 unfold zo;rw[aJ,aR,Bool.not_eq_true',List.any_eq_false];refine and_congr_right λ_=>?_;constructor
 ·intro h;have key:∀i (hi:i<s.length),wa ((zn s)[i]'(by rw[nV];exact hi))=false:=λi hi=>by
   have:=h _ (getElem_mem (show i<(zn s).length by rw[nV];exact hi));simpa using this
  refine⟨λ x hx=>?_,λi hi=>?_⟩
  ·obtain⟨i,hi,rfl⟩:=mem_iff_getElem.1 hx;have:=key i hi;rw[CB]at this;unfold wa at this;rw[Bool.or_eq_false_iff]at this;exact(aaO _).1 this.1
  ·have:=key (i+1) hi;rw[CB]at this;unfold wa at this;rw[Bool.or_eq_false_iff]at this;have h2:=this.2;simp only[Nat.succ_ne_zero,dif_neg,not_false_eq_true,Option.any_some,Nat.add_sub_cancel,Bool.or_eq_false_iff,dL,Bool.and_eq_false_iff,beq_eq_false_iff_ne]at h2;refine⟨by omega,λ⟨e1,e2⟩=>?_⟩;rcases h2.2 with h3 |h3
   ·exact h3 e1
   ·exact h3 e2
 ·rintro⟨h1,h2⟩ p hp;obtain⟨i,hi,rfl⟩:=mem_iff_getElem.1 hp;rw[CB];rw[nV]at hi;unfold wa;have hb:=(aaO _).2 (h1 _ (getElem_mem hi));by_cases h0:i=0
  ·simp[h0]at hb ⊢;exact hb
  ·obtain⟨j,rfl⟩:∃j,i=j+1:=⟨i -1,by omega⟩;have⟨n1,n2⟩:=h2 j hi;simp only[Nat.succ_ne_zero,dif_neg,not_false_eq_true,Option.any_some,Nat.add_sub_cancel];rw[hb];simp only[Bool.false_or,Bool.or_eq_true,aR,aJ,beq_iff_eq];rintro (h |h)
   ·omega
   ·exact n2 h
theorem qH{l:List fB}{φ:(fB×Unit)->Option Bool}(p:fB->Bool)(h:∀x∈l,φ (x,())=some (p x))(hl:l.length<1099511627776)(hn:l.length<n):iG n l φ=some (l.any p):=by
 unfold iG rD;have:=qx (l:=l) (step:=kR l φ) (λ i=>(i:Int)) p () (λ i=>(i:Int)) (λ i hi=>?_) (by simp[kR]) n hn
 ·rw[show ((0:Nat):Int)=0 from rfl]at this;rw[this,<- MS];cases nD p l with
  |none=>rfl
  |some i=>simp<;>omega
 ·have hi':decide ((i:Int)<(l.length:Int))=true:=by simpa using hi
  simp only[kR,hi',aj,bq hi,af,h _ (getElem_mem hi)];rw[bD (by omega)];cases p l[i]<;>rfl
def Fl(s:List fB)(lot:Int)(e:lV):Bool:=e.lot==lot&&(cC e.area&&s.any λc=>decide (c.z1>e.top)&&GG c.area e.area)
def OA(l:List lV)(lot:Int)(s:List fB):Bool:=zo s&&!(l.any (Fl s lot))
theorem Vj{l:List lV}{lot:Int}{s:List fB}(hl:l.length<=900)(he:∀e∈l,e.area.length<=900)(ha:∀x∈s,x.area.length<=900)(hn:1000<=n):Cs n l lot s=some (OA l lot s):=by
 unfold Cs OA;rw[Oz ha hn];simp only[af];cases hr:zo s with
 |false=>rfl
 |true=>
 have l80:=((I7 s).1 hr).1;have:=qx (l:=l) (step:=tL n l lot s) (λ i=>(i:Int)) (Fl s lot) () (λ _=>false) (λ i hi=>?_) (by simp[tL]) n (by omega)
 ·rw[show ((0:Nat):Int)=0 from rfl]at this;simp only[Bool.not_true,ak];rw[this,<- MS];cases nD (Fl s lot) l<;>rfl
 ·have hi':decide ((i:Int)<(l.length:Int))=true:=by simpa using hi
  have h1:=he _ (getElem_mem hi);have cf:=qH (n:=n) (l:=s) (φ:=λy:fB×Unit=>pG n y.1 l[i]) (λ c=>decide (c.z1>l[i].top)&&GG c.area l[i].area) (λ c hc=>by
   have:=ha c hc;show pG n c l[i]=_;unfold pG;rw[acW (by omega) (by omega) (by omega) (by omega)];cases decide (c.z1>l[i].top)<;>rfl) (by omega) (by omega)
  simp only[tL,hi',aj,bq hi,af,kS (n:=n) (l:=l[i].area) (by omega) (by omega) hn,cf];rw[bD (by omega)];unfold Fl;cases h2:l[i].lot==lot with
  |false=>
   have:(l[i].lot !=lot)=true:=(by simp[bne,h2]);simp[this,dx]
  |true=>
   have:(l[i].lot !=lot)=false:=(by simp[bne,h2]);simp only[this,ak,af];cases cC l[i].area with
   |false=>simp[dx]
   |true=>cases s.any λc=>decide (c.z1>l[i].top)&&GG c.area l[i].area<;>simp[dx]
theorem aaP(r:ax):dC r=true↔(0<=r.x0/\r.x0<r.x1/\r.x1<=1048576)/\(0<=r.y0/\r.y0<r.y1/\r.y1<=1048576):=by simp only[dC,aJ,aR];omega
theorem GZ{b:ax}{l:List dI}(r:ax)(x:Int)(hb:dC b=true)(hp:∀p∈l,Tv p=true)(hr:dC r=true)(hx:0<=x/\x<1048576)(hl:l.length<=1000)(hn:2000<=n)(v:Int):
 iter (mU n b l r x) n (v,(0:Int))=some (min (min v (Vi b l x r.y0)) (Vi b l x (r.y1 -1))):=by
 have ho:=(aaP r).1 hr;have w:i64.wrap (r.y1 -1)=r.y1 -1:=cK (by omega) (by omega);have:=mZ (l:=[r.y0,r.y1 -1]) (step:=mU n b l r x) (λ i (s:Int)=>(s,(i:Int))) (λ y m=>min m (Vi b l x y)) (λ s=>s) (λ i hi s=>?_) (λ s=>by simp[mU]) n (by simp;omega) v
 ·rw[show ((0:Nat):Int)=0 from rfl]at this;exact this
 ·have h2:i<2:=by simpa using hi
  have yb:0<=([r.y0,r.y1 -1]:List Int)[i]/\([r.y0,r.y1 -1]:List Int)[i] <1048576:=by
   rcases i with _ |_ |i
   ·simp only[List.getElem_cons_zero];omega
   ·simp only[List.getElem_cons_succ,List.getElem_cons_zero];omega
   ·omega
  simp only[mU,show decide ((i:Int)<2)=true from decide_eq_true (by omega),dK h2,aj,bF h2,w,bJ hi,af,Yx hb hp ⟨hx,yb⟩ hl hn,aV i]
def NL(b:ax)(l:List dI)(v:Int)(r:ax):Int:=min (min (min (min v (Vi b l r.x0 r.y0)) (Vi b l r.x0 (r.y1 -1))) (Vi b l (r.x1 -1) r.y0)) (Vi b l (r.x1 -1) (r.y1 -1))
theorem G5{b:ax}{l:List dI}(r:ax)(hb:dC b=true)(hp:∀p∈l,Tv p=true)(hr:dC r=true)(hl:l.length<=1000)(hn:2000<=n)(v:Int):
 iter (mV n b l r) n (v,(0:Int))=some (NL b l v r):=by
 have ho:=(aaP r).1 hr;have w:i64.wrap (r.x1 -1)=r.x1 -1:=cK (by omega) (by omega);have:=mZ (l:=[r.x0,r.x1 -1]) (step:=mV n b l r) (λ i (s:Int)=>(s,(i:Int))) (λ x m=>min (min m (Vi b l x r.y0)) (Vi b l x (r.y1 -1))) (λ s=>s) (λ i hi s=>?_) (λ s=>by simp[mV]) n (by simp;omega) v
 ·rw[show ((0:Nat):Int)=0 from rfl]at this;exact this
 ·have h2:i<2:=by simpa using hi
  have xb:0<=([r.x0,r.x1 -1]:List Int)[i]/\([r.x0,r.x1 -1]:List Int)[i] <1048576:=by
   rcases i with _ |_ |i
   ·simp only[List.getElem_cons_zero];omega
   ·simp only[List.getElem_cons_succ,List.getElem_cons_zero];omega
   ·omega
  simp only[mV,show decide ((i:Int)<2)=true from decide_eq_true (by omega),dK h2,aj,bF h2,w,bJ hi,af,GZ r _ hb hp hr xb hl hn,aV i]
def vA(b:ax)(l:List dI)(a:List ax):Int:=a.foldl (NL b l) 4096
theorem O8{b:ax}{l:List dI}{a:List ax}(hb:dC b=true)(hp:∀p∈l,Tv p=true)(ha:∀r∈a,dC r=true)(hal:a.length<=1000)(hl:l.length<=1000)(hn:2000<=n):vH n b l a=some (vA b l a):=by
 unfold vH;have:=mZ (l:=a) (step:=pY n b l a) (λ i (s:Int)=>(s,(i:Int))) (λ r m=>NL b l m r) (λ s=>s) (λ i hi s=>?_) (λ s=>by simp[pY]) n (by omega) 4096
 ·rw[show ((0:Nat):Int)=0 from rfl]at this;rw[this];rfl
 ·simp only[pY,dK hi,aj,bq hi,af,G5 a[i] hb hp (ha _ (getElem_mem hi)) hl hn,aV i]
theorem aiK(r:ax):dC r=true↔(0<=r.x0/\r.x0<r.x1/\r.x1<=1048576)/\(0<=r.y0/\r.y0<r.y1/\r.y1<=1048576):=by simp only[dC,aJ,aR];omega
abbrev AD(t:fU):Prop:=t.area.length<=900/\t.from_.length*8<=140737488355328
theorem ac3{t:fU}(h:AD t):Kg t=some t:=by
 unfold Kg;have h2:=h.2;rw[ML (by omega),af,show Ce t.from_=some t.from_ from Ol (b:=8) (by omega) (by simp only[maxLen];omega),af];simp only[cB,aH,aj]
theorem aft{land:List fU}{id:Int}(h:∀t∈land,AD t)(hl:land.length<1099511627776)(hn:land.length<n):Kh n land id=some (lM land id):=by
 unfold Kh;have:=qx (l:=land) (step:=Cf land id) (λ i=>(i:Int)) (λ t=>t.id==id) () (λ i=>(land.getD i N1,true)) (λ i hi=>?_) ?_ n hn
 ·rw[show ((0:Nat):Int)=0 from rfl]at this;rw[this];unfold lM;rcases Tp (λ t:fU=>t.id==id) land with ⟨i,hi,h1,h2⟩ |⟨h1,h2⟩
  ·rw[h1,h2];simp[hi]
  ·rw[h1,h2];rfl
 ·simp only[Cf,dK hi,aj,bq hi,af,ac3 (h _ (getElem_mem hi))];cases land[i].id==id with
  |true=>simp[hi]
  |false=>simp only[ak];rw[bD (by omega)]
 ·simp[Cf]
theorem M4{land:List fU}(h:∀t∈land,AD t)(id:Int):AD (lM land id).1:=by
 unfold lM;split
 ·rename_i t ht;exact h t (List.mem_of_find?_eq_some ht)
 ·simp[AD,N1]
structure akz(t:dS):Prop where
 rules:t.aE.length<=20
 HX:∀r∈t.aE,I6 r
 zones:t.b8.length<=20
 land:t.land.length<=20
 lots:∀l∈t.land,AD l
 b9:t.b9.length<=5
 SP:∀e∈t.b9,e.area.length<=10
theorem OC{α:Type}(p:α->Bool):∀l:List α,((List.range l.length).filter λi=>(l[i]?).any p).filterMap (λ i=>l[i]?)=l.filter p
 |[]=>rfl
 |a::l=>by
  have ih:=OC p l;rw[bI,List.range_succ_eq_map,List.filter_cons,List.filter_cons];have e:(List.filter (λ i=>((a::l)[i]?).any p) (List.map Nat.succ (List.range l.length))).filterMap (λ i=>(a::l)[i]?)=l.filter p:=by
   rw[List.filter_map,List.filterMap_map];exact ih
  cases hp:p a with
  |true=>simp[hp];simpa using e
  |false=>simp[hp];simpa using e
def W9(a r:ax):ax:=⟨min a.x0 r.x0,min a.y0 r.y0,max a.x1 r.x1,max a.y1 r.y1⟩
def W4:List ax->ax
 |[]=>⟨0,0,0,0⟩
 |r::l=>l.foldl W9 r
def Qt(a:List ax):ax×Bool:=bif decide (a≠[])&&cC a then(W4 a,true)else(⟨0,0,0,0⟩,false)
theorem aaR{a:List ax}(ha:a≠[])(hv:∀r∈a,dC r=true)(hl:a.length<=900)(hn:2000<=n):Kw n a=some (W4 a,true):=by
 unfold Kw;have:=mZ (l:=a.zip (List.range a.length)) (step:=yG a) (λ i (s:Bool×Int×Int×Int×Int)=>(s.1,(i:Int),s.2)) (λ p s=>bif !s.1 then(true,p.1.x0,p.1.y0,p.1.x1,p.1.y1)else(s.1,min s.2.1 p.1.x0,min s.2.2.1 p.1.y0,max s.2.2.2.1 p.1.x1,max s.2.2.2.2 p.1.y1)) (λ s=>s) (λ i hi s=>?_) (λ s=>?_) n (by simp;omega) (false,0,0,0,0)
 ·rw[show ((0:Nat):Int)=0 from rfl]at this;simp only at this;rw[this];cases a with
  |nil=>exact absurd rfl ha
  |cons r l=>
   have gen:∀(l:List ax) (k:List Nat) (s:ax),l.length<=k.length->(l.zip k).foldl (λ (s:Bool×Int×Int×Int×Int) p=>bif !s.1 then(true,p.1.x0,p.1.y0,p.1.x1,p.1.y1)else(s.1,min s.2.1 p.1.x0,min s.2.2.1 p.1.y0,max s.2.2.2.1 p.1.x1,max s.2.2.2.2 p.1.y1)) (true,s.x0,s.y0,s.x1,s.y1)=(true,(l.foldl W9 s).x0,(l.foldl W9 s).y0,(l.foldl W9 s).x1,(l.foldl W9 s).y1):=by
    intro l
    induction l with
    |nil=>intro k s _;rfl
    |cons r l ih=>
     intro k s hk;cases k with
     |nil=>simp at hk
     |cons j k=>
      rw[List.zip_cons_cons,foldl_cons,foldl_cons];exact ih k (W9 s r) (by simpa using hk)
   rw[bI,List.range_succ_eq_map,List.zip_cons_cons,foldl_cons];simp only[Bool.not_false,aj];rw[gen l _ r (by simp)];rfl
 ·have hi':i<a.length:=by simpa using hi
  obtain⟨s1,s2,s3,s4,s5⟩:=s;have ok:=hv _ (getElem_mem hi');simp only[yG,dK hi',aj,bq hi',af,iV,ok,Bool.not_true,ak,KD,List.getElem_zip,aV i]
 ·obtain⟨s1,s2,s3,s4,s5⟩:=s;have:(a.zip (List.range a.length)).length=a.length:=by simp
  simp only[this,yG,fe,ak]
theorem Yy(a:List ax)(hl:a.length<=900)(hn:2000<=n):Gw n a=some (Qt a):=by
 unfold Gw Qt;cases a with
 |nil=>rfl
 |cons r l=>
  have e:((((r::l).length:Nat):Int)==0)=false:=by simp;omega
  have e2:decide (r::l≠[])=true:=by simp
  rw[kS (by omega) (by omega) (by omega),e,e2];simp only[ak,af,Bool.true_and];cases hr:cC (r::l)with
  |false=>rfl
  |true=>
   simp only[Bool.not_true,ak];rw[aaR (by simp) (rJ hr).1 hl hn];rfl
theorem AX{V O:Type}{step:V->Option (V⊕O)}(f:Nat->V){s:V}(N:Nat)(o:O)(h0:s=f 0)
 (h1:∀i,i<N->step (f i)=some (.inl (f (i+1)))) (h2:step (f N)=some (.inr o)) (n:Nat) (hn:N<n):iter step n s=some o:=by rw[h0];exact lH f N o h1 h2 n hn
def tb(f:Nat->Nat->Bool):List Bool:=(List.range 144).map λi=>f (i/12) (i%12)
def upd(f:Nat->Nat->Bool)(a b:Nat)(v:Bool):Nat->Nat->Bool:=λx y=>if x=a/\y=b then v else f x y
inductive Tc(e:Nat->Nat->Bool):Nat->Nat->Prop
 |one {a b:Nat}:a<12->b<12->e a b=true->Tc e a b
 |trans {a b c:Nat}:Tc e a b->Tc e b c->Tc e a c
theorem Tc.lt{e:Nat->Nat->Bool}{a b:Nat}(h:Tc e a b):a<12/\b<12:=by
 induction h with
 |one h1 h2 _=>exact⟨h1,h2⟩
 |trans _ _ i1 i2=>exact⟨i1.1,i2.2⟩
def fI(v:aC):ax:=ax.mk v.bm v.bx v.bk v.bu
def okV(v:aC):Bool:=dC (fI v)&&(decide (0<=v.cP)&&(decide (v.cP<v.cz)&&(decide (v.cz<=4096)&&((decide (v.use=0) || decide (v.units=0))&&(decide (0<=v.use)&&(decide (v.use<6)&&(decide (0<=v.units)&&decide (v.units<=1048576))))))))
theorem rP(v:aC):fF v=some (okV v):=by
 unfold fF okV;rw[iV];have e1:decide (v.cP<0)=!decide (0<=v.cP):=by rw[<- decide_not,decide_eq_decide];omega
 have e2:decide (v.cP>=v.cz)=!decide (v.cP<v.cz):=by rw[<- decide_not,decide_eq_decide];omega
 have e3:decide (v.cz>4096)=!decide (v.cz<=4096):=by rw[<- decide_not,decide_eq_decide];omega
 have e4:(v.use !=0)=!decide (v.use=0):=by by_cases h:v.use=0<;>simp[h]
 have e5:(v.units !=0)=!decide (v.units=0):=by by_cases h:v.units=0<;>simp[h]
 rw[e1,e2,e3,e4,e5,show ax.mk v.bm v.bx v.bk v.bu=fI v from rfl];simp only[ge_iff_le];generalize dC (fI v)=a1;generalize decide (0<=v.cP)=a2;generalize decide (v.cP<v.cz)=a3;generalize decide (v.cz<=4096)=a4;generalize decide (v.use=0)=a5;generalize decide (v.units=0)=a6;generalize decide (0<=v.use)=a7;generalize decide (v.use<6)=a8;generalize decide (0<=v.units)=a9;generalize decide (v.units<=1048576)=iv;cases a1<;>cases a2<;>cases a3<;>cases a4<;>cases a5<;>cases a6<;>cases a7<;>cases a8<;>cases a9<;>rfl
theorem KQ{v:aC}(h:okV v=true):dC (fI v)=true:=by rw[okV,aJ]at h;exact h.1
def gq(d:aP):List aC:=d.phases.flatMap (·.az)
theorem ec{l:List bU}(h:∀p∈l,p.az.length<=1000):(l.flatMap (·.az)).length<=l.length*1000:=by
 induction l with
 |nil=>simp
 |cons p l ih=>
  have h1:=h p (by simp);have h2:=ih λq hq=>h q (by simp[hq]);simp only[List.flatMap_cons,dG,bI];omega
def Tz(d:aP):Prop:=d.phases.length<=1000/\∀p∈d.phases,p.az.length<=1000
theorem TA{d:aP}(h:Tz d)(hn:1001<=n):mO n d 0 (d.phases.length:Int)=some (gq d):=by
 obtain⟨h1,h2⟩:=h;unfold mO;have key:=AX (step:=mh d 0 (d.phases.length:Int)) (λ i=>((i:Int),(d.phases.take i).flatMap (·.az))) (s:=((0:Int),([]:List aC))) d.phases.length (gq d) rfl (λ i hi=>by
  have e2:decide ((i:Int)>=0)=true:=by simp
  have hl:=ec (l:=d.phases.take i) λp hp=>h2 p (List.mem_of_mem_take hp);rw[length_take]at hl;have hv:=h2 _ (getElem_mem hi);generalize hL:(d.phases.take i).flatMap (·.az)=L at hl;have hap:bP L.length L.length d.phases[i].az.length d.phases[i].az.length 72=true:=dm (by omega) (by simp only[maxLen];omega);simp only[mh,dK hi,aj,bq hi,af,e2,hap,eX,aH,aV i];rw[jD hi,List.flatMap_append,hL];simp only[List.flatMap_cons,List.flatMap_nil,append_nil]) (by simp only[mh,fe,ak,aH,aj,List.take_length,gq]) n (by omega)
 have hz:bj 0 ([]:List aC).length=true:=rfl;simp only[hz,aj,key,af,cB,aH]
def N0(v:aC):Int:=(ko v).getD 0
theorem TB(v:aC):ko v=some (N0 v):=by
 unfold N0 ko;rw[rP];cases v.extra<;>cases okV v<;>rfl
def Yz(v:aC):Int:=(nu v).getD 0
theorem aaS(v:aC):nu v=some (Yz v):=by
 unfold Yz nu;rw[rP,TB];cases h:okV v with
 |false=>rfl
 |true=>
  have e:=AU (KQ h);unfold fI at e;simp only[af,Bool.not_true,ak,e,Option.getD_some]
theorem ajM(a1:List bS)(a8:List ax){a9:List aC}(hl:a9.length<=1000)(hn:1001<=n):∃r,∀(a0:List eH)(a2:List dH)(a3:List aO)(a4:List fM)(a5:List eD)(a6:List bO)(a7:Int),jU n a0 a1 a2 a3 a4 a5 a6 a7 a8 a9=some (r,a0,a1,a2,a3,a4,a5,a6,a7,a8,a9):=by
 have key:=mZ (l:=a9) (step:=je a9) (λ i (s:Int)=>(s,(i:Int))) (λ v s=>i64.wrap (s+Yz v)) (λ s=>s) (λ i hi s=>by simp only[je,dK hi,aj,bF hi,bJ hi,af,aaS,aV i]) (λ s=>by simp only[je,fe,ak]) n (by omega) 0;rw[show ((0:Nat):Int)=0 from rfl]at key;unfold jU oW;simp only[key,af,aH,aj];exact⟨_,λ_ _ _ _ _ _ _=>rfl⟩
theorem ajN(a1:List bS)(a8:List ax){a9:List aC}(hl:a9.length<=1000)(hn:1001<=n):∃r,∀(a0:List eH)(a2:List dH)(a3:List aO)(a4:List fM)(a5:List eD)(a6:List bO)(a7:Int),jV n a0 a1 a2 a3 a4 a5 a6 a7 a8 a9=some (r,a0,a1,a2,a3,a4,a5,a6,a7,a8,a9):=by
 have key:=mZ (l:=a9) (step:=jh a9) (λ i (s:Int)=>(s,(i:Int))) (λ v s=>i64.wrap (s+v.units)) (λ s=>s) (λ i hi s=>by simp only[jh,dK hi,aj,bF hi,bJ hi,af,nC,aV i]) (λ s=>by simp only[jh,fe,ak]) n (by omega) 0;rw[show ((0:Nat):Int)=0 from rfl]at key;unfold jV oZ;simp only[key,af,aH,aj];exact⟨_,λ_ _ _ _ _ _ _=>rfl⟩
theorem aht(a1:List bS)(a8:List ax){a9:List aC}(hl:a9.length<=1000)(hn:1001<=n):∃r,∀(a0:List eH)(a2:List dH)(a3:List aO)(a4:List fM)(a5:List eD)(a6:List bO)(a7:Int),jf n a0 a1 a2 a3 a4 a5 a6 a7 a8 a9=some (r,a0,a1,a2,a3,a4,a5,a6,a7,a8,a9):=by
 have key:=mZ (l:=a9) (step:=gD a9) (λ i (s:Int)=>(s,(i:Int))) (λ v s=>max s (N0 v)) (λ s=>s) (λ i hi s=>by simp only[gD,dK hi,aj,bF hi,bJ hi,af,TB,aV i]) (λ s=>by simp only[gD,fe,ak]) n (by omega) 0;rw[show ((0:Nat):Int)=0 from rfl]at key;unfold jf kY;simp only[key,af,aH,aj];exact⟨_,λ_ _ _ _ _ _ _=>rfl⟩
theorem ahu(a1:List bS)(a8:List ax){a9:List aC}(hl:a9.length<=1000)(hn:1001<=n):∃r,∀(a0:List eH)(a2:List dH)(a3:List aO)(a4:List fM)(a5:List eD)(a6:List bO)(a7:Int),jg n a0 a1 a2 a3 a4 a5 a6 a7 a8 a9=some (r,a0,a1,a2,a3,a4,a5,a6,a7,a8,a9):=by
 have key:=mZ (l:=a9) (step:=gF a9) (λ i (s:Int)=>(s,(i:Int))) (λ v s=>max s v.cz) (λ s=>s) (λ i hi s=>by simp only[gF,dK hi,aj,bF hi,bJ hi,af,mD,aV i]) (λ s=>by simp only[gF,fe,ak]) n (by omega) 0;rw[show ((0:Nat):Int)=0 from rfl]at key;unfold jg kZ;simp only[key,af,aH,aj];exact⟨_,λ_ _ _ _ _ _ _=>rfl⟩
theorem afu(e:bL)(a:Gs){u:Int}(h0:0<=u)(h6:u<6):∃b,jO e a u=some b:=by
 obtain⟨k,rfl⟩:∃k:Nat,u=(k:Int):=⟨u.toNat,by omega⟩;have hk:k<6:=by omega
 unfold jO;rw[bF hk,bq (l:=[a.a0,a.a1,a.a2,a.a3,a.a4,a.a5]) hk];exact⟨_,rfl⟩
theorem CF{l:List bL}{φ:(bL×Unit)->Option Bool}(p:bL->Bool)(h:∀x∈l,φ (x,())=some (p x))(hl:l.length<=9223372036854775807)(hn:l.length<n):jP n l φ=some (ze p l):=Df p h hl hn
theorem ajO(p:bZ){u:Int}(h0:0<=u)(h6:u<6)(ht:p.tables.length<n)(ht2:p.tables.length<=9223372036854775807)(hr:∀t∈p.tables,t.rows.length<n/\t.rows.length<=9223372036854775807):∃r,yB n p u=some r:=by
 have key:∃o,iter (jQ n p u) n (0:Int)=some o/\True:=by
  have step:∀i (hi:i<p.tables.length),jQ n p u (i:Int)=some (.inl ((i+1:Nat):Int))\/∃z,jQ n p u (i:Int)=some (.inr (.inr z)):=by
   intro i hi;obtain⟨r1,r2⟩:=hr _ (getElem_mem hi);simp only[jQ,dK hi,aj,bq hi,af,aV i];cases ByteArray.toList p.tables[i].name==ByteArray.toList ⟨#[116,114,97,102,102,105,99]⟩with
   |false=>exact Or.inl rfl
   |true=>
    right;simp only[Bool.not_true,ak];generalize Gs.mk _ _ _ _ _ _=A;have hx:=CF (n:=n) (l:=p.tables[i].rows) (φ:=λy1=>jO y1.1 A u) (λ e=>(jO e A u).getD false) (λ e _=>by have⟨b,hb⟩:=afu e A h0 h6;simp[hb]) r2 r1;rw[hx];simp only[af,ve];cases hany:p.tables[i].rows.any λe=>(jO e A u).getD false with
    |false=>exact⟨_,rfl⟩
    |true=>
     have⟨j,hj,h1,_⟩:=agL hany;rw[h1];simp only[aj,bq hj,af];exact⟨_,rfl⟩
  have main:∀k i m,i+k=p.tables.length->k<m->∃o,iter (jQ n p u) m (i:Int)=some o/\True:=by
   intro k
   induction k with
   |zero=>
    intro i m hi hm;obtain⟨q,rfl⟩:∃q,m=q+1:=⟨m -1,by omega⟩;have:i=p.tables.length:=(by omega);subst this;exact⟨.inl (),iE (by simp only[jQ,fe,ak]),trivial⟩
   |succ k ih=>
    intro i m hi hm;obtain⟨q,rfl⟩:∃q,m=q+1:=⟨m -1,by omega⟩;rcases step i (by omega)with h |⟨z,h⟩
    ·rw[lT h];exact ih (i+1) q (by omega) (by omega)
    ·exact⟨_,iE h,trivial⟩
  exact main p.tables.length 0 n (by omega) ht
 obtain⟨o,h1,_⟩:=key;unfold yB;rw[h1];cases o with
 |inl w=>exact⟨_,rfl⟩
 |inr r=>exact⟨_,rfl⟩
theorem ac4(p:bZ){v:aC}(hv:okV v=true)(ht:p.tables.length<n)(ht2:p.tables.length<=9223372036854775807)(hr:∀t∈p.tables,t.rows.length<n/\t.rows.length<=9223372036854775807):∃r,kr n p v=some r:=by
 simp only[okV,aJ,aR]at hv;have⟨r,h1⟩:=ajO (n:=n) p (u:=v.use) hv.2.2.2.2.2.1 hv.2.2.2.2.2.2.1 ht ht2 hr;unfold kr;rw[h1,aaS];simp only[af];have e100:((100:Int) !=0)=true:=rfl;by_cases h:r>0
 ·have e:(r !=0)=true:=by simp only[bne_iff_ne,ne_eq];omega
  have e2:decide (r>0)=true:=by simpa using h
  rw[e,e2];simp only[aj,af,e100];cases decide (Yz v>i64.wrap (Int.tdiv 109951162777600 r))<;>exact⟨_,rfl⟩
 ·have e2:decide (r>0)=false:=by simpa using h
  rw[e2];exact⟨_,rfl⟩
theorem ajP(a1:List bS)(a8:List ax){a9:List aC}(hl:a9.length<=1000)(hn:1001<=n)(hv:∀v∈a9,okV v=true)(ht:a1.length<n)(ht2:a1.length<=9223372036854775807)(hr:∀t∈a1,t.rows.length<n/\t.rows.length<=9223372036854775807):∃r,∀(a0:List eH)(a2:List dH)(a3:List aO)(a4:List fM)(a5:List eD)(a6:List bO)(a7:Int),iQ n a0 a1 a2 a3 a4 a5 a6 a7 a8 a9=some (r,a0,a1,a2,a3,a4,a5,a6,a7,a8,a9):=by
 have key:=λ(a0:List eH)(a2:List dH)(a3:List aO)(a4:List fM)(a5:List eD)(a6:List bO)(a7:Int)=>fE (l:=a9) (step:=jk n a9) (λ i (s:Int)=>(s,(i:Int),a0,a1,a2,a3,a4,a5,a6,a7,a8,a9)) (λ v s=>i64.wrap (s+(kr n (bZ.mk [] a1 [] [] [] [] [] 0) v).getD 0)) (λ s=>(s,a0,a1,a2,a3,a4,a5,a6,a7,a8,a9)) (λ _ _=>True) (λ i hi s _=>⟨by
  obtain⟨r,h1⟩:=ac4 (n:=n) (bZ.mk [] a1 [] [] [] [] [] 0) (hv _ (getElem_mem hi)) ht ht2 hr;have h2:kr n (bZ.mk a0 a1 a2 a3 a4 a5 a6 a7) a9[i]=some r:=h1;simp only[jk,dK hi,aj,bF hi,bJ hi,af,jR,h1,h2,aH,aV i,Option.getD_some],trivial⟩) (λ s _=>by simp only[jk,fe,ak,aH,aj]) n (by omega) 0 trivial
 have key:=λa0 a2 a3 a4 a5 a6 a7=>(show ((0:Nat):Int)=0 from rfl) ▸ key a0 a2 a3 a4 a5 a6 a7;unfold iQ o6;simp only[key,af,aH,aj];exact⟨_,λ_ _ _ _ _ _ _=>rfl⟩
theorem ahv{α β:Type}(l:List α)(f:α->β)(z:β){i:Nat}(hi:i<l.length):((l.take i).map f++List.replicate (l.length -i) z).set i (f l[i])=(l.take (i+1)).map f++List.replicate (l.length -(i+1)) z:=by
 have h1:((l.take i).map f).length=i:=by simp;omega
 rw[List.set_append_right _ _ (by omega),h1,Nat.sub_self,show l.length -i=(l.length -(i+1))+1 by omega,List.replicate_succ,List.set_cons_zero,jD hi,map_append,aM];rfl
theorem ahw{α β:Type}(l:List α)(f:α->β)(z:β){i:Nat}(hi:i<=l.length):((l.take i).map f++List.replicate (l.length -i) z).length=l.length:=by simp;omega
theorem ahx{α β:Type}(l:List α)(f:α->β)(z:β){i:Nat}(hi:i<l.length):((l.take (i+1)).map f++List.replicate (l.length -(i+1)) z)[i]? =some (f l[i]):=by rw[List.getElem?_append_left (by simp;omega)];simp[hi]
theorem ahy{l:List aC}(hl:l.length<=1000)(hn:1001<=n):iter (fJ l) n ((0:Int),List.replicate l.length (ax.mk 0 0 0 0),([]:List Int))=some (l.map fI,l.flatMap λv=>[v.bm,v.bk]):=by
 refine AX (step:=fJ l) (λ i=>((i:Int),(l.take i).map fI++List.replicate (l.length -i) (ax.mk 0 0 0 0),(l.take i).flatMap λv=>[v.bm,v.bk])) l.length _ ?_ (λ i hi=>?_) ?_ n (by omega)
 ·simp
 ·have h1:=ahw l fI (ax.mk 0 0 0 0) (Nat.le_of_lt hi);have h2:=ahv l fI (ax.mk 0 0 0 0) hi;have h3:=ahx l fI (ax.mk 0 0 0 0) hi;have h4:((l.take i).flatMap λv=>[v.bm,v.bk]).length=2*i:=by
   have:∀m:List aC,(m.flatMap λv=>[v.bm,v.bk]).length=2*m.length:=by
    intro m;induction m with
    |nil=>rfl
    |cons a m ih=>simp only[List.flatMap_cons,dG,ih,bI,length_nil];omega
   rw[this,length_take];omega
  generalize (l.take i).map fI++List.replicate (l.length -i) (ax.mk 0 0 0 0)=B at h1 h2;have e0:(((0:Nat):Int)+(i:Int)).toNat=i:=by omega
  have et:((l.length:Int):Int).toNat=l.length:=by omega
  have hb:ax.mk l[i].bm l[i].bx l[i].bk l[i].bu=fI l[i]:=rfl;have hiB:i<B.length:=by omega
  rw[<- h2]at h3;have g3:bz (B.set i (fI l[i])) (((0:Nat):Int)+(i:Int))=some (fI l[i]):=by rw[BV];exact h3
  have hs:sub ([(fI l[i]).x0,(fI l[i]).x1]:List Int) 0 2=[(fI l[i]).x0,(fI l[i]).x1]:=rfl;have hap:bP (2*i) (2*i) 2 2 8=true:=dm (by omega) (by simp only[maxLen];omega);have hl2:([(fI l[i]).x0,(fI l[i]).x1]:List Int).length=2:=rfl;simp only[fJ,dK hi,aj,bF hi,bJ hi,af,et,bJ hiB,e0,hb,g3,hs,hl2,h4,hap,eX,aH,aV i];rw[<- h2,jD hi,List.flatMap_append];rfl
 ·simp only[fJ,fe,ak,aH,aj,List.take_length];simp
theorem ahz{l:List aC}{R:List ax}{X:List Int}(w2:List Int)(hR:R.length=l.length)(hX:X.length=w2.length)(hl:l.length<=1000)(hn:1001<=n){k:Nat}(hk:k+1<w2.length)(hw:w2.length<=10000)(s:Int):∃o,iter (iy l w2 R X (k:Int)) n (s,(0:Int),(0:Int))=some o/\True:=by
 refine KN (λ i (v:Int×Int×Int)=>v.2.2=(i:Int)) l.length (λ _=>True) (λ i v hi hv=>?_) (λ v hv=>?_) n (by omega) _ rfl
 ·obtain⟨a,b,c⟩:=v;simp only at hv;subst hv;have et:(((l.length:Int):Int).toNat)=l.length:=by omega
  have ew:i64.wrap ((k:Int)+1)=((k+1:Nat):Int):=bD (by omega);simp only[iy,et,dK hi,aj,bF hi,bJ (show i<R.length by omega),af,bF (show k<w2.length by omega),bJ (show k<X.length by omega),ew,bF hk,bJ (show k+1<X.length by omega),aV i];cases decide ((R[i]'(by omega)).x0<=X[k]'(by omega))with
  |false=>exact⟨_,rfl,rfl⟩
  |true=>
   simp only[aj,af];cases decide (X[k]'(by omega)<(R[i]'(by omega)).x1)with
   |false=>exact⟨_,rfl,rfl⟩
   |true=>
    simp only[aj,af];cases decide ((R[i]'(by omega)).y1>b)<;>exact⟨_,rfl,rfl⟩
 ·obtain⟨a,b,c⟩:=v;simp only at hv;subst hv;have et:(((l.length:Int):Int).toNat)=l.length:=by omega
  simp only[iy,et,fe,ak];exact⟨_,rfl,trivial⟩
theorem ahA(a1:List bS)(a8:List ax){a9:List aC}(hl:a9.length<=1000)(hn:10000<=n):∃r,∀(a0:List eH)(a2:List dH)(a3:List aO)(a4:List fM)(a5:List eD)(a6:List bO)(a7:Int),gY n a0 a1 a2 a3 a4 a5 a6 a7 a8 a9=some (r,a0,a1,a2,a3,a4,a5,a6,a7,a8,a9):=by
 have et:(((a9.length:Int):Int).toNat)=a9.length:=by omega
 have mk:xG (a9.length:Int) 32=true:=W6 (by omega) (by simp only[maxLen];omega);have d1:decide ((a9.length:Int)<=(a9.length:Int))=true:=by simp
 have d2:decide (0<=(a9.length:Int))=true:=by simp
 have hz:bj 0 ([]:List Int).length=true:=rfl;have hx:(a9.flatMap λv=>[v.bm,v.bk]).length<=2000:=by
  have:∀m:List aC,(m.flatMap λv=>[v.bm,v.bk]).length=2*m.length:=by
   intro m;induction m with
   |nil=>rfl
   |cons a m ih=>simp only[List.flatMap_cons,dG,ih,bI,length_nil];omega
  rw[this];omega
 unfold gY;rw[et,ahy hl (by omega)];generalize (a9.flatMap λv=>[v.bm,v.bk])=W at hx;have srt:=GY (n:=n) (l:=a9.map fI) (φ:=λy1=>gX y1.1 y1.2.1) (λ x y=>if x.y0<y.y0 then -1 else if y.y0<x.y0 then 1 else 0) (λ x y=>by
  show gX x y=_;unfold gX;rw[jT];rfl) (λ x y=>by
  unfold tU;rw[decide_eq_decide];constructor
  ·intro h;split at h
   ·assumption
   ·split at h<;>omega
  ·intro h;rw[bn h];decide) (by simp;omega) (by simp;omega)
 have hm:bj a9.length (a9.map fI).length=true:=by simp
 have hR:(qy tU (a9.map fI)).length=a9.length:=by rw[BZ W5];simp
 have hX:(jM mA W).length=W.length:=(Cb mA W).length_eq;simp only[d1,d2,mk,Bool.and_self,aj,hz,af,hm,srt,aH,nU (show W.length<1099511627776 by omega) (show W.length<n by omega)];generalize qy tU (a9.map fI)=R at hR;generalize jM mA W=X at hX;have key:∃o,iter (iA n a9 W R X) n ((0:Int),(0:Int))=some o/\True:=by
  have eN:max (0:Int) (i64.wrap ((W.length:Int) -1))=((W.length -1:Nat):Int):=by
   cases h:W.length with
   |zero=>rfl
   |succ k=>rw[lQ (by omega) (by omega)];omega
  refine KN (λ i (v:Int×Int)=>v.2=(i:Int)) (W.length -1) (λ _=>True) (λ i v hi hv=>?_) (λ v hv=>?_) n (by omega) _ rfl
  ·obtain⟨a,b⟩:=v;simp only at hv;subst hv;obtain⟨o,ho,_⟩:=ahz (n:=n) (l:=a9) (R:=R) (X:=X) W hR hX hl (by omega) (k:=i) (by omega) (by omega) a;simp only[iA,eN,dK hi,aj,ho,af,aV i];exact⟨_,rfl,rfl⟩
  ·obtain⟨a,b⟩:=v;simp only at hv;subst hv;simp only[iA,eN,fe,ak];exact⟨_,rfl,trivial⟩
 obtain⟨o,ho,_⟩:=key;rw[ho];exact⟨o,λ_ _ _ _ _ _ _=>rfl⟩
def GE(b:ax)(k:Int):ax:=⟨b.x0 -k,b.y0 -k,b.x1+k,b.y1+k⟩
def CG(area:List ax)(b:ax)(k:Int):Bool:=dC (GE b k)&&decide (area.foldl (λ s y=>Tt (GE b k) s y) 0=GF (GE b k))
theorem afv(b:ax)(k:Int)(a2:List eH)(a3:List bS)(a4:List dH)(a5:List aO)(a6:List fM)(a7:List eD)(a8:List bO)(a9:Int){iv:List ax}(ri:List aC)(hb:dC b=true)(h0:0<=k)(h1:k<=1048576)(hl:iv.length<=1000)(hn:1001<=n):
 ji n b k a2 a3 a4 a5 a6 a7 a8 a9 iv ri=some (CG iv b k,a2,a3,a4,a5,a6,a7,a8,a9,iv,ri):=by
 rw[aiK]at hb;unfold ji zh CG;rw[cK (x:=b.x0 -k),cK (x:=b.y0 -k),cK (x:=b.x1+k),cK (x:=b.y1+k),show ax.mk (b.x0 -k) (b.y0 -k) (b.x1+k) (b.y1+k)=GE b k from rfl,iV];generalize GE b k=g;simp only[af];cases hg:dC g with
 |false=>simp only[Bool.not_false,aj,aH,Bool.false_and]
 |true=>
  have key:=mZ (l:=iv) (step:=gU iv (g,true)) (λ i (s:Int)=>(s,(i:Int))) (λ y s=>Tt g s y) (λ s=>s) (λ i hi s=>by
   simp only[gU,dK hi,aj,bq hi,af,wT,aV i,Tt];cases h1:dC g with
   |false=>rfl
   |true=>
    cases h2:dC iv[i]with
    |false=>rfl
    |true=>
     cases h3:dC (Dh g iv[i])with
     |false=>rfl
     |true=>simp only[Bool.and_self,aj,AU h3,af]) (λ s=>by simp only[gU,fe,ak]) n (by omega) 0
  rw[show ((0:Nat):Int)=0 from rfl]at key;simp only[Bool.not_true,ak,key,af,AU hg,aH,aj,Bool.true_and];congr 2
def M5(p:Int->Bool):Nat->Int->Int->Int
 | 0,lo,_=>lo
 |k+1,lo,hi=>bif decide (lo<hi)then(bif p ((lo+hi+1)/2)then M5 p k ((lo+hi+1)/2) hi else M5 p k lo ((lo+hi+1)/2 -1))else lo
theorem YA(p:Int->Bool):∀k lo hi,lo<=hi->lo<=M5 p k lo hi/\M5 p k lo hi<=hi
 | 0,lo,hi,h=>by simp only[M5];omega
 |k+1,lo,hi,h=>by
  simp only[M5];by_cases h1:lo<hi
  ·have e:decide (lo<hi)=true:=(by simpa using h1);rw[e,aj];cases p ((lo+hi+1)/2)with
   |true=>have:=YA p k ((lo+hi+1)/2) hi (by omega);simp only[aj];omega
   |false=>have:=YA p k lo ((lo+hi+1)/2 -1) (by omega);simp only[ak];omega
  ·have e:decide (lo<hi)=false:=(by simpa using h1);rw[e,ak];omega
theorem ac5{v:aC}(hv:dC (fI v)=true)(a2:List eH)(a3:List bS)(a4:List dH)(a5:List aO)(a6:List fM)(a7:List eD)(a8:List bO)(a9:Int){iv:List ax}(ri:List aC)(hl:iv.length<=1000)(hn:1001<=n):
 ∀(k:Nat) lo hi m,0<=lo->lo<=hi->hi<=1048576->hi -lo<2 ^ k->k<m->iter (dX n v) m (lo,hi,a2,a3,a4,a5,a6,a7,a8,a9,iv,ri)=some (M5 (CG iv (fI v)) k lo hi,a2,a3,a4,a5,a6,a7,a8,a9,iv,ri):=by
 intro k
 induction k with
 |zero=>
  intro lo hi m h0 h1 h2 h3 hm;obtain⟨q,rfl⟩:∃q,m=q+1:=⟨m -1,by omega⟩;have:lo=hi:=by simp at h3;omega
  subst this;refine iE ?_;have e:decide (lo<lo)=false:=by simp
  simp only[dX,e,ak,aH,aj,M5]
 |succ k ih=>
  intro lo hi m h0 h1 h2 h3 hm;obtain⟨q,rfl⟩:∃q,m=q+1:=⟨m -1,by omega⟩;have hp:(2:Int) ^ (k+1)=2*2 ^ k:=by rw[Int.pow_succ];omega
  rw[hp]at h3;by_cases hlt:lo<hi
  ·have e:decide (lo<hi)=true:=(by simpa using hlt);have e2:((2:Nat) !=0)=true:=rfl;have em:i64.wrap (Int.tdiv (i64.wrap (i64.wrap (lo+hi)+1)) 2)=(lo+hi+1)/2:=(by rw[cK (x:=lo+hi),cK (x:=lo+hi+1),Int.tdiv_eq_ediv_of_nonneg (by omega),cK (by omega) (by omega)]);have hi2:=afv (n:=n) (fI v) ((lo+hi+1)/2) a2 a3 a4 a5 a6 a7 a8 a9 (iv:=iv) ri hv (by omega) (by omega) hl hn;unfold fI at hi2;cases hc:CG iv (fI v) ((lo+hi+1)/2)with
   |true=>
    rw[lT (v':=((lo+hi+1)/2,hi,a2,a3,a4,a5,a6,a7,a8,a9,iv,ri)) (by
     unfold fI at hc;simp only[dX,e,aj,e2,aH,em,hi2,af,hc]),ih _ _ _ (by omega) (by omega) (by omega) (by omega) (by omega)]
    simp only[M5,e,aj,hc]
   |false=>
    rw[lT (v':=(lo,(lo+hi+1)/2 -1,a2,a3,a4,a5,a6,a7,a8,a9,iv,ri)) (by
     unfold fI at hc;simp only[dX,e,aj,e2,aH,em,hi2,af,hc,ak,cK (x:=(lo+hi+1)/2 -1)]),ih _ _ _ (by omega) (by omega) (by omega) (by omega) (by omega)]
    simp only[M5,e,aj,hc,ak]
  ·have e:decide (lo<hi)=false:=(by simpa using hlt);refine iE ?_;simp only[dX,e,ak,aH,aj,M5]
def FK(area:List ax)(l:List aC):Int:=l.foldl (λ b v=>M5 (CG area (fI v)) 21 0 b) 1048576
theorem ac6(a0:List eH)(a1:List bS)(a2:List dH)(a3:List aO)(a4:List fM)(a5:List eD)(a6:List bO)(a7:Int){a8:List ax}{a9:List aC}(hv:∀v∈a9,okV v=true)(hl:a9.length<=1000)(h8:a8.length<=1000)(hn:1001<=n):iP n a0 a1 a2 a3 a4 a5 a6 a7 a8 a9=some (FK a8 a9,a0,a1,a2,a3,a4,a5,a6,a7,a8,a9):=by
 have key:=fE (l:=a9) (step:=gK n a9) (λ i (s:Int)=>(s,(i:Int),a0,a1,a2,a3,a4,a5,a6,a7,a8,a9)) (λ v s=>M5 (CG a8 (fI v)) 21 0 s) (λ s=>(s,a0,a1,a2,a3,a4,a5,a6,a7,a8,a9)) (λ _ s=>0<=s/\s<=1048576) (λ i hi s hs=>by
  have h1:=ac5 (n:=n) (KQ (hv _ (getElem_mem hi))) a0 a1 a2 a3 a4 a5 a6 a7 (iv:=a8) a9 h8 hn 21 0 s n (by omega) hs.1 hs.2 (by have:(2:Int) ^ 21=2097152:=rfl;omega) (by omega);have h2:=YA (CG a8 (fI a9[i])) 21 0 s hs.1;refine⟨?_,by omega,by omega⟩;simp only[gK,dK hi,aj,bF hi,bJ hi,af,aH,h1,aV i]) (λ s _=>by simp only[gK,fe,ak,aH,aj]) n (by omega) 1048576 (by omega)
 rw[show ((0:Nat):Int)=0 from rfl]at key;unfold iP;simp only[aH,aj,key,af];rfl
def gM(d:aP):List aC:=((gq d).take 40).filter okV
theorem YB(d:aP):∀v∈gM d,okV v=true:=λv hv=>(mem_filter.1 hv).2
theorem Vk(d:aP):(gM d).length<=40:=Nat.le_trans (length_filter_le _ _) (by rw[length_take];omega)
def oL(lot:fU):List ax:=bif cC lot.area then lot.area else []
theorem akn{l:List aC}(a0:List eH)(a1:List bS)(a2:List dH)(a3:List aO)(a4:List fM)(a5:List eD)(a6:List bO)(a7:Int)(a8:List ax)(hl:l.length<=9223372036854775807)(hn:l.length<n):
 iter (pE l) n ((0:Int),a0,a1,a2,a3,a4,a5,a6,a7,a8,([]:List aC))=some (a0,a1,a2,a3,a4,a5,a6,a7,a8,(l.take 40).filter okV):=by
 refine AX (step:=pE l) (λ i=>((i:Int),a0,a1,a2,a3,a4,a5,a6,a7,a8,((l.take i).take 40).filter okV)) l.length _ (by simp) (λ i hi=>?_) ?_ n hn
 ·have hlen:(((l.take i).take 40).filter okV).length<=40:=Nat.le_trans (length_filter_le _ _) (by rw[length_take];omega);have e40:decide ((i:Int)<40)=decide (i<40):=by rw[decide_eq_decide];omega
  have hs:sub ([l[i]]:List aC) 0 1=[l[i]]:=rfl;have hN:((l.take (i+1)).take 40).filter okV=((l.take i).take 40).filter okV++(bif decide (i<40)&&okV l[i]then [l[i]]else []):=by
   by_cases h:i<40
   ·have h1:(l.take i).take 40=l.take i:=take_of_length_le (by rw[length_take];omega);have h2:(l.take (i+1)).take 40=l.take (i+1):=take_of_length_le (by rw[length_take];omega);have h3:decide (i<40)=true:=(by simpa using h);rw[h1,h2,jD hi,List.filter_append,h3];cases h4:okV l[i]<;>simp[h4]
   ·have h3:decide (i<40)=false:=(by simpa using h);rw[List.take_take,List.take_take,h3,show min 40 (i+1)=40 by omega,show min 40 i=40 by omega];simp
  rw[hN];generalize ((l.take i).take 40).filter okV=L at hlen;have hap:bP L.length L.length 1 1 72=true:=dm (by omega) (by simp only[maxLen];omega);simp only[pE,dK hi,aj,bF hi,bJ hi,af,e40,rP,aV i];cases decide (i<40)with
  |false=>simp only[ak,af,aH,aj,Bool.false_and,append_nil]
  |true=>
   simp only[aj,af,Bool.true_and];cases okV l[i]with
   |false=>simp only[ak,aH,aj,af,append_nil]
   |true=>simp only[aj,hs,length_singleton,hap,eX,aH,af]
 ·simp only[pE,fe,ak,aH,aj,List.take_length]
def UV(n:Nat)(p:bZ):Prop:=p.tables.length<n/\p.tables.length<=9223372036854775807/\∀t∈p.tables,t.rows.length<n/\t.rows.length<=9223372036854775807
def GH:ByteArray:=⟨#[115,101,116,98,97,99,107]⟩
theorem ajQ{p:bZ}{lot:fU}{d:aP}(hp:UV n p)(hl:lot.area.length<=900)(hd:Tz d)(hn:2000000<=n):∃e1 e2 e3 e4 e5 e6 e7 e8:Int,∀(D:List eH)(Z:List dH)(R:List aO)(C:List fM)(V:List eD)(S:List bO)(H:Int),nT n (bZ.mk D p.tables Z R C V S H) lot d=some [⟨⟨#[97,114,101,97]⟩,e1⟩,⟨⟨#[99,111,118,101,114]⟩,e2⟩,⟨⟨#[102,108,111,111,114]⟩,e3⟩,⟨⟨#[102,108,111,111,114,115]⟩,e4⟩,⟨⟨#[104,101,105,103,104,116]⟩,e5⟩,⟨⟨#[104,111,109,101,115]⟩,e6⟩,⟨⟨#[114,117,110,111,102,102]⟩,e7⟩,⟨GH,FK (oL lot) (gM d)⟩,⟨⟨#[116,114,97,102,102,105,99]⟩,e8⟩]:=by
 have hs1:oL lot=(bif cC lot.area then lot.area else []):=rfl;have hsl:(oL lot).length<=900:=by unfold oL;cases cC lot.area<;>simp[hl]
 have hvl:=Vk d;have Rg:=YB d;have hfl:=ec hd.2;have hd1:=hd.1;obtain⟨hp1,hp2,hp3⟩:=hp;have hz:bj 0 ([]:List aC).length=true:=rfl;have C6:∀(D:List eH)(Z:List dH)(R:List aO)(C:List fM)(V:List eD)(S:List bO)(H:Int),((bif cC lot.area then some (D,p.tables,Z,R,C,V,S,H,lot.area)else some (D,p.tables,Z,R,C,V,S,H,([]:(List ax)))):Option ((List eH)×(List bS)×(List dH)×(List aO)×(List fM)×(List eD)×(List bO)×Int×(List ax)))=some (D,p.tables,Z,R,C,V,S,H,oL lot):=by intro D Z R C V S H;rw[hs1];cases cC lot.area<;>rfl
 obtain⟨e2,h2⟩:=ahA (n:=n) p.tables (oL lot) (a9:=gM d) (by omega) (by omega);obtain⟨e3,h3⟩:=ajM (n:=n) p.tables (oL lot) (a9:=gM d) (by omega) (by omega);obtain⟨e4,h4⟩:=aht (n:=n) p.tables (oL lot) (a9:=gM d) (by omega) (by omega);obtain⟨e5,h5⟩:=ahu (n:=n) p.tables (oL lot) (a9:=gM d) (by omega) (by omega);obtain⟨e6,h6⟩:=ajN (n:=n) p.tables (oL lot) (a9:=gM d) (by omega) (by omega);have h8:=λ(D:List eH)(Z:List dH)(R:List aO)(C:List fM)(V:List eD)(S:List bO)(H:Int)=>ac6 (n:=n) D p.tables Z R C V S H (a8:=oL lot) (a9:=gM d) Rg (by omega) (by omega) (by omega);obtain⟨e9,h9⟩:=ajP (n:=n) p.tables (oL lot) (a9:=gM d) (by omega) (by omega) Rg hp1 hp2 hp3;refine⟨bif cC (oL lot)then I5 (oL lot)else 0,e2,e3,e4,e5,e6,e2,e9,λD Z R C V S H=>?_⟩;unfold nT;rw[kS (by omega) (by omega) (by omega),TA hd (by omega)];simp only[af,C6,hz,aj];rw[akn (n:=n) D p.tables Z R C V S H (oL lot) (by show(gq d).length<=_;unfold gq;omega) (by show(gq d).length<_;unfold gq;omega)];have hr:((gq d).take 40).filter okV=gM d:=rfl;have s1:∀e:bL,sub ([e]:List bL) 0 1=[e]:=λ_=>rfl;have ap:∀k,k<=20->bP k k 1 1 24=true:=λk hk=>dm (by omega) (by simp only[maxLen];omega);have lot:lJ n D p.tables Z R C V S H (oL lot) (gM d)=some (bif cC (oL lot)then I5 (oL lot)else 0,D,p.tables,Z,R,C,V,S,H,oL lot,gM d):=by
  unfold lJ;rw[Tk (by omega) (by omega)];simp only[af,aH,aj]
 simp only[hr,af,aH,aj,lot,s1,length_singleton,ap 0 (by omega),eX,h2,ap 1 (by omega),dG,ap 2 (by omega),h3,ap 3 (by omega),h4,ap 4 (by omega),h5,ap 5 (by omega),h6,ap 6 (by omega),h8,ap 7 (by omega),h9,ap 8 (by omega),Nat.reduceAdd,Nat.zero_add,cB];rfl
theorem ako{p:bZ}{lot:fU}{d:aP}(hp:UV n p)(hl:lot.area.length<=900)(hd:Tz d)(hn:2000000<=n):∃e1 e2 e3 e4 e5 e6 e7 e8:Int,∀R:List aO,nT n (bZ.mk p.defs p.tables p.zones R p.caps p.views p.ta p.hours) lot d=some [⟨⟨#[97,114,101,97]⟩,e1⟩,⟨⟨#[99,111,118,101,114]⟩,e2⟩,⟨⟨#[102,108,111,111,114]⟩,e3⟩,⟨⟨#[102,108,111,111,114,115]⟩,e4⟩,⟨⟨#[104,101,105,103,104,116]⟩,e5⟩,⟨⟨#[104,111,109,101,115]⟩,e6⟩,⟨⟨#[114,117,110,111,102,102]⟩,e7⟩,⟨GH,FK (oL lot) (gM d)⟩,⟨⟨#[116,114,97,102,102,105,99]⟩,e8⟩]:=by
 have⟨e1,e2,e3,e4,e5,e6,e7,e8,h⟩:=ajQ (n:=n) hp hl hd hn;exact⟨e1,e2,e3,e4,e5,e6,e7,e8,λR=>h _ _ R _ _ _ _⟩
theorem W0(ds:List (ByteArray×ET))(s:List UInt8):∀(k:Nat)(i:Int),J8 ds s k=some i->0<=i/\i<(k:Int)
 | 0,i,h=>by simp[J8]at h
 |k+1,i,h=>by
  simp only[J8]at h;split at h
  ·cases h;omega
  ·have:=W0 ds s k i h;omega
theorem aiL{ds:List (ByteArray×ET)}(h:pN ds<=4000000):Ve (ny ds) ds.length:=by
 have hl:=Qj ds;refine⟨by simp[ny],by omega,λl hl=>?_⟩;simp only[ny,mem_map]at hl;obtain⟨d,hd,rfl⟩:=hl;have h1:=Qk hd;have h2:=ET.nb d.2;have h3:=aan d.2.names;refine⟨Nat.le_trans (List.length_filterMap_le _ _) (by omega),λk hk=>?_⟩;simp only[gJ,List.mem_filterMap]at hk;obtain⟨s,_,hk⟩:=hk;exact W0 ds s _ k hk
theorem aaU{M:List ByteArray}(hM:M.length<=1000)(hn:1001<=n)(w0:List (ByteArray×Bool)):∃w,iter (mR M) n ((0:Int),w0)=some w:=by
 obtain⟨o,h,_⟩:=dZ (step:=mR M) (λ i (v:Int×List (ByteArray×Bool))=>∃w,v=((i:Int),w)/\i<=M.length) (λ _=>True) M.length (λ k v ⟨_,_,h⟩=>h) (by
  rintro i v ⟨w,rfl,hi⟩;by_cases hlt:i<M.length
  ·simp only[mR,show decide ((i:Int)<(M.length:Int))=true from by simp;omega,aj,bF hlt,bJ hlt,af,aV i];exact .inl ⟨_,rfl,_,rfl,hlt⟩
  ·simp only[mR,show decide ((i:Int)<(M.length:Int))=false from by simp;omega,ak];exact .inr ⟨_,rfl,trivial⟩) n 0 ((0:Int),w0) ⟨_,rfl,Nat.zero_le _⟩ (by omega)
 exact⟨o,h⟩
theorem aaV{p:bZ}(hp:p.defs.length<=4000000)(hn:4000001<=n)(w0:List (ByteArray×Bool)):iter (kz p) n ((0:Int),w0)=some (.inl ())\/iter (kz p) n ((0:Int),w0)=some (.inr ([],[],5)):=by
 obtain⟨o,h,h2⟩:=dZ (step:=kz p) (λ i (v:Int×List (ByteArray×Bool))=>∃w,v=((i:Int),w)/\i<=p.defs.length) (λ o=>o= .inl ()\/o= .inr ([],[],5)) p.defs.length (λ k v ⟨_,_,h⟩=>h) (by
  rintro i v ⟨w,rfl,hi⟩;by_cases hlt:i<p.defs.length
  ·simp only[kz,show decide ((i:Int)<(p.defs.length:Int))=true from by simp;omega,aj,bq hlt,af,aV i];cases (oJ Gb.iz p.defs[i].name w).getD false with
   |true=>exact .inr ⟨_,rfl,.inr rfl⟩
   |false=>exact .inl ⟨_,rfl,_,rfl,hlt⟩
  ·simp only[kz,show decide ((i:Int)<(p.defs.length:Int))=false from by simp;omega,ak];exact .inr ⟨_,rfl,.inl rfl⟩) n 0 ((0:Int),w0) ⟨_,rfl,Nat.zero_le _⟩ (by omega)
 rcases h2 with rfl |rfl
 ·exact .inl h
 ·exact .inr h
theorem aaW:∃M,uP=some M/\M.length=9:=⟨_,rfl,rfl⟩
def gb(l:List eH):Prop:=pN (l.map toD)<=4000000
theorem gb.len{l:List eH}(h:gb l):l.length<=4000000:=by
 have:=Qj (l.map toD);rw[length_map]at this;unfold gb at h;omega
theorem gb.body{l:List eH}(h:gb l){d:eH}(hd:d∈l):(toE (bH.mk d.gR d.kB d.jp d.gz d.ed)).wt<=4000000:=by
 have h1:=Qk (mem_map.2 ⟨d,hd,rfl⟩:toD d∈l.map toD);unfold gb at h;simp only[toD,ET.wt]at h1;simp only[toE,ET.wt];omega
theorem O9{p:bZ}(hp:gb p.defs)(hn:5000003<=n):∃r,mG n p=some r/\r.1.length<=p.defs.length/\(∀ k∈r.1,0<=k/\k<(p.defs.length:Int))/\r.2.1.length<=p.defs.length+1:=by
 obtain⟨M,hM,hM9⟩:=aaW;obtain⟨w,hw⟩:=aaU (n:=n) (M:=M) (by omega) (by omega) [];have hg:Ve (ny (p.defs.map toD)) p.defs.length:=by have:=aiL hp;rwa [length_map]at this
 have De:ku p.defs=some (p.defs,ny (p.defs.map toD)):=by
  unfold ku;rw[Nat.ble_eq_true_of_le hp];rfl
 simp only[mG,hM,af,hw];rcases aaV (n:=n) (p:=p) hp.len (by omega) w with h |h
 ·have⟨c,hc,hc2,hc3⟩:=aaw (n:=n) (a0:=p.defs) hg rfl hn;simp only[h,dQ,De,af,hc];cases h0:(c.length==0)with
  |true=>
   have e:c=[]:=List.eq_nil_of_length_eq_zero (by simpa using h0);obtain⟨l,hl,hll,hlr⟩:=ahf (n:=n) (a0:=nP.mk p.defs (ny (p.defs.map toD))) hg rfl (hc2 e) (by omega);simp only[aj,af,ak,hl,cB,aH];exact⟨_,rfl,by simp[hll],hlr,by simp⟩
  |false=>
   simp only[aj,af,ak,cB,aH];exact⟨_,rfl,by simp,by simp,hc3⟩
 ·simp only[h,fQ];exact⟨_,rfl,by simp,by simp,by simp⟩
theorem wU(x:bH):bH.mk x.op x.n x.s x.key x.args=x:=by cases x;rfl
theorem KR:∀l:List bH,Fh l=l.map toE
 |[]=>rfl
 |x::xs=>by simp only[Fh,aF,KR xs]
theorem WP:∀{l:List ET}{t:ET},t∈l->t.wt<=ET.rx l
 |x::l,t,h=>by
  simp only[ET.rx];rcases aN.1 h with rfl |h
  ·omega
  ·have:=WP h;omega
theorem PA{e x:bH}(h:x∈e.args):(toE x).wt<(toE e).wt:=by
 have h1:(toE x).wt<=ET.rx (Fh e.args):=WP (by rw[KR];exact mem_map.2 ⟨x,h,rfl⟩);cases e;simp only[toE,ET.wt]at *;omega
theorem YC(e:bH):e.args.length<(toE e).wt:=by
 have h1:=ET.pp (Fh e.args);rw[KR,length_map]at h1;cases e;simp only[toE,ET.wt,KR]at *;omega
def VR:Nat->bH->Prop
 | 0,_=>False
 |k+1,e=>wO e.op=some ((e.args.length:Int),true)/\∀x∈e.args,VR k x
theorem ac8(op:Int):∃a b,wO op=some (a,b):=by
 simp only[wO];cases (op==0)<;>cases (op==1)<;>cases (op==2)<;>cases (op==3)<;>cases (op==9)<;>cases (op==15)<;>cases (op==16)<;>cases (decide (op>=0))<;>exact⟨_,_,rfl⟩
theorem Xa(hn:4000002<=n):∀(m:Nat)(e:bH)(a:Int),m<=9223372036854775000->0<=a->a<=12->13<=a+m->(toE e).wt<=4000000->∃r,qE n m e a=some r/\1<=r/\r<=13+m/\(r<=12->VR m e)
 | 0,_,_,_,_,_,h,_=>absurd h (by omega)
 |m+1,e,a,hm,h0,h1,h2,h3=>by
  have⟨x,b,hx⟩:=ac8 e.op;have hla:=YC e;show ∃r,yC n (qE n m) e a=some r/\_;simp only[yC,hx,af];have bad:∃r,some (13:Int)=some r/\1<=r/\r<=13+((m+1:Nat):Int)/\(r<=12->VR (m+1) e):=⟨13,rfl,by omega,by omega,λh=>absurd h (by omega)⟩;cases b with
  |false=>simpa only[Bool.not_false,aj,af]using bad
  |true=>
   simp only[Bool.not_true,ak];by_cases hxl:x=(e.args.length:Int)
   ·subst hxl;simp only[show ((e.args.length:Int) !=(e.args.length:Int))=false from by simp,ak,af];by_cases ha:a>=12
    ·simpa only[ha,decide_true,aj]using bad
    ·simp only[ha,decide_false,ak]
     obtain⟨o,g1,g2,g3,g4⟩:=dZ (step:=vE n (qE n m) e a) (λ i (v:Int×Int)=>v.2=(i:Int)/\i<=e.args.length/\0<=v.1/\v.1<=13+m/\(v.1<=11->∀y∈e.args.take i,VR m y))
      (λ o=>0<=o/\o<=13+m/\(o<=11->∀y∈e.args,VR m y)) e.args.length (λ k v h=>h.2.1) (by
      rintro i ⟨v2,v3⟩ ⟨hv,hi,i1,i2,i3⟩;simp only at hv i1 i2 i3;subst hv;by_cases hlt:i<e.args.length
      ·left;have hwx:=PA (getElem_mem hlt);obtain⟨r,r1,r2,r3,r4⟩:=Xa hn m e.args[i] (a+1) (by omega) (by omega) (by omega) (by omega) (by omega);refine⟨(max v2 r,((i+1:Nat):Int)),?_,rfl,hlt,by show 0<=max v2 r;omega,by show max v2 r<=_;omega,λh y hy=>?_⟩
       ·simp only[vE,show decide ((i:Int)<(e.args.length:Int))=true from by simp;omega,aj,bq hlt,af,wU,cK (show -9223372036854775808<=a+1 by omega) (show a+1<=9223372036854775807 by omega),r1,aV i]
       ·have h':max v2 r<=11:=h;rw[List.take_add_one,cZ hlt]at hy;rw[aY]at hy;rcases hy with hy |hy
        ·exact i3 (by omega) y hy
        ·simp at hy;subst hy;exact r4 (by omega)
      ·right;refine⟨v2,?_,i1,i2,λh y hy=>i3 h y (by rw[take_of_length_le (by omega)];exact hy)⟩;simp only[vE,show decide ((i:Int)<(e.args.length:Int))=false from by simp;omega,ak]) n 0 ((0:Int),(0:Int)) ⟨rfl,Nat.zero_le _,by simp,by show(0:Int)<=_;omega,by simp⟩ (by omega)
     simp only[g1,af];rw[cK (by omega) (by omega)];exact⟨o+1,rfl,by omega,by omega,λh=>⟨hx,g4 (by omega)⟩⟩
   ·simpa only[show (x !=(e.args.length:Int))=true from by simpa using hxl,aj,af]using bad
theorem OD(hn:4000002<=n)(hn2:n<=9223372036854775000){e:bH}(h:(toE e).wt<=4000000):∃b,Fg n e=some b/\(b=true->VR n e):=by
 obtain⟨r,h1,h2,h3,h4⟩:=Xa hn n e 0 hn2 (by omega) (by omega) (by omega) h;refine⟨decide (r<=12),?_,λh=>h4 (by simpa using h)⟩;simp only[Fg,wU,MK,h1,af]
def SWq(tables:List bS)(s key:ByteArray):Int:=match tables.find? λt=>ByteArray.toList t.name==ByteArray.toList s with
 |some t=>S0 t key
 |none=>0
def Hx(ts:List bS):Prop:=ts.length<=4000000/\∀t∈ts,t.rows.length<=4000000
theorem afw(hn:4000002<=n){a0:List eH}{ts:List bS}{a2:List dH}{a3:List aO}{a4:List fM}{a5:List eD}{a6:List bO}{a7:Int}{zs:List ByteArray}(ht:Hx ts)(e:bH)(kn:List (ByteArray×Int)):iR n a0 ts a2 a3 a4 a5 a6 a7 zs e kn=some (SWq ts e.s e.key,kn):=by
 have h1:=ht.1;simp only[iR,wU];rw[Dq (λ t=>ByteArray.toList t.name==ByteArray.toList e.s) (λ x _=>rfl) (by omega) (by omega)];simp only[af,SWq];rcases Tq (λ t:bS=>ByteArray.toList t.name==ByteArray.toList e.s) ts with ⟨i,hi,h1,h2⟩ |⟨h1,h2⟩
 ·rw[h1,h2];have d:decide ((i:Int)<0)=false:=by simp
  have hr:=ht.2 _ (getElem_mem hi);simp only[d,ak,bq hi,af];rw[Dr (λ x=>ByteArray.toList x.name==ByteArray.toList e.key) (λ x _=>rfl) (by omega) (by omega)];simp only[af,S0];rcases Tq (λ x:bL=>ByteArray.toList x.name==ByteArray.toList e.key) ts[i].rows with ⟨j,hj,g1,g2⟩ |⟨g1,g2⟩
  ·rw[g1,g2];have d:decide ((j:Int)>=0)=true:=(by simp);simp only[d,aj,bq hj,af]
  ·rw[g1,g2];rfl
 ·rw[h1,h2];rfl
theorem d9{α:Type}{c:Bool}{x y:Option α}(hx:∃r,x=some r)(hy:∃r,y=some r):∃r,(bif c then x else y)=some r:=by cases c<;>assumption
theorem Vl(a b:Int):∃r,uG a b=some r:=by
 simp only[uG];cases h:(b==0)with
 |true=>exact⟨_,rfl⟩
 |false=>
  have:(b !=0)=true:=by simp[bne,h]
  simp only[this,aj,ak];cases (Int.tmod a b !=0)<;>cases (decide (Int.tmod a b<0)==decide (b<0))<;>exact⟨_,rfl⟩
theorem TD(b:Bool):∃r,wP b=some r:=d9 ⟨_,rfl⟩ ⟨_,rfl⟩
theorem qI{α β:Type}{x:Option α}{f:α->Option β}(hx:∃r,x=some r)(hf:∀r,∃s,f r=some s):∃s,x.bind f=some s:=by obtain⟨r,rfl⟩:=hx;exact hf r
theorem aaX(op a b:Int):∃r,Gv op a b=some r:=by
 have q:=Vl a b;have t:=λc=>TD c;unfold Gv
 repeat' first
  |exact⟨_,rfl⟩
  |exact q
  |exact t _
  |apply d9
  |(refine qI ?_ λr=>?_)
theorem FL(h:0<n):cH 0 n=true:=by simp[cH];omega
theorem aaY(h:1<n):cH 1 n=true:=by simp[cH];omega
theorem ahC(h:2<n):cH 2 n=true:=by simp[cH];omega
theorem KS{α:Type}{l:List α}(h:0<l.length):bz l (((0:Nat):Int)+0)=some l[0]:=bJ (i:=0) h
theorem WF{α:Type}{l:List α}(h:1<l.length):bz l (((0:Nat):Int)+1)=some l[1]:=bJ (i:=1) h
theorem aiM{α:Type}{l:List α}(h:2<l.length):bz l (((0:Nat):Int)+2)=some l[2]:=bJ (i:=2) h
theorem Vm{l:List ByteArray}{s:ByteArray}(hl:l.length<=4000000)(hn:4000002<=n):∃r,eZ n l s=some r:=by
 obtain⟨o,h,_⟩:=dZ (step:=mq l s) (λ i (v:Int)=>v=(i:Int)/\i<=l.length) (λ _=>True) l.length (λ k v h=>h.2) (by
  rintro i v ⟨rfl,hi⟩;by_cases hlt:i<l.length
  ·simp only[mq,show decide ((i:Int)<(l.length:Int))=true from by simp;omega,aj,bq hlt,af,aV i];cases (ByteArray.toList s==ByteArray.toList l[i])with
   |true=>exact .inr ⟨_,rfl,trivial⟩
   |false=>exact .inl ⟨_,rfl,rfl,hlt⟩
  ·simp only[mq,show decide ((i:Int)<(l.length:Int))=false from by simp;omega,ak];exact .inr ⟨_,rfl,trivial⟩) n 0 0 ⟨rfl,Nat.zero_le _⟩ (by omega)
 simp only[eZ,pV,h];cases o with
 |inl u=>cases u;simp only[dQ,af];exact⟨_,rfl⟩
 |inr r=>simp only[fQ,af];exact⟨_,rfl⟩
theorem afx{op a:Int}(h0:(op==0)=false)(h1:(op==1)=false)(h2:(op==2)=false)(h3:(op==3)=false)(h9:(op==9)=false)(G2:(op==15)=false)(h16:(op==16)=false)(h:wO op=some (a,true)):a=2:=by
 simp only[wO,h0,h1,h2,h3,h9,G2,h16,ak,af]at h;cases hd:decide (op>=0)with
 |true=>rw[hd]at h;simp only[aj,ay,Prod.mk.injEq]at h;exact h.1.symm
 |false=>rw[hd]at h;simp at h
section
variable {n:Nat} {a0:List eH} {ts:List bS} {a2:List dH} {a3:List aO} {a4:List fM} {a5:List eD} {a6:List bO} {a7:Int} {zs:List ByteArray}
theorem TF(hn:4000002<=n)(ht:Hx ts)(hz:zs.length<=4000000):∀(m:Nat)(e:bH)(kn:List (ByteArray×Int)),VR m e->(toE e).wt<=4000000->∃v,bQ n m a0 ts a2 a3 a4 a5 a6 a7 zs e kn=some (v,kn)
 | 0,_,_,h,_=>h.elim
 |m+1,e,kn,⟨ha,hr⟩,hw=>by
  have hla:=YC e;have hmx:maxLen=9223372036854775807:=rfl;show ∃v,eO n (bQ n m) a0 ts a2 a3 a4 a5 a6 a7 zs e kn=some (v,kn)
  obtain⟨o,h1,l,rfl,hl⟩:=dZ (step:=eu n (bQ n m) a0 ts a2 a3 a4 a5 a6 a7 zs e) (λ i (v:Int×List (ByteArray×Int)×List Int)=>∃l,v=((i:Int),kn,l)/\i<=e.args.length/\l.length=i)
   (λ o=>∃l,o=(kn,l)/\l.length=e.args.length) e.args.length (λ k v ⟨_,_,h,_⟩=>h) (by
   rintro i v ⟨l,rfl,hi,hl⟩;by_cases hlt:i<e.args.length
   ·left;have hwx:=PA (getElem_mem hlt);obtain⟨x,hx⟩:=TF hn ht hz m e.args[i] kn (hr _ (getElem_mem hlt)) (by omega);have key:∃b,((bif (e.op==(16:Int))then(bif (decide ((i:Int)>(0:Int)))then(ck (cH 0 l.length) ((bz l ((0:Nat)+0:Int)).bind λx2=>some (!((x2 !=(0:Int))==((i:Int)==(1:Int))))))else some false)else some false):Option (Bool))=some b:=by
     refine d9 ?_ ⟨_,rfl⟩;by_cases h0:(i:Int)>0
     ·simp only[h0,decide_true,aj,FL (show 0<l.length by omega),KS (show 0<l.length by omega),af];exact⟨_,rfl⟩
     ·simp only[h0,decide_false,ak];exact⟨_,rfl⟩
    obtain⟨b,hb⟩:=key;have hap:∀z:Int,bP l.length l.length (sub [z] 0 1).length 1 8=true:=λz=>(by simp[bP,sub];omega);simp only[eu,show decide ((i:Int)<(e.args.length:Int))=true from by simp;omega,aj,bq hlt,af,hb,wU,hx,hap,eX,aH,aV i];cases b with
    |true=>exact⟨_,rfl,_,rfl,hlt,by simp[sub,hl]⟩
    |false=>exact⟨_,rfl,_,rfl,hlt,by simp[sub,hl]⟩
   ·right;refine⟨(kn,l),?_,l,rfl,by omega⟩;simp only[eu,show decide ((i:Int)<(e.args.length:Int))=false from by simp;omega,ak,aH,aj]) n 0 ((0:Int),kn,[]) ⟨[],rfl,Nat.zero_le _,rfl⟩ (by omega)
  simp only[eO,length_nil,aH,aj,h1,af,wU,afw hn ht];cases h0:(e.op==0)with
  |true=>exact⟨_,rfl⟩
  |false=>
  cases h1:(e.op==1)with
  |true=>exact⟨_,rfl⟩
  |false=>
  cases h2:(e.op==2)with
  |true=>exact⟨_,rfl⟩
  |false=>
  cases h3:(e.op==3)with
  |true=>
   have⟨r,hr⟩:=Vm (n:=n) (l:=zs) (s:=e.s) hz hn;have⟨r2,hr2⟩:=TD r;simp only[ak,aj,hr,hr2,af];exact⟨_,rfl⟩
  |false=>
  cases h9:(e.op==9)with
  |true=>
   have e9:e.op=9:=(by simpa using h9);rw[e9]at ha;have:l.length=1:=(by have h:some ((1:Int),true)=some ((e.args.length:Int),true):=ha;simp at h;omega);simp only[ak,aj,FL (show 0<l.length by omega),KS (show 0<l.length by omega),af];exact⟨_,rfl⟩
  |false=>
  cases G2:(e.op==15)with
  |true=>
   have e15:e.op=15:=(by simpa using G2);rw[e15]at ha;have:l.length=1:=(by have h:some ((1:Int),true)=some ((e.args.length:Int),true):=ha;simp at h;omega);obtain⟨r2,hr2⟩:=TD (l[0]'(by omega)==0);simp only[ak,aj,FL (show 0<l.length by omega),KS (show 0<l.length by omega),af,hr2];exact⟨_,rfl⟩
  |false=>
  cases h16:(e.op==16)with
  |true=>
   have e16:e.op=16:=(by simpa using h16);rw[e16]at ha;have:l.length=3:=(by have h:some ((3:Int),true)=some ((e.args.length:Int),true):=ha;simp at h;omega);simp only[ak,aj,FL (show 0<l.length by omega),KS (show 0<l.length by omega),aaY (show 1<l.length by omega),WF (show 1<l.length by omega),ahC (show 2<l.length by omega),aiM (show 2<l.length by omega),af];cases (l[0]'(by omega) !=0)<;>exact⟨_,rfl⟩
  |false=>
   have:l.length=2:=(by have:=afx h0 h1 h2 h3 h9 G2 h16 ha;omega);obtain⟨r,hr⟩:=aaX e.op (l[0]'(by omega)) (l[1]'(by omega));simp only[ak,aj,FL (show 0<l.length by omega),KS (show 0<l.length by omega),aaY (show 1<l.length by omega),WF (show 1<l.length by omega),af,hr];exact⟨_,rfl⟩
end
theorem ac9{ms:List bL}(h:ms.length<=4000000)(hn:4000002<=n):∃o,iter (jI n ms) n ((0:Int),([]:List (ByteArray×Int)),([]:List (ByteArray×Bool)))=some o:=by
 obtain⟨o,h,_⟩:=dZ (step:=jI n ms) (λ i (v:Int×List (ByteArray×Int)×List (ByteArray×Bool))=>∃a b,v=((i:Int),a,b)/\i<=ms.length) (λ _=>True) ms.length (λ k v ⟨_,_,_,h⟩=>h) (by
  rintro i v ⟨a,b,rfl,hi⟩;by_cases hlt:i<ms.length
  ·left;simp only[jI,show decide ((i:Int)<(ms.length:Int))=true from by simp;omega,aj,bq hlt,af,aV i];cases (!((oJ Gb.iz ms[i].name b).getD false))<;>exact⟨_,rfl,_,_,rfl,hlt⟩
  ·right;simp only[jI,show decide ((i:Int)<(ms.length:Int))=false from by simp;omega,ak];exact⟨_,rfl,trivial⟩) n 0 _ ⟨[],[],rfl,Nat.zero_le _⟩ (by omega)
 exact⟨o,h⟩
structure ON(p:bZ):Prop where
 defs:gb p.defs
 tabs:Hx p.tables
theorem I8{p:bZ}{ms:List bL}{zs:List ByteArray}(hp:ON p)(hm:ms.length<=4000000)(hz:zs.length<=4000000)(hn:5000003<=n)(hn2:n<=9223372036854775000):∃kn ab,lq n p ms zs=some (p.defs,p.tables,p.zones,p.rules,p.caps,p.views,p.ta,p.hours,zs,kn,ab)/\ab.length=p.defs.length:=by
 obtain⟨⟨w1,w2⟩,hs1⟩:=ac9 (n:=n) hm (by omega);have⟨r,hr,hrl,hrr,_⟩:=O9 (n:=n) hp.defs hn;have hl:=hp.defs.len;have hmx:maxLen=9223372036854775807:=rfl;have hmk:xG (p.defs.length:Int) 8=true:=by simp[xG];omega
 simp only[lq,hs1,af,Int.le_refl,decide_true,Bool.true_and,show decide ((0:Int)<=(p.defs.length:Int))=true from by simp,hmk,aj,hr];cases hb:(r.2.2 !=(0:Int))with
 |true=>
  simp only[aj,Int.toNat_natCast,List.length_replicate,aH];exact⟨_,_,rfl,by simp⟩
 |false=>
  obtain⟨o,h1,kn,ab,rfl,h2⟩:=dZ (step:=fZ n p zs w2 r) (λ i (v:Int×List (ByteArray×Int)×List Int)=>∃kn ab,v=((i:Int),kn,ab)/\i<=r.1.length/\ab.length=p.defs.length)
   (λ o=>∃kn ab,o=(kn,ab)/\ab.length=p.defs.length) r.1.length (λ k v ⟨_,_,_,h,_⟩=>h) (by
   rintro i v ⟨kn,ab,rfl,hi,hol⟩;by_cases hlt:i<r.1.length
   ·left;have hk:=hrr r.1[i] (getElem_mem hlt);obtain⟨k,hk2⟩:=Int.eq_ofNat_of_zero_le hk.1;have hkd:k<p.defs.length:=(by omega);have hko:k<ab.length:=(by omega);have hbw:=hp.defs.body (getElem_mem hkd);obtain⟨b,hb1,hb2⟩:=OD (n:=n) (by omega) hn2 hbw;simp only[fZ,show decide ((i:Int)<(r.1.length:Int))=true from by simp;omega,aj,bF hlt,bJ hlt,af,hk2,bq hkd,hb1,Int.toNat_natCast,bF hkd,bJ hko,aV i,show(((0:Nat):Int)+(k:Int)).toNat=k by omega];have step2:∀(Iv:List (ByteArray×Int)) (out':List Int),out'.length=p.defs.length->∃It,((bif (!((oJ Gb.iz p.defs[k].name w2).getD false))then(bz out' ((0:Nat)+(k:Int):Int)).bind λx5=>some ((IC Gb.iz p.defs[k].name x5 Iv),out')else some (Iv,out')):Option ((List (ByteArray×Int))×(List Int)))=some (It,out'):=by
     intro Iv out' ho;cases (!((oJ Gb.iz p.defs[k].name w2).getD false))with
     |true=>simp only[aj,bJ (show k<out'.length by omega),af];exact⟨_,rfl⟩
     |false=>exact⟨_,rfl⟩
    cases b with
    |true=>
     obtain⟨v,hv⟩:=TF (n:=n) (a0:=p.defs) (a2:=p.zones) (a3:=p.rules) (a4:=p.caps) (a5:=p.views) (a6:=p.ta) (a7:=p.hours) (by omega) hp.tabs hz n _ kn (hb2 rfl) hbw;simp only[fG,hv,aj,af];obtain⟨QP,h2⟩:=step2 kn (ab.set k v) (by simp[hol]);rw[h2];exact⟨_,rfl,_,_,rfl,hlt,by simp[hol]⟩
    |false=>
     simp only[ak,af];have⟨QP,h2⟩:=step2 kn ab hol;rw[h2];exact⟨_,rfl,_,_,rfl,hlt,hol⟩
   ·right;simp only[fZ,show decide ((i:Int)<(r.1.length:Int))=false from by simp;omega,ak];exact⟨_,rfl,_,_,rfl,hol⟩) n 0 ((0:Int),w1,List.replicate p.defs.length 0) ⟨_,_,rfl,Nat.zero_le _,by simp⟩ (by omega)
  simp only[ak,Int.toNat_natCast,h1,af,h2,aH,aj];exact⟨_,_,rfl,h2⟩
theorem all_eq{d:aP}(h:Tz d)(hn:1001<=n):uo n d=some (gq d):=by simp only[uo,TA h hn,af,cB,aH,aj]
theorem Vn(a b:ByteArray)(h:a.size<=4000000):∃r,strings_Contains a b=some r:=by
 simp only[strings_Contains,Nat.ble_eq_true_of_le h,aj];exact⟨_,rfl⟩
theorem OE(c:Int):∃b,Ch c=some b:=d9 ⟨_,rfl⟩ ⟨_,rfl⟩
theorem adb(c:Int):∃b,MH c=some b:=d9 ⟨_,rfl⟩ ⟨_,rfl⟩
theorem afy(c:Int):∃b,yA c=some b:=qI (OE c) λ_=>d9 ⟨_,rfl⟩ (qI (adb c) λ_=>⟨_,rfl⟩)
theorem aaZ{s:ByteArray}{i:Nat}(h:i<s.size):∃c,N8 s (i:Int)=some c:=by
 simp only[N8,show decide (0<=(i:Int))=true from by simp,aj,Int.toNat_natCast];rw[getElem?_pos s i h];exact⟨_,rfl⟩
theorem afz{s:ByteArray}{φ:(Int×Unit)->Option Bool}(h:∀c,∃b,φ (c,())=some b)(hs:s.size<=4000000)(hn:4000002<=n):∃r,Ki n s φ=some r:=by
 obtain⟨o,h1,_⟩:=dZ (step:=yx s φ) (λ i (v:Int)=>v=(i:Int)/\i<=s.size) (λ _=>True) s.size (λ k v h=>h.2) (by
  rintro i v ⟨rfl,hi⟩;by_cases hlt:i<s.size
  ·have⟨c,hc⟩:=aaZ hlt;have⟨b,hb⟩:=h c;simp only[yx,show decide ((i:Int)<(s.size:Int))=true from by simp;omega,aj,hc,af,hb,aV i];cases b with
   |true=>exact .inl ⟨_,rfl,rfl,hlt⟩
   |false=>exact .inr ⟨_,rfl,trivial⟩
  ·simp only[yx,show decide ((i:Int)<(s.size:Int))=false from by simp;omega,ak,af];exact .inr ⟨_,rfl,trivial⟩) n 0 0 ⟨rfl,Nat.zero_le _⟩ (by omega)
 simp only[Ki,h1,af];exact⟨_,rfl⟩
theorem afA(s:ByteArray)(hn:4000002<=n):∃b,Kj n s=some b/\(b=true->s.size<=20):=by
 simp only[Kj];cases h0:(ByteArray.toList s==ByteArray.toList (⟨#[]⟩))with
 |true=>exact⟨false,by simp only[aj,af],λh=>(by cases h)⟩
 |false=>
  have hs:0<s.size:=by
   refine Nat.pos_of_ne_zero λh=>?_;have:s=⟨#[]⟩:=by
    obtain⟨⟨l⟩⟩:=s;have:l.length=0:=h;rw[List.eq_nil_of_length_eq_zero this]
   rw[this]at h0;simp at h0
  have⟨c,hc⟩:=aaZ hs;have hc':N8 s 0=some c:=hc;have⟨b,hb⟩:=OE c;simp only[ak,hc',af,hb];cases b with
  |false=>exact⟨false,by simp only[Bool.not_false,aj,af],λh=>(by cases h)⟩
  |true=>
   simp only[Bool.not_true,ak,af];by_cases h20:(s.size:Int)>20
   ·exact⟨false,by simp only[h20,decide_true,aj],λh=>(by cases h)⟩
   ·obtain⟨r,hr⟩:=afz (n:=n) (s:=s) (φ:=λ(y1:Int×Unit)=>yA y1.1) (λ c=>afy c) (by omega) hn;simp only[h20,decide_false,ak,hr,af];exact⟨_,rfl,λ_=>by omega⟩
theorem afB(s:ByteArray)(hn:4000002<=n):∃b,uq n s=some b:=by
 have⟨b,hb,h20⟩:=afA (n:=n) s hn;simp only[uq,hb,af];cases b with
 |false=>exact⟨_,rfl⟩
 |true=>
  have hs:=h20 rfl;have hmx:maxLen=9223372036854775807:=rfl;have c1:Rj (⟨#[32]⟩) s=true:=by
   have:(⟨#[32]⟩:ByteArray).size=1:=rfl;simp only[Rj,aR];omega
  have c2:Rj ((⟨#[32]⟩)++s) (⟨#[32]⟩)=true:=by
   have h1:(⟨#[32]⟩:ByteArray).size=1:=rfl;simp only[Rj,aR,ByteArray.size_append];omega
  simp only[aj,c1,c2];refine qI (Vn _ _ (Nat.le_of_ble_eq_true ?_)) λ_=>⟨_,rfl⟩
  kernel_rfl
theorem afC(a b:At):∃r,vv a b=some r:=by
 unfold vv;rw[wT];exact d9 (d9 ⟨_,rfl⟩ ⟨_,rfl⟩) ⟨_,rfl⟩
theorem fD{l:List aC}{φ:(aC×Unit)->Option Bool}(p:aC->Bool)(h:∀x∈l,φ (x,())=some (p x))(hl:l.length<1099511627776)(hn:l.length<n):fw n l φ=some (l.any p):=by
 have:oU n l φ=some (ze p l):=gT p h hl hn;simp only[fw,this,af,ve]
theorem vO{l:List aC}{φ:(aC×Unit)->Option Bool}(h:∀x∈l,∃b,φ (x,())=some b)(hl:l.length<1099511627776)(hn:l.length<n):fw n l φ=some (l.any λx=>(φ (x,())).getD false):=
 fD _ (λ x hx=>by have⟨b,hb⟩:=h x hx;rw[hb];rfl) hl hn
def FA(d:aP):Prop:=∀p∈d.phases,p.gives.length<=1000
theorem ade{l:List aC}(hl:l.length<=1000000)(hn:4000002<=n):iter (j5 n l) n (0:Int)=some (.inr false)\/(iter (j5 n l) n (0:Int)=some (.inl ())/\∀v∈l,okV v=true):=by
 obtain⟨o,h1,h2⟩:=dZ (step:=j5 n l) (λ i (v:Int)=>v=(i:Int)/\i<=l.length/\∀x∈l.take i,okV x=true) (λ o=>o= .inr false\/(o= .inl ()/\∀v∈l,okV v=true)) l.length (λ k v h=>h.2.1) (by
  rintro i v ⟨rfl,hi,hall⟩;by_cases hlt:i<l.length
  ·simp only[j5,show decide ((i:Int)<(l.length:Int))=true from by simp;omega,aj,bF hlt,bJ hlt,af,rP,aV i];cases hv:okV l[i]with
   |false=>exact .inr ⟨_,by simp only[Bool.not_false,aj,af];rfl,.inl rfl⟩
   |true=>
    have hsub:(sub l 0 i).length=i:=(by simp[sub];omega);have hc:=vO (n:=n) (l:=sub l 0 i) (φ:=λ(y1:aC×Unit)=>pR y1.1 l[i]) (λ x _=>qI (afC _ _) λ_=>⟨_,rfl⟩) (by omega) (by omega);simp only[Bool.not_true,ak,qw (show (0:Int)<=0 by omega) (show (0:Int)<=(i:Int)by omega) (show (i:Int)<=(l.length:Int)by omega),aj,Int.toNat_natCast,Mv hsub,hc,af];cases ((sub l 0 i).any λx=>((λ (y1:aC×Unit)=>pR y1.1 l[i]) (x,())).getD false)with
    |true=>exact .inr ⟨_,rfl,.inl rfl⟩
    |false=>
     refine .inl ⟨_,rfl,rfl,hlt,λx hx=>?_⟩;rw[List.take_add_one,cZ hlt,aY]at hx;rcases hx with hx |hx
     ·exact hall x hx
     ·simp at hx;subst hx;exact hv
  ·refine .inr ⟨.inl (),?_,.inr ⟨rfl,λv hv=>hall v (by rw[take_of_length_le (by omega)];exact hv)⟩⟩;simp only[j5,show decide ((i:Int)<(l.length:Int))=false from by simp;omega,ak]) n 0 0 ⟨rfl,Nat.zero_le _,by simp⟩ (by omega)
 rcases h2 with rfl |⟨rfl,h2⟩
 ·exact .inl h1
 ·exact .inr ⟨h1,h2⟩
theorem adf{p:bU}(hp:p.gives.length<=1000)(hn:4000002<=n):iter (j6 n p) n ((0:Int),([]:List (ByteArray×Bool)))=some (.inl ())\/iter (j6 n p) n ((0:Int),([]:List (ByteArray×Bool)))=some (.inr (.inr (.inr false))):=by
 obtain⟨o,h1,h2⟩:=dZ (step:=j6 n p) (λ i (v:Int×List (ByteArray×Bool))=>∃m,v=((i:Int),m)/\i<=p.gives.length) (λ o=>o= .inl ()\/o= .inr (.inr (.inr false))) p.gives.length (λ k v ⟨_,_,h⟩=>h) (by
  rintro i v ⟨m,rfl,hi⟩;by_cases hlt:i<p.gives.length
  ·have key:∃b,((bif ((oJ Gb.iz p.gives[i].name m).getD false)then some true else(uq n p.gives[i].name).bind λr4=>(bif (!r4)then some true else(bif (decide (p.gives[i].n<(0:Int)))then some true else some (decide (p.gives[i].n>(1073741824:Int)))))):Option (Bool))=some b:=
    d9 ⟨_,rfl⟩ (qI (afB _ hn) λ_=>d9 ⟨_,rfl⟩ (d9 ⟨_,rfl⟩ ⟨_,rfl⟩))
   obtain⟨b,hb⟩:=key;simp only[j6,show decide ((i:Int)<(p.gives.length:Int))=true from by simp;omega,aj,bq hlt,af,hb,aV i];cases b with
   |true=>exact .inr ⟨_,rfl,.inr rfl⟩
   |false=>exact .inl ⟨_,rfl,_,rfl,hlt⟩
  ·simp only[j6,show decide ((i:Int)<(p.gives.length:Int))=false from by simp;omega,ak];exact .inr ⟨_,rfl,.inl rfl⟩) n 0 _ ⟨[],rfl,Nat.zero_le _⟩ (by omega)
 rcases h2 with rfl |rfl
 ·exact .inl h1
 ·exact .inr h1
theorem adg{d:aP}(hd:Tz d)(hg:FA d)(hn:4000002<=n):iter (kg n d) n (0:Int)=some (.inl ())\/iter (kg n d) n (0:Int)=some (.inr false):=by
 have hd1:=hd.1;obtain⟨o,h1,h2⟩:=dZ (step:=kg n d) (λ i (v:Int)=>v=(i:Int)/\i<=d.phases.length) (λ o=>o= .inl ()\/o= .inr false) d.phases.length (λ k v h=>h.2) (by
  rintro i v ⟨rfl,hi⟩;by_cases hlt:i<d.phases.length
  ·simp only[kg,show decide ((i:Int)<(d.phases.length:Int))=true from by simp;omega,aj,bq hlt,af,aV i];rcases adf (n:=n) (hg _ (getElem_mem hlt)) hn with h |h
   ·simp only[h,dQ];cases decide ((d.phases[i].gives.length:Int)>30)with
    |true=>exact .inr ⟨_,rfl,.inr rfl⟩
    |false=>exact .inl ⟨_,rfl,rfl,hlt⟩
   ·simp only[h,fQ];exact .inr ⟨_,rfl,.inr rfl⟩
  ·simp only[kg,show decide ((i:Int)<(d.phases.length:Int))=false from by simp;omega,ak];exact .inr ⟨_,rfl,.inl rfl⟩) n 0 0 ⟨rfl,Nat.zero_le _⟩ (by omega)
 rcases h2 with rfl |rfl
 ·exact .inl h1
 ·exact .inr h1
theorem GI{d:aP}(hd:Tz d):(gq d).length<=1000000:=by
 have:=ec hd.2;have:=hd.1;unfold gq;omega
theorem aiN{d:aP}(hd:Tz d)(hg:FA d)(hn:4000002<=n):∃b,vw n d=some b/\(b=true->∀v∈gq d,okV v=true):=by
 simp only[vw,all_eq hd (show 1001<=n by omega),af];have key:∀c1 c2 c3 c4 c5 c6:Bool,∃b,((bif c1 then some true else(bif c2 then some true else(bif c3 then some true else(bif c4 then some true else(bif c5 then some true else some c6))))):Option Bool)=some b:=by
  intro c1 c2 c3 c4 c5 c6;exact d9 ⟨_,rfl⟩ (d9 ⟨_,rfl⟩ (d9 ⟨_,rfl⟩ (d9 ⟨_,rfl⟩ (d9 ⟨_,rfl⟩ ⟨_,rfl⟩))))
 have⟨b,hb⟩:=key (decide (d.lot<0)) (decide (d.lot>1073741824)) (decide ((d.phases.length:Int)<1)) (decide ((d.phases.length:Int)>8)) (decide (((gq d).length:Int)<1)) (decide (((gq d).length:Int)>40));rw[hb];cases b with
 |true=>exact⟨false,rfl,λh=>(by cases h)⟩
 |false=>
  simp only[af,ak];rcases ade (n:=n) (GI hd) hn with h |⟨h,hall⟩
  ·simp only[h,fQ];exact⟨false,rfl,λh=>(by cases h)⟩
  ·simp only[h,dQ];rcases adg (n:=n) hd hg hn with h2 |h2
   ·simp only[h2,dQ];exact⟨true,rfl,λ_=>hall⟩
   ·simp only[h2,fQ];exact⟨false,rfl,λh=>(by cases h)⟩
theorem CJ{l:List fM}{φ:(fM×Unit)->Option Bool}(p:fM->Bool)(h:∀x∈l,φ (x,())=some (p x))(hl:l.length<1099511627776)(hn:l.length<n):lI n l φ=some (l.any p):=by
 have:sP n l φ=some (ze p l):=gT p h hl hn;simp only[lI,this,af,ve]
theorem ahE{lot:fU}{l:List aC}(ha:lot.area.length<=900)(hv:∀v∈l,okV v=true)(hl:l.length<=1000000)(hn:4000002<=n):iter (jE n lot l) n (0:Int)=some (.inl ())\/iter (jE n lot l) n (0:Int)=some (.inr false):=by
 obtain⟨o,h1,h2⟩:=dZ (step:=jE n lot l) (λ i (v:Int)=>v=(i:Int)/\i<=l.length) (λ o=>o= .inl ()\/o= .inr false) l.length (λ k v h=>h.2) (by
  rintro i v ⟨rfl,hi⟩;by_cases hlt:i<l.length
  ·have hb:=KQ (hv _ (getElem_mem hlt));have hcl:=Yv (keep:=λp q=>p&&q) lot.area [fI l[i]];have hc:=Yu (n:=n) (a:=lot.area) (b:=[fI l[i]]) (by omega) (by simp) (by omega) (by simp;omega) (by omega);have hA:=Tk (n:=n) (a:=(rO (λ p q=>p&&q) lot.area [fI l[i]]).1) (by omega) (by omega);have hr:=AU hb;simp only[fI]at hc hA hr;simp only[jE,show decide ((i:Int)<(l.length:Int))=true from by simp;omega,aj,bF hlt,bJ hlt,af,show ∀r:ax,sub [r] 0 1=[r]from λ_=>rfl,length_singleton,aH,hc,hA,hr,aV i];have key:∀c x:Bool,∃b,((bif c then some true else some x):Option Bool)=some b:=λc x=>d9 ⟨_,rfl⟩ ⟨_,rfl⟩;obtain⟨b,hb2⟩:=key ((rO (λ p q=>p&&q) lot.area [⟨l[i].bm,l[i].bx,l[i].bk,l[i].bu⟩]).2 !=0) (decide ((bif cC (rO (λ p q=>p&&q) lot.area [⟨l[i].bm,l[i].bx,l[i].bk,l[i].bu⟩]).1 then I5 (rO (λ p q=>p&&q) lot.area [⟨l[i].bm,l[i].bx,l[i].bk,l[i].bu⟩]).1 else 0)<GF ⟨l[i].bm,l[i].bx,l[i].bk,l[i].bu⟩));rw[hb2];cases b with
   |true=>exact .inr ⟨_,rfl,.inr rfl⟩
   |false=>exact .inl ⟨_,rfl,rfl,hlt⟩
  ·simp only[jE,show decide ((i:Int)<(l.length:Int))=false from by simp;omega,ak];exact .inr ⟨_,rfl,.inl rfl⟩) n 0 0 ⟨rfl,Nat.zero_le _⟩ (by omega)
 rcases h2 with rfl |rfl
 ·exact .inl h1
 ·exact .inr h1
theorem ahF{p:bZ}{ph:bU}(hc:p.caps.length<=4000000)(hp:ph.gives.length<=1000)(hn:4000002<=n):iter (jF n p ph) n (0:Int)=some (.inl ())\/iter (jF n p ph) n (0:Int)=some (.inr (.inr (.inr false))):=by
 obtain⟨o,h1,h2⟩:=dZ (step:=jF n p ph) (λ i (v:Int)=>v=(i:Int)/\i<=ph.gives.length) (λ o=>o= .inl ()\/o= .inr (.inr (.inr false))) ph.gives.length (λ k v h=>h.2) (by
  rintro i v ⟨rfl,hi⟩;by_cases hlt:i<ph.gives.length
  ·simp only[jF,show decide ((i:Int)<(ph.gives.length:Int))=true from by simp;omega,aj,bq hlt,af,CJ (n:=n) (l:=p.caps) (φ:=λ(y1:fM×Unit)=>sO y1.1 ph.gives[i]) (λ c=>ByteArray.toList c.name==ByteArray.toList ph.gives[i].name) (λ _ _=>rfl) (by omega) (by omega),aV i];cases (p.caps.any λc=>ByteArray.toList c.name==ByteArray.toList ph.gives[i].name)with
   |false=>exact .inr ⟨_,rfl,.inr rfl⟩
   |true=>exact .inl ⟨_,rfl,rfl,hlt⟩
  ·simp only[jF,show decide ((i:Int)<(ph.gives.length:Int))=false from by simp;omega,ak];exact .inr ⟨_,rfl,.inl rfl⟩) n 0 0 ⟨rfl,Nat.zero_le _⟩ (by omega)
 rcases h2 with rfl |rfl
 ·exact .inl h1
 ·exact .inr h1
theorem ahG{p:bZ}{d:aP}(hc:p.caps.length<=4000000)(hd:Tz d)(hg:FA d)(hn:4000002<=n):iter (jG n p d) n (0:Int)=some (.inl ())\/iter (jG n p d) n (0:Int)=some (.inr false):=by
 have hd1:=hd.1;obtain⟨o,h1,h2⟩:=dZ (step:=jG n p d) (λ i (v:Int)=>v=(i:Int)/\i<=d.phases.length) (λ o=>o= .inl ()\/o= .inr false) d.phases.length (λ k v h=>h.2) (by
  rintro i v ⟨rfl,hi⟩;by_cases hlt:i<d.phases.length
  ·simp only[jG,show decide ((i:Int)<(d.phases.length:Int))=true from by simp;omega,aj,bq hlt,af,aV i];rcases ahF (n:=n) hc (hg _ (getElem_mem hlt)) hn with h |h
   ·simp only[h,dQ];exact .inl ⟨_,rfl,rfl,hlt⟩
   ·simp only[h,fQ];exact .inr ⟨_,rfl,.inr rfl⟩
  ·simp only[jG,show decide ((i:Int)<(d.phases.length:Int))=false from by simp;omega,ak];exact .inr ⟨_,rfl,.inl rfl⟩) n 0 0 ⟨rfl,Nat.zero_le _⟩ (by omega)
 rcases h2 with rfl |rfl
 ·exact .inl h1
 ·exact .inr h1
theorem afD{p:bZ}{lot:fU}{d:aP}(hc:p.caps.length<=4000000)(ha:lot.area.length<=900)(hd:Tz d)(hg:FA d)(hn:4000002<=n):∃b,nk n p lot d=some b/\(b=true->∀v∈gq d,okV v=true):=by
 have⟨b,hb,hv⟩:=aiN (n:=n) hd hg hn;simp only[nk,hb,af];cases b with
 |false=>exact⟨false,by simp only[Bool.not_false,aj,af],λh=>(by cases h)⟩
 |true=>
  simp only[Bool.not_true,ak,kS (n:=n) (l:=lot.area) (by omega) (by omega) (by omega),af];cases (lot.id !=d.lot)with
  |true=>exact⟨false,by simp only[aj,af],λh=>(by cases h)⟩
  |false=>
   cases cC lot.area with
   |false=>exact⟨false,by simp only[Bool.not_false,aj,ak,af],λh=>(by cases h)⟩
   |true=>
    simp only[Bool.not_true,ak,af,all_eq hd (show 1001<=n by omega)];rcases ahE (n:=n) ha (hv rfl) (GI hd) hn with h |h
    ·simp only[h,dQ];rcases ahG (n:=n) hc hd hg hn with h2 |h2
     ·simp only[h2,dQ];exact⟨true,rfl,λ_=>hv rfl⟩
     ·simp only[h2,fQ];exact⟨false,rfl,λh=>(by cases h)⟩
    ·simp only[h,fQ];exact⟨false,rfl,λh=>(by cases h)⟩
end Go.Proofs
