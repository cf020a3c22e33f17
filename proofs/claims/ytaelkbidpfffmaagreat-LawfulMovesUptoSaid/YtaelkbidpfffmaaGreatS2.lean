import Derived.Test.YtaelkbidpfffmaaGreatS1
open Go.IntKind (i64)
open List (mem_map all_eq_true getElem_mem length_map map_map foldl_cons map_congr_left length_singleton pairwise_cons map_nil all_cons map_append)
namespace Go.Proofs
open Go.Gb Go.RowKit
variable {n:Nat}
theorem Ag{α:Type}{l:List α}{K n:Nat}{step:Int->Option (Int⊕(Unit⊕Bool))}{good:α->Prop}(h1:∀i (hi:i<l.length),i<K->step i=some (.inr (.inr false))\/(step i=some (.inl (i+1:Nat))/\good l[i]))
 (h2:∀i:Nat,(¬ i<l.length\/¬i<K)->step i=some (.inr (.inl ()))) (hn:K+1<n):iter step n 0=some (.inr false)\/(iter step n 0=some (.inl ())/\(l.length<=K->∀x∈l,good x)):=by obtain⟨o,g1,g2⟩:=eO (step:=step) (λ i v=>v=i/\i<=l.length/\i<=K/\∀x∈l.take i,good x) (λ o=>o=.inr false\/(o=.inl ()/\(l.length<=K->∀x∈l,good x))) K (λ k v h=>h.2.2.1) (by rintro i v ⟨rfl,hi,hK,hall⟩;by_cases hlt:i<l.length/\i<K;rcases h1 i hlt.1 hlt.2 with h|⟨h,hg⟩;exact .inr ⟨_,h,.inl rfl⟩;refine .inl ⟨_,h,rfl,hlt.1,hlt.2,λx hx=>?_⟩;rw[List.take_add_one,dD hlt.1,bO]at hx;rcases hx with hx|hx;exact hall x hx;simp at hx;subst hx;exact hg;refine .inr ⟨_,h2 i (by omega),.inr ⟨rfl,λhl x hx=>hall x ?_⟩⟩;rw[List.take_of_length_le (by omega)];exact hx) n 0 0 ⟨rfl,Nat.zero_le _,Nat.zero_le _,by simp⟩ (by omega);rcases g2 with rfl|⟨rfl,g2⟩;exact .inl g1;exact .inr ⟨g1,g2⟩
theorem VU(hn:4000002<=n):∀(m:Nat) (e:bD) most (L:Nat),(toE e).wt<=4000000->0<=most->most<=1000->L<=100->L+1<=m->∃r,ru n m e most L=some r/\1<=r/\r<=most+1
 | 0,_,_,_,_,_,_,_,h=>absurd h (by omega)
 |m+1,e,most,L,hw,h0,h1,hL,hm=>by have hla:=X2 e;show ∃r,zW n (ru n m) e most L=some r/\_;simp[zW];by_cases hL1:(L:Int)<1;simp only[hL1,decide_true,aj];rw[bZ (by omega) (by omega)];exact⟨most+1,rfl,by omega,by omega⟩;simp[hL1];obtain⟨o,g1,g2,g3⟩:=eO (step:=sP (ru n m) e most L) (λ i (v:Int×Int)=>v.2=i/\i<=e.args.length/\1<=v.1/\v.1<=most+1) (λ o=>1<=o/\o<=most+1) e.args.length (λ k v h=>h.2.1) (by rintro i ⟨v1,v2⟩ ⟨hv,hi,i1,i2⟩;simp at hv i1 i2;subst hv;by_cases hlt:i<e.args.length;by_cases hle:v1<=most;left;have hwx:=Vc (getElem_mem hlt);obtain⟨r,r1,r2,r3⟩:=VU hn m e.args[i] (most-v1) (L-1) (by omega) (by omega) (by omega) (by omega) (by omega);have eL:i64.wrap (L-1)=(L-1:Nat):=mM (by omega) (by omega);refine⟨(v1+r,(i+1:Nat)),?_,rfl,hlt,by show 1<=v1+r;omega,by show v1+r<=_;omega⟩;simp only[sP,show decide ((i:Int)<e.args.length)=true from by simp;omega,aj,hle,decide_true,ai,bf hlt,bZ (show -9223372036854775808<=most-v1 by omega) (show most-v1<=9223372036854775807 by omega),eL,r1,bZ (show -9223372036854775808<=v1+r by omega) (show v1+r<=9223372036854775807 by omega),aQ i];right;refine⟨v1,?_,i1,i2⟩;simp[sP,hle];right;refine⟨v1,?_,i1,i2⟩;simp only[sP,show decide ((i:Int)<e.args.length)=false from by simp;omega,ax,ai]) n 0 (1,0) ⟨rfl,Nat.zero_le _,by simp,by show 1<=_;omega⟩ (by omega);simp only[g1,ai];exact⟨o,rfl,g2,g3⟩
def Ys(l:List aL):Prop:=∀r∈l,(toE (ia r)).wt<=4000000
structure Lt(t:dm):Prop where
 defs:gC t.cj
 rules:Ys t.bj
 xf:∀l∈t.land,l.from_.length*8<=140737488355328
theorem qd(i len K:Nat){k:Int}(hk:k=K):((bif (decide ((i:Int)<(len:Nat)))then some (decide (i<k))else some false):Option Bool)=some (decide (i<len/\i<K)):=by subst hk;by_cases h1:i<len<;>by_cases h2:i<K<;>simp[h1]
theorem akN{l:List aL}(hw:Ys l)(hn:O8 n):∃b,Jc n l=some b/\(b=true->l.length<=6/\∀r∈l,KG r):=by
 obtain⟨hn1,hn2⟩:=hn;have h:=Ag (l:=l) (K:=7) (n:=n) (step:=xw n l) (good:=KG) (λ i hi hK=>by obtain⟨r,hr,_,_⟩:=VU (n:=n) (by omega) n (ia l[i]) 40 14 (hw _ (getElem_mem hi)) (by omega) (by omega) (by omega) (by omega);have hr':Cm n (bD.mk l[i].kx l[i].lR l[i].lP l[i].i7 l[i].fX) 40 14=some r:=hr;have e:=qd i l.length 7 (k:=7) rfl;simp only[xw,e,show decide (i<l.length/\i<7)=true from by simp[hi,hK],ai,aj,bf hi,hr',aQ i];by_cases c1:r>40;left;simp only[c1,decide_true,aj,ai];rfl;by_cases c2:(l[i].zones.length:Int)>6;left;simp only[c1,c2,decide_true,decide_false,aj,ax,ai];rfl;by_cases c3:(l[i].except.length:Int)>6;left;simp only[c1,c2,c3,decide_true,decide_false,aj,ax,ai];rfl;right;simp only[c1,c2,c3,decide_false,ax,ai];exact⟨trivial,by omega,by omega⟩) (λ i h=>by have e:=qd i l.length 7 (k:=7) rfl;simp only[xw,e,show decide (i<l.length/\i<7)=false from by simp;omega,ai,ax]) (by omega);simp only[Jc];rcases h with h|⟨h,h2⟩;simp only[h,iD];exact⟨false,rfl,λh=>(by cases h)⟩;simp only[h,fO];exact⟨_,rfl,λhb=>by
  have:(l.length:Int)<=6:=by simpa using hb
  exact⟨by omega,h2 (by omega)⟩⟩
theorem al2{p:bW}(hd:gC p.defs)(hw:Ys p.rules)(hn:O8 n):∃b,MI n p=some b/\(b=true->(p.tables.length<=4/\∀t∈p.tables,t.rows.length<=8)/\p.zones.length<=5/\p.caps.length<=3/\p.rules.length<=6/\(∀ r∈p.rules,KG r)/\(∀ z∈p.zones,z.corners.length<=12)/\∀c∈p.caps,c.corners.length<=12):=by
 have hn':=hn;obtain⟨hn1,hn2⟩:=hn;have s1:=Ag (l:=p.defs) (K:=6) (n:=n) (step:=zX n p) (good:=λ_=>True) (λ i hi hK=>by
  obtain⟨r,hr,_,_⟩:=VU (n:=n) (by omega) n _ 40 14 (hd.body (getElem_mem hi)) (by omega) (by omega) (by omega) (by omega);have hr':Cm n (bD.mk p.defs[i].iu p.defs[i].lj p.defs[i].km p.defs[i].ik p.defs[i].ek) 40 14=some r:=hr;have e:=qd i p.defs.length 6 (k:=6) rfl;simp only[zX,e,show decide (i<p.defs.length/\i<6)=true from by simp[hi,hK],ai,aj,bf hi,hr',aQ i];cases decide (r>40)with
  |true=>exact .inl rfl
  |false=>exact .inr ⟨rfl,trivial⟩) (λ i h=>by have e:=qd i p.defs.length 6 (k:=6) rfl;simp only[zX,e,show decide (i<p.defs.length/\i<6)=false from by simp;omega,ai,ax]) (by omega)
 have s2:=Ag (l:=p.tables) (K:=5) (n:=n) (step:=zY p) (good:=λt=>t.rows.length<=8) (λ i hi hK=>by
  have e:=qd i p.tables.length 5 (k:=5) rfl;simp only[zY,e,show decide (i<p.tables.length/\i<5)=true from by simp[hi,hK],ai,aj,bf hi,aQ i];by_cases c1:(p.tables[i].rows.length:Int)>8
  ·left;simp only[c1,decide_true,aj];rfl
  ·right;simp only[c1,decide_false,ax];exact⟨trivial,by omega⟩) (λ i h=>by have e:=qd i p.tables.length 5 (k:=5) rfl;simp only[zY,e,show decide (i<p.tables.length/\i<5)=false from by simp;omega,ai,ax]) (by omega)
 have s3:=Ag (l:=p.zones) (K:=6) (n:=n) (step:=zZ p) (good:=λx=>x.corners.length<=12) (λ i hi hK=>by
  have e:=qd i p.zones.length 6 (k:=6) rfl;simp only[zZ,e,show decide (i<p.zones.length/\i<6)=true from by simp[hi,hK],ai,aj,bf hi,aQ i];by_cases c1:(p.zones[i].corners.length:Int)>12
  ·left;simp only[c1,decide_true,aj];rfl
  ·right;simp only[c1,decide_false,ax];exact⟨trivial,by omega⟩) (λ i h=>by have e:=qd i p.zones.length 6 (k:=6) rfl;simp only[zZ,e,show decide (i<p.zones.length/\i<6)=false from by simp;omega,ai,ax]) (by omega)
 have s4:=Ag (l:=p.caps) (K:=4) (n:=n) (step:=z8 p) (good:=λx=>x.corners.length<=12) (λ i hi hK=>by
  have e:=qd i p.caps.length 4 (k:=4) rfl;simp only[z8,e,show decide (i<p.caps.length/\i<4)=true from by simp[hi,hK],ai,aj,bf hi,aQ i];by_cases c1:(p.caps[i].corners.length:Int)>12
  ·left;simp only[c1,decide_true,aj];rfl
  ·right;simp only[c1,decide_false,ax];exact⟨trivial,by omega⟩) (λ i h=>by have e:=qd i p.caps.length 4 (k:=4) rfl;simp only[z8,e,show decide (i<p.caps.length/\i<4)=false from by simp;omega,ai,ax]) (by omega)
 have no:∃b,some false=some b/\(b=true->(p.tables.length<=4/\∀t∈p.tables,t.rows.length<=8)/\p.zones.length<=5/\p.caps.length<=3/\p.rules.length<=6/\(∀ r∈p.rules,KG r)/\(∀ z∈p.zones,z.corners.length<=12)/\∀c∈p.caps,c.corners.length<=12):=⟨false,rfl,λh=>(by cases h)⟩;have⟨b,hb,hb2⟩:=akN (n:=n) hw hn';simp only[MI];rcases s1 with h|⟨h,_⟩
 ·simpa only[h,iD]using no
 rcases s2 with h2|⟨h2,ht⟩
 ·simpa only[h,h2,iD,fO]using no
 rcases s3 with h3|⟨h3,hz⟩
 ·simpa only[h,h2,h3,iD,fO]using no
 rcases s4 with h4|⟨h4,hc⟩
 ·simpa only[h,h2,h3,h4,iD,fO]using no
 simp only[h,h2,h3,h4,fO];by_cases c1:(p.defs.length:Int)<=5
 ·by_cases c2:(p.tables.length:Int)<=4
  ·by_cases c3:(p.zones.length:Int)<=5
   ·by_cases c4:(p.caps.length:Int)<=3
    ·simp only[c1,c2,c3,c4,decide_true,aj,hb,ai];exact⟨b,rfl,λh=>⟨⟨by omega,ht (by omega)⟩,by omega,by omega,(hb2 h).1,(hb2 h).2,hz (by omega),hc (by omega)⟩⟩
    ·simpa only[c1,c2,c3,c4,decide_true,decide_false,aj,ax]using no
   ·simpa only[c1,c2,c3,decide_true,decide_false,aj,ax]using no
  ·simpa only[c1,c2,decide_true,decide_false,aj,ax]using no
 ·simpa only[c1,decide_false,ax]using no
structure amI(t:dm)(d:aJ):Prop where
 town:M6 t
 draw:O7 d
 built:t.built.length<=8
 rules:t.bj.length<=6
 zones:∀z∈t.bk,z.corners.length<=12
 caps:∀c∈t.bu,c.corners.length<=12/\t.bu.length<=3
theorem akO{t:dm}{d:aJ}(hz:Lt t)(hn:O8 n):∃b,SA n t d=some b/\(b=true->amI t d):=by
 have hn':=hn;obtain⟨hn1,hn2⟩:=hn;have s1:=Ag (l:=t.land) (K:=5) (n:=n) (step:=Eg t) (good:=λx=>x.area.length<=6) (λ i hi hK=>by
  have e:=qd i t.land.length 5 (k:=5) rfl;simp only[Eg,e,show decide (i<t.land.length/\i<5)=true from by simp[hi,hK],ai,aj,bf hi,aQ i];by_cases c1:(t.land[i].area.length:Int)>6
  ·left;simp only[c1,decide_true,aj];rfl
  ·right;simp only[c1,decide_false,ax];exact⟨trivial,by omega⟩) (λ i h=>by have e:=qd i t.land.length 5 (k:=5) rfl;simp only[Eg,e,show decide (i<t.land.length/\i<5)=false from by simp;omega,ai,ax]) (by omega)
 have s2:=Ag (l:=t.b8) (K:=4) (n:=n) (step:=Eh t) (good:=λx=>x.area.length<=6) (λ i hi hK=>by
  have e:=qd i t.b8.length 4 (k:=4) rfl;simp only[Eh,e,show decide (i<t.b8.length/\i<4)=true from by simp[hi,hK],ai,aj,bf hi,aQ i];by_cases c1:(t.b8[i].area.length:Int)>6
  ·left;simp only[c1,decide_true,aj];rfl
  ·right;simp only[c1,decide_false,ax];exact⟨trivial,by omega⟩) (λ i h=>by have e:=qd i t.b8.length 4 (k:=4) rfl;simp only[Eh,e,show decide (i<t.b8.length/\i<4)=false from by simp;omega,ai,ax]) (by omega)
 have s3:=Ag (l:=d.phases) (K:=4) (n:=n) (step:=Ei d) (good:=λx=>x.cp.length<=3/\x.gives.length<=3) (λ i hi hK=>by
  have e:=qd i d.phases.length 4 (k:=4) rfl;simp only[Ei,e,show decide (i<d.phases.length/\i<4)=true from by simp[hi,hK],ai,aj,bf hi,aQ i];by_cases c1:(d.phases[i].cp.length:Int)>3
  ·left;simp only[c1,decide_true,aj,ai];rfl
  ·by_cases c2:(d.phases[i].gives.length:Int)>3
   ·left;simp only[c1,c2,decide_true,decide_false,aj,ax,ai];rfl
   ·right;simp only[c1,c2,decide_false,ax,ai];exact⟨trivial,by omega,by omega⟩) (λ i h=>by have e:=qd i d.phases.length 4 (k:=4) rfl;simp only[Ei,e,show decide (i<d.phases.length/\i<4)=false from by simp;omega,ai,ax]) (by omega)
 have no:∃b,some false=some b/\(b=true->amI t d):=⟨false,rfl,λh=>(by cases h)⟩;obtain⟨b,hb,hb2⟩:=al2 (n:=n) (p:=bW.mk t.cj t.bx t.bk t.bj t.bu t.cg t.cz t.ci) hz.defs hz.rules hn';simp only[SA];rcases s1 with h|⟨h,hl⟩
 ·simpa only[h,iD]using no
 rcases s2 with h2|⟨h2,he⟩
 ·simpa only[h,h2,iD,fO]using no
 rcases s3 with h3|⟨h3,hd⟩
 ·simpa only[h,h2,h3,iD,fO]using no
 simp only[h,h2,h3,fO,hb,ai];cases b with
 |false=>simpa only[ax]using no
 |true=>
  have⟨⟨t1,t2⟩,z1,c1,r1,r2,z2,c2⟩:=hb2 rfl;simp only at t1 t2 z1 c1 r1 r2 z2 c2;simp only[aj];by_cases d1:(t.land.length:Int)<=4
  ·by_cases d2:(t.b8.length:Int)<=3
   ·by_cases d3:(t.built.length:Int)<=8
    ·simp only[d1,d2,d3,decide_true,aj];refine⟨_,rfl,λh4=>?_⟩;have h4i:(d.phases.length:Int)<=3:=(by simpa using h4);have h4':d.phases.length<=3:=(by omega);have hl':=hl (by omega);have he':=he (by omega);have hd':=hd (by omega)
     exact⟨⟨λ l hm=>⟨by have:=hl' l hm;omega,hz.xf l hm⟩,by omega,⟨by omega,λe hm=>by have:=he' e hm;omega⟩,by omega,by omega,by omega,by omega,λr hm=>⟨r2 r hm,hz.rules r hm⟩,⟨hz.defs,⟨by show t.bx.length<=_;omega,λx hx=>by have:=t2 x hx;omega⟩⟩⟩,
      ⟨⟨by omega,λp hm=>by have:=(hd' p hm).1;omega⟩,λp hm=>by have:=(hd' p hm).2;omega⟩,by omega,r1,z2,λc hm=>⟨c2 c hm,c1⟩⟩
    ·simpa only[d1,d2,d3,decide_true,decide_false,aj,ax]using no
   ·simpa only[d1,d2,decide_true,decide_false,aj,ax]using no
  ·simpa only[d1,decide_false,ax]using no
def MY(a b:List ByteArray):Bool:=decide (a.length=b.length)&&(a.zip b).all λp=>ff p.1 p.2
theorem adC a:MY a a=true:=by
 simp only[MY,decide_true,Bool.true_and,all_eq_true];intro p hp;have:p.1=p.2:=by obtain⟨i,hi,rfl⟩:=List.mem_iff_getElem.1 hp;simp
 rw[this];simp[ff]
theorem adD{a b:List ByteArray}(hl:a.length<=1000)(hn:2000<=n):xS n a b=some (MY a b):=by
 simp[xS,MY];by_cases h:a.length=b.length;have hne:((a.length:Int) !=b.length)=false:=by simp[h]
 have hd:decide (a.length=b.length)=true:=by simp[h]
 rw[hne,hd];simp;obtain⟨o,g1,g2⟩:=eO (step:=xu a b) (λ i v=>v=i/\i<=a.length/\((a.take i).zip (b.take i)).all (λ p=>ff p.1 p.2)=true) (λ o=>(o=.inr false/\(a.zip b).all (λ p=>ff p.1 p.2)=false)\/(o=.inl ()/\(a.zip b).all (λ p=>ff p.1 p.2)=true)) a.length (λ k v h=>h.2.1) (by
  rintro i v ⟨rfl,hi,hall⟩;by_cases hlt:i<a.length;have hlb:i<b.length:=by omega
  simp only[xu,show decide ((i:Int)<a.length)=true from by simp;omega,aj,bf hlt,bf hlb,ai,aQ i];cases he:(ByteArray.toList a[i]==ByteArray.toList b[i])with
  |false=>
   refine .inr ⟨_,rfl,.inl ⟨rfl,?_⟩⟩;rw[List.all_eq_false];exact⟨(a[i],b[i]),by rw[List.mem_iff_getElem];exact⟨i,by simp;omega,by simp⟩,by simp[ff,he]⟩
  |true=>
   refine .inl ⟨_,rfl,rfl,hlt,?_⟩;rw[List.take_add_one,List.take_add_one,dD hlt,dD hlb,List.zip_append (by simp;omega),List.all_append,hall];simp[ff,he]
  refine .inr ⟨.inl (),?_,.inr ⟨rfl,?_⟩⟩;simp only[xu,show decide ((i:Int)<a.length)=false from by simp;omega,ax];rw[List.take_of_length_le (by omega),List.take_of_length_le (by omega)]at hall;exact hall) n 0 0 ⟨rfl,Nat.zero_le _,by simp⟩ (by omega)
 rcases g2 with ⟨rfl,g2⟩|⟨rfl,g2⟩;simp[g1,g2];simp[g1,g2];have hne:((a.length:Int) !=b.length)=true:=by simpa using λe:(a.length:Int)=b.length=>h (by omega)
 have hd:decide (a.length=b.length)=false:=by simp[h]
 rw[hne,hd];rfl
def S5:aA:=aA.mk 2 2 8 8 0 14 2 0 false
def XR:aJ:=aJ.mk 1 [eD.mk [S5] []]
def B9:List aL:=[(aL.mk (⟨#[97]⟩) ([]) ([]) 0 0 0 false 0 12 0 (⟨#[]⟩) (⟨#[]⟩) [(bD.mk 1 0 (⟨#[104,101,105,103,104,116]⟩) (⟨#[]⟩) ([])),(bD.mk 0 12 (⟨#[]⟩) (⟨#[]⟩) ([]))] 0 0 0 0 0 0 0),(aL.mk (⟨#[98]⟩) ([]) ([]) 0 0 0 false 1 0 0 (⟨#[]⟩) (⟨#[]⟩) ([]) 0 9 3 1 0 0 0),(aL.mk (⟨#[99]⟩) ([]) ([]) 0 0 0 false 1 0 0 (⟨#[]⟩) (⟨#[]⟩) ([]) 0 9 1 1 0 0 0),(aL.mk (⟨#[100]⟩) ([]) ([]) 0 0 0 false 2 0 0 (⟨#[]⟩) (⟨#[]⟩) ([]) 0 0 0 0 5 0 0),(aL.mk (⟨#[101]⟩) ([]) ([]) 0 0 0 false 3 0 0 (⟨#[]⟩) (⟨#[]⟩) ([]) 0 0 0 0 2 0 5)]
def an5:dO:=dO.mk 1 0 [au.mk 0 0 10 10] []
def Fj:dm:=dm.mk [] [] [] B9 [] [] [] 0 [an5] [] [] [bF.mk 2 12 2 14 4 0 3 0 0 false] []
theorem SG:M6 Fj where
 lots:=λl hl=>by simp only[Fj,aZ]at hl;subst hl;exact⟨by decide,by decide⟩
 land:=by decide
 vx:=⟨by decide,λe he=>by simp[Fj]at he⟩
 built:=by decide
 zones:=by decide
 caps:=by decide
 rules:=by decide
 rule:=λr hr=>by simp only[Fj,B9,aP,mY,or_false]at hr;rcases hr with rfl|rfl|rfl|rfl|rfl<;>exact⟨⟨by decide,by decide⟩,Nat.le_of_ble_eq_true (by kernel_rfl)⟩
 plan:=⟨Nat.le_of_ble_eq_true (by kernel_rfl),by decide,λx hx=>by simp[fp,Fj]at hx⟩
theorem SH lot ps (h:ps=[eD.mk [S5] []]\/ps=[]):O7 (aJ.mk lot ps):=by rcases h with rfl|rfl;refine⟨⟨by simp,λp hp=>?_⟩,λp hp=>?_⟩<;>(simp at hp;subst hp;decide);refine⟨⟨by simp,λp hp=>?_⟩,λp hp=>?_⟩<;>simp at hp
theorem HN:O8 5000003:=⟨aB _,by omega⟩
theorem al3:Jb 5000003=some true:=by
 have b1:=Cz (n:=5000003) (t:=Fj) (d:=XR) 7 SG (SH 1 _ (.inl rfl)) HN;have b2:=Cz (n:=5000003) (t:=Fj) (d:=aJ.mk 3 []) 7 SG (SH 3 _ (.inr rfl)) HN;have v1:oG 5000003 Fj XR 7=[⟨#[97]⟩,⟨#[99]⟩,⟨#[101]⟩]:=by kernel_rfl
 have v2:uV 5000003 Fj XR=0:=by kernel_rfl
 have v3:uV 5000003 Fj (aJ.mk 3 [])=4:=by kernel_rfl
 have v4:oG 5000003 Fj (aJ.mk 3 []) 7=[]:=by kernel_rfl
 have c:=λ(r:aL)(h:(toE (ia r)).wt<=4000000)=>aiD (n:=5000003) (t:=Fj) (d:=XR) (r:=r) SG (SH 1 _ (.inl rfl)) h HN;have c1:=c (B9[0]'(by decide)) (Nat.le_of_ble_eq_true (by kernel_rfl));have c2:=c (B9[1]'(by decide)) (Nat.le_of_ble_eq_true (by kernel_rfl));have w1:KM 5000003 Fj (kJ Fj XR) XR (B9[0]'(by decide))=true:=by kernel_rfl
 have w2:KM 5000003 Fj (kJ Fj XR) XR (B9[1]'(by decide))=false:=by kernel_rfl
 have l1:=aiE (n:=5000003) (t:=Fj) (d:=XR) 7 SG (SH 1 _ (.inl rfl)) HN;rw[v1,v2]at b1;rw[v3,v4]at b2;rw[v2,w1]at c1;rw[v2,w2]at c2;rw[v2,v1]at l1;have hnm:xS 5000003 [⟨#[97]⟩,⟨#[99]⟩,⟨#[101]⟩] [⟨#[97]⟩,⟨#[99]⟩,⟨#[101]⟩]=some true:=by rw[adD (by decide) (by decide)];kernel_rfl
 simp only[Fj,XR,B9,an5,S5]at b1 b2 c1 c2 l1;simp at c1 c2;simp only[Jb,W6,ai,sub,List.drop_zero,List.take_succ_cons,List.take_zero,fG,List.length_nil,Nat.zero_add,Nat.reduceAdd,aI,aj];have a0:∀(x:aL) l,cd (x::l) ((0:Nat)+0)=some x:=λ_ _=>rfl;have a1:∀(x y:aL) l,cd (x::y::l) ((0:Nat)+1)=some y:=λ_ _ _=>rfl;simp only[b1,b2,ai,fG,List.length_nil,Nat.zero_add,Nat.reduceAdd,List.take_succ_cons,List.take_zero,hnm,aI,aj,show(0==0)=true from rfl,show(4==4)=true from rfl,show cP 0 5=true from rfl,show cP 1 5=true from rfl,a0,a1,c1,c2,l1];rfl
theorem adE{t:dm}{d:aJ}(h:t.bj.length<=10) day:(oG n t d day).length<=11:=by
 unfold oG;cases (uV n t d==0)with
 |false=>simp
 |true=>
  have h1:=VP (EB n t (kJ t d) d (applied t (kJ t d) day)) Zr (VQ t d);have h2:=AU (KM n t (kJ t d) d) (applied t (kJ t d) day) [];have h3:(applied t (kJ t d) day).length<=t.bj.length:=List.length_filter_le _ _;simp;unfold EB at*;simp at h2;omega
mutual
theorem al4:∀g:bD,(toE g).wt<=kS (qC g)
 |⟨op,n,s,key,args⟩=>by have:=M7 args;simp[toE,ET.wt,qC,kS,nf];omega
theorem M7:∀l:List bD,ET.sx (G8 l)<=Au (rX l)
 |[]=>by simp[G8,ET.sx]
 |x::xs=>by have h1:=al4 x;have h2:=M7 xs;simp[G8,ET.sx,rX,Au];omega
end
theorem Zt:∀l:List fI,qq (l.map toD)<=Au (l.map DX)
 |[]=>by simp[qq]
 |x::xs=>by have h1:=Zt xs;have h2:=M7 x.ek;simp[qq]at h1;simp[qq,toD,ET.wt,Au,DX,kS,nf,<- rY];omega
theorem aiF(t:dm):qq (t.cj.map toD)<=kS (I5 t):=by have:=Zt t.cj;simp[I5,kS,nf];omega
theorem VW{r:List Tree}:∀{l:List (List Tree)},r∈l->kS r<=Au l
 |x::l,h=>by rw[Au];rcases aP.1 h with rfl|h;omega;have:=VW h;omega
theorem aiG(r:aL):(toE (ia r)).wt<=kS (wU r):=by have h:=M7 r.fX;rw[rY]at h;simp[ia,toE,ET.wt,wU,kS,nf];omega
theorem Zu:∀l:List Int,l.length<=Au (l.map λy=>[Tree.sc (.int .i64 y)])
 |[]=>by simp
 |x::l=>by have:=Zu l;simp[Au,kS,nf];omega
theorem anm{t:dm}(h:kS (I5 t)<=1048576):Lt t:=by
 have hd:=Nat.le_trans (aiF t) h;simp[I5,kS,nf]at h;refine⟨by unfold gC;omega,λr hr=>?_,λl hl=>?_⟩;have h1:=aiG r;have h2:=VW (mem_map.2 ⟨r,hr,rfl⟩:wU r∈t.bj.map wU);omega;have h1:=Zu l.from_;have h2:=VW (mem_map.2 ⟨l,hl,rfl⟩:Kv l∈t.land.map Kv);have h3:Au (l.from_.map λy=>[Tree.sc (.int .i64 y)])<=kS (Kv l):=by simp[Kv,kS,nf];omega
 omega
theorem ano{cs:List (CT xx.ι)}(q:HL xx.toSE (.st SI.jn::cs))(hb:TY (HL.mw xx.toSE (.st SI.jn::cs) q)<=1048576):Lt q.1:=by have h2:kS (I5 q.1)+TY (HL.mw xx.toSE cs q.2)<=1048576:=hb;exact anm (by omega)
theorem sumTo_le{f g:Nat->Int}:∀n,(∀ i,i<n->f i<=g i)->sumTo n f<=sumTo n g
 | 0,_=>Int.le_refl _
 |k+1,h=>by have:=sumTo_le k λi hi=>h i (by omega);have:=h k (by omega);simp[sumTo];omega
theorem O9{f g:Nat->Int}:∀n,(∀ i,i<n->f i<=g i)->sumTo n f=sumTo n g->∀i,i<n->f i=g i
 | 0,_,_,i,hi=>by omega
 |k+1,h,he,i,hi=>by have h1:=sumTo_le k λi hi=>h i (by omega);have h2:=h k (by omega);simp[sumTo]at he;by_cases e:i=k;subst e;omega;exact O9 k (λ i hi=>h i (by omega)) (by omega) i (by omega)
theorem afV{p q:Int->Int->Bool}(h:∀x y,p x y=true->q x y=true)(he:tL p=tL q){x y:Int}(hx:0<=x/\x<1048576)(hy:0<=y/\y<1048576):p x y=q x y:=by
 have hle:∀x y,Er (p x y)<=Er (q x y):=λx y=>by have:=h x y;cases hp:p x y<;>cases hq:q x y<;>simp_all [Er]
 have h1:=O9 Ad (λ i _=>sumTo_le Ad λj _=>hle i j) he x.toNat (by unfold Ad;omega);have h2:=O9 Ad (λ j _=>hle x.toNat j) h1 y.toNat (by unfold Ad;omega);rw[show x.toNat=x by omega,show y.toNat=y by omega]at h2;cases hp:p x y<;>cases hq:q x y<;>simp_all [Er]
theorem VX{r:au}(h:cI r=true):yL r=Cs r:=by have:=wB h;rw[tT]at h;unfold Cs at*;unfold yL;rw[bZ (x:=r.x1-r.x0),bZ (x:=r.y1-r.y0),bZ (by omega) (by omega)]
theorem afW{g y:au}(hg:cI g=true)(hy:cI y=true):(bif cI g&&(cI y&&cI (iO g y))then yL (iO g y)else 0)=tL λa b=>wz g a b&&wz y a b:=by
 rw[hg,hy,Bool.true_and,Bool.true_and,<- Ae (akx g y)];cases h:cI (iO g y)with
 |true=>rw[aj,VX h,Vw h]
 |false=>
  rw[ax,<- QF];refine Ae λa b=>Eq.symm ?_;rw[Bool.eq_false_iff];intro hc;rw[wC]at hc;rw[tT]at hg hy;have:cI (iO g y)=true:=by rw[tT];unfold iO at hc ⊢;simp at hc ⊢;omega
  rw[this]at h;cases h
theorem al5(g:au) s (y:au):Eu g s y=bif cI g&&(cI y&&cI (iO g y))then i64.wrap (s+yL (iO g y))else s:=rfl
theorem VY{g:au}(hg:cI g=true):∀A (s:Int),an0 A->A.length<=1000->0<=s->s+1099511627776*A.length<=9223372036854775807->A.foldl (Eu g) s=s+tL λx y=>wz g x y&&iP A x y
 |[],s,_,_,_,_=>by
  have:tL (λ x y=>wz g x y&&iP [] x y)=0:=by rw[<- QF];exact Ae λx y=>by simp[iP]
  rw[this];simp
 |y::A,s,hd,hl,h0,h1=>by
  obtain⟨hp,ho⟩:=hd;rw[pairwise_cons]at hp;have hy:=ho y (by simp);have hc:=afW hg hy;have hb:0<=(bif cI g&&(cI y&&cI (iO g y))then yL (iO g y)else 0)/\(bif cI g&&(cI y&&cI (iO g y))then yL (iO g y)else 0)<=1099511627776:=by
   rw[hg,hy,Bool.true_and,Bool.true_and];cases h:cI (iO g y)with
   |true=>rw[aj,VX h];exact wB h
   |false=>simp
  simp at hl h1;have e:Eu g s y=s+(bif cI g&&(cI y&&cI (iO g y))then yL (iO g y)else 0):=by
   rw[al5];cases h:cI g&&(cI y&&cI (iO g y))with
   |true=>
    rw[h]at hb;simp at hb ⊢;rw[bZ (by omega) (by omega)]
   |false=>simp
  rw[foldl_cons,e,VY hg A _ ⟨hp.2,λr hr=>ho r (by simp[hr])⟩ (by omega) (by omega) (by omega),hc,Int.add_assoc];refine congrArg (λ t=>s+t) (ain λx z=>?_).symm;have hsp:iP (y::A) x z=(wz y x z || iP A x z):=by simp[iP,wz]
  rw[hsp];cases h1:wz y x z with
  |false=>simp[Er]
  |true=>
   have:iP A x z=false:=(by rw[Bool.eq_false_iff];intro hc;have⟨r,hr,hh⟩:=(afE A x z).1 hc;exact hp.1 r hr x z h1 hh);rw[this];cases wz g x z<;>rfl
theorem CB{b:au}{k x y:Int}:wz (yN b k) x y=true↔(b.x0-k<=x/\x<b.x1+k)/\(b.y0-k<=y/\y<b.y1+k):=wC _ _ _
theorem VZ{a:List au}{b:au}(ha:cm a=true)(hb:cI b=true){k:Int}(hk:0<=k):kQ a b k=true↔∀x y,wz (yN b k) x y=true->iP a x y=true:=by
 have⟨h1,h2,_⟩:=ji ha;have key:cI (yN b k)=true->(kQ a b k=true↔∀x y,wz (yN b k) x y=true->iP a x y=true):=λhg=>by
  unfold kQ;rw[hg,Bool.true_and,bM,show(λ s y=>Eu (yN b k) s y)=Eu (yN b k)from rfl,VY hg a 0 (afF ha) (by omega) (by omega) (by omega),VX hg,<- Vw hg,Int.zero_add];constructor;intro he x y hh;have hh':=(wC _ _ _).1 hh;have ho:=(tT _).1 hg;have:=afV (p:=λx y=>wz (yN b k) x y&&iP a x y) (q:=wz (yN b k)) (λ x y h=>(Bool.and_eq_true_iff.1 h).1) he (x:=x) (y:=y) (by omega) (by omega);rw[hh]at this;exact(Bool.and_eq_true_iff.1 this).2;intro h;refine Ae λx y=>?_;cases hh:wz (yN b k) x y with
  |false=>rfl
  |true=>rw[h x y hh];rfl
 constructor;intro h;exact(key (by unfold kQ at h;exact(Bool.and_eq_true_iff.1 h).1)).1 h;intro h;have ho:=(tT b).1 hb;have c1:=xD h1 (h (b.x0-k) (b.y0-k) (CB.2 (by omega)));have c2:=xD h1 (h (b.x1+k-1) (b.y1+k-1) (CB.2 (by omega)));exact(key ((tT _).2 (by unfold yN;simp;omega))).2 h
theorem V3{α β:Type}{lt:α->α->Bool}{lt':β->β->Bool}{f:α->β}(h:∀a b,lt' (f a) (f b)=lt a b)(x:α):∀l:List α,jE lt' (f x) (l.map f)=(jE lt x l).map f
 |[]=>rfl
 |y::ys=>by simp[jE,h];cases lt x y<;>simp[V3 h x ys]
theorem Pb{α β:Type}{lt:α->α->Bool}{lt':β->β->Bool}{f:α->β}(h:∀a b,lt' (f a) (f b)=lt a b)(l:List α):iy lt' (l.map f)=(iy lt l).map f:=by
 have:∀(l a:List α),(l.map f).foldl (λ rs x=>jE lt' x rs) (a.map f)=(l.foldl (λ rs x=>jE lt x rs) a).map f:=by
  intro l
  induction l with
  |nil=>intro a;rfl
  |cons x l ih=>intro a;rw[bg,foldl_cons,foldl_cons,V3 h,ih]
 have:=this l [];simp only[iy,map_nil]at*;rw[this,List.map_reverse]
def mv(d x:Int):Int:=x+d
theorem XX(d:Int)(l:List Int):wa (l.map (mv d))=(wa l).map (mv d):=by
 refine(acK ?_ λz=>?_).symm;rw[List.pairwise_map];exact(zL l).imp λh=>by simp[mv];omega
 simp[GJ]
theorem CF{α:Type}(d:Int)(f:Int->Int->α):∀l:List Int,eG f (l.map (mv d))=eG (λ a b=>f (mv d a) (mv d b)) l
 |[]|[_]=>rfl
 |a::b::l=>by have:=CF d f (b::l);simp[eG]at*;rw[this]
theorem yO{α β:Type}(g:α->β)(f:Int->Int->α):∀l:List Int,eG (λ a b=>g (f a b)) l=(eG f l).map g
 |[]|[_]=>rfl
 |a::b::l=>by simp[eG,yO g f (b::l)]
theorem AX{α:Type}{p q:α->Bool}{l:List α}(h:∀x∈l,p x=q x):l.filter p=l.filter q:=List.filter_congr h
theorem jf{α:Type}{p q:α->Bool}:∀{l:List α},(∀ x∈l,p x=q x)->l.any p=l.any q
 |[],_=>rfl
 |x::l,h=>by rw[List.any_cons,List.any_cons,h x (by simp),jf λy hy=>h y (by simp[hy])]
theorem V4{α:Type}{p q:α->Bool}:∀{l:List α},(∀ x∈l,p x=q x)->l.all p=l.all q
 |[],_=>rfl
 |x::l,h=>by rw[all_cons,all_cons,h x (by simp),V4 λy hy=>h y (by simp[hy])]
section
variable (dx dy:Int)
def cV(r:au):au:=⟨r.x0+dx,r.y0+dy,r.x1+dx,r.y1+dy⟩
def ky(s:aH):aH:=⟨s.from_+dy,s.to+dy⟩
def yv(s:aY):aY:=⟨s.x0+dx,s.x1+dx,s.column.map (ky dy)⟩
end
variable {dx dy:Int} {n:Nat}
theorem al6{a b:aH}(h:ky dy a=ky dy b):a=b:=by obtain⟨a1,a2⟩:=a;obtain⟨b1,b2⟩:=b;simp[ky]at h ⊢;omega
theorem al7{a b:au}(h:cV dx dy a=cV dx dy b):a=b:=by obtain⟨a1,a2,a3,a4⟩:=a;obtain⟨b1,b2,b3,b4⟩:=b;simp[cV]at h ⊢;omega
theorem map_inj{α β:Type}{f:α->β}(h:∀a b,f a=f b->a=b):∀{l m:List α},l.map f=m.map f->l=m
 |[],[],_=>rfl
 |[],_::_,e|_::_,[],e=>by simp at e
 |a::l,b::m,e=>by simp at e;rw[h _ _ e.1,map_inj h e.2]
theorem aho{α β:Type}{f:α->β}(h:∀a b,f a=f b->a=b){l m:List α}:l.map f=m.map f↔l=m:=⟨map_inj h,λe=>by rw[e]⟩
theorem afX(l:List au)(x:Int):fe (l.map (cV dx dy)) (x+dx)=(fe l x).map (ky dy):=by unfold fe;rw[List.filter_map,map_map,map_map,AX (q:=λr:au=>decide (r.x0<=x)&&decide (x<r.x1)) λr _=>by rw[Function.comp,dw];simp;simp only[cV];omega];rfl
theorem anp(o:List aH)(s:aH):mL (o.map (ky dy)) (ky dy s)=(mL o s).map (ky dy):=by
 unfold mL;rw[List.getLast?_map];cases o.getLast? with
 |none=>rfl
 |some q=>
  have e:decide ((ky dy s).from_<=(ky dy q).to)=decide (s.from_<=q.to):=by rw[decide_eq_decide];simp only[ky];omega
  simp[e];cases decide (s.from_<=q.to)with
  |false=>simp
  |true=>
   simp;congr 2;have:max (q.to+dy) (s.to+dy)=max q.to s.to+dy:=(by omega);simp[ky]
theorem M8{α β γ δ:Type}{f:α->γ->α}{f':β->δ->β}{g:α->β}{k:γ->δ}(h:∀a c,f' (g a) (k c)=g (f a c)):∀(l:List γ)(a:α),(l.map k).foldl f' (g a)=g (l.foldl f a)
 |[],_=>rfl
 |c::l,a=>by rw[bg,foldl_cons,foldl_cons,h,M8 h l]
theorem al8(l:List aH):Rb (l.map (ky dy))=(Rb l).map (ky dy):=by unfold Rb;rw[Pb (lt:=q6) λa b=>by simp only[q6];rw[decide_eq_decide];simp only[ky];omega];exact M8 anp (iy q6 l) []
theorem V5(l:List au)(x:Int):bL (l.map (cV dx dy)) (x+dx)=(bL l x).map (ky dy):=by unfold bL;rw[afX,al8]
theorem Zv(l:List au):eF (l.map (cV dx dy))=(eF l).map (mv dx):=by unfold eF;rw[<- XX,List.flatMap_map,List.map_flatMap];rfl
theorem afY(l:List au):aV (l.map (cV dx dy))=(aV l).map (yv dx dy):=by unfold aV;rw[Zv,CF,<- yO];congr 1;funext a b;simp[mv,V5,yv]
theorem Zw(x0 x1:Int)(c:List aH):jZ (x0+dx) (x1+dx) (c.map (ky dy))=(jZ x0 x1 c).map (cV dx dy):=by unfold jZ;rw[map_map,map_map];rfl
theorem XS:∀(l:List aY)(x0 x1:Int)(c:List aH),Rc (x0+dx) (x1+dx) (c.map (ky dy)) (l.map (yv dx dy))=(Rc x0 x1 c l).map (cV dx dy)
 |[],x0,x1,c=>Zw x0 x1 c
 |s::l,x0,x1,c=>by have e:((yv dx dy s).column=c.map (ky dy))↔s.column=c:=aho λ_ _=>al6;simp[Rc,e];split;exact XS l x0 s.x1 c;rw[map_append,Zw];congr 1;exact XS l s.x0 s.x1 s.column
theorem Zx(l:List aY):gI (l.map (yv dx dy))=(gI l).map (cV dx dy):=by
 cases l with
 |nil=>rfl
 |cons s l=>exact XS l s.x0 s.x1 s.column
def Flat(r:au):Prop:=(0<=r.x0/\r.x0<=524288)/\(0<=r.y0/\r.y0<=524288)/\(0<=r.x1/\r.x1<=524288)/\0<=r.y1/\r.y1<=524288
def dJ(dx dy:Int):Prop:=(0<=dx/\dx<=524288)/\0<=dy/\dy<=524288
theorem tY(hd:dJ dx dy){r:au}(h:Flat r):cI (cV dx dy r)=cI r:=by obtain⟨⟨_,_⟩,_,_⟩:=hd;obtain⟨⟨_,_⟩,⟨_,_⟩,⟨_,_⟩,_,_⟩:=h;rw[dw];simp;simp[cV];omega
theorem anq(hd:dJ dx dy){l:List au}(h:∀r∈l,Flat r):(l.map (cV dx dy)).all cI=l.all cI:=by rw[List.all_map];exact V4 λr hr=>tY hd (h r hr)
theorem anr(hd:dJ dx dy){l:List au}(h:∀r∈l,Flat r):pc (l.map (cV dx dy))=((pc l).1.map (cV dx dy),(pc l).2):=by unfold pc;rw[anq hd h,afY,Zx,length_map,length_map];split;split;rfl;split<;>rfl;rfl
theorem pR(hd:dJ dx dy){l:List au}(h:∀r∈l,Flat r):cm (l.map (cV dx dy))=cm l:=by unfold cm;rw[anr hd h];congr 1;rw[decide_eq_decide];exact aho λ_ _=>al7
theorem ant(o:List aH)(s:aH):ext (o.map (ky dy)) (ky dy s)=(ext o s).map (ky dy):=by
 unfold ext;rw[List.getLast?_map];cases o.getLast? with
 |none=>rfl
 |some q=>
  have e:((ky dy q).to==(ky dy s).from_)=(q.to==s.from_):=by rw[dw];simp;simp only[ky];omega
  simp[e];cases q.to==s.from_ with
  |false=>simp
  |true=>simp;rfl
theorem akQ(l:List aH)(y:Int):er (l.map (ky dy)) (y+dy)=er l y:=by unfold er;rw[List.any_map];refine jf λs _=>?_;rw[Function.comp,dw];simp;simp only[ky];omega
theorem aiH(keep:Bool->Bool->Bool)(a b:List aH):kH keep (a.map (ky dy)) (b.map (ky dy))=(kH keep a b).map (ky dy):=by
 have hy:gp (a.map (ky dy)) (b.map (ky dy))=(gp a b).map (mv dy):=by unfold gp;rw[<- XX,<- map_append,List.flatMap_map,List.map_flatMap];rfl
 unfold kH;rw[hy,CF,show(λ a b=>aH.mk (mv dy a) (mv dy b))=λa b=>ky dy (aH.mk a b)from rfl,yO,List.filter_map];rw[List.filter_congr (q:=λp=>keep (er a p.from_) (er b p.from_)) λs _=>by have h1:=akQ (dy:=dy) a s.from_;have h2:=akQ (dy:=dy) b s.from_;simp;rw[show (ky dy s).from_=s.from_+dy from rfl,h1,h2]];exact M8 ant _ []
theorem adF(hd:dJ dx dy)(keep:Bool->Bool->Bool){a b:List au}(ha:∀r∈a,Flat r)(hb:∀r∈b,Flat r):gJ keep (a.map (cV dx dy)) (b.map (cV dx dy))=((gJ keep a b).1.map (cV dx dy),(gJ keep a b).2):=by
 have hc:mW keep (a.map (cV dx dy)) (b.map (cV dx dy))=(mW keep a b).map (yv dx dy):=by unfold mW;rw[<- map_append,Zv,CF,<- yO];congr 1;funext x x';simp[mv,V5,aiH,yv]
 unfold gJ;rw[pR hd ha,pR hd hb,hc,Zx,length_map];split;split<;>rfl;rfl
section
variable (dx dy:Int)
def pL(p:bK):bK:=⟨p.x+dx,p.y+dy⟩
def sy(s:iH):iH:=⟨s.j0+dx,s.nb+dy,s.kA+dx,s.rI+dy⟩
end
def wD(p:bK):Prop:=(0<=p.x/\p.x<=524288)/\0<=p.y/\p.y<=524288
theorem MT{p:List bK}{i:Nat}(h:i<p.length):mz (p.map (pL dx dy)) i=pL dx dy (mz p i):=by simp[mz,h]
theorem CG{p:List bK}{i:Nat}(h:i<p.length):fK (p.map (pL dx dy)) i=sy dx dy (fK p i):=by have h2:(i+1)%p.length<p.length:=Nat.mod_lt _ (by omega);simp[fK,MT h,MT h2];rfl
theorem aiI(p:List bK):fC (p.map (pL dx dy))=(fC p).map (sy dx dy):=by unfold fC;rw[length_map,map_map];exact map_congr_left λi hi=>CG (List.mem_range.1 hi)
theorem Mm(s:iH):rk (sy dx dy s)=rk s:=by unfold rk;rw[dw];simp;simp only[sy];omega
theorem aiJ(s t:iH):Kz (sy dx dy s) (sy dx dy t)=Kz s t:=by unfold Kz;rw[dw];simp;simp[sy]
theorem afZ(a b:bK):El (pL dx dy a) (pL dx dy b)=El a b:=by unfold El;rw[dw];simp;simp only[pL];omega
theorem aiK(hd:dJ dx dy){a:bK}(h:wD a):Ej (pL dx dy a)=Ej a:=by obtain⟨⟨_,_⟩,_,_⟩:=hd;obtain⟨⟨_,_⟩,_,_⟩:=h;unfold Ej;rw[dw];simp;simp[pL];omega
theorem adG{p:List bK}(h:∀a∈p,wD a){i:Nat}(hi:i<p.length):wD (mz p i):=by simp[mz,dD hi];exact h _ (getElem_mem hi)
theorem al9(hd:dJ dx dy){p:List bK}(h:∀a∈p,wD a){i:Nat}(hi:i<p.length):wg (p.map (pL dx dy)) i=wg p i:=by
 have h2:(i+1)%p.length<p.length:=Nat.mod_lt _ (by omega);unfold wg;rw[MT hi,aiK hd (adG h hi),length_map,CG hi,CG h2,Mm,Mm,MT (show 0<p.length by omega),afZ];have e1:((sy dx dy (fK p i)).j0==(sy dx dy (fK p i)).kA)=((fK p i).j0==(fK p i).kA):=by rw[dw];simp;simp only[sy];omega
 have e2:((sy dx dy (fK p i)).nb==(sy dx dy (fK p i)).rI)=((fK p i).nb==(fK p i).rI):=by rw[dw];simp;simp only[sy];omega
 rw[e1,e2]
theorem aiL(hd:dJ dx dy){p:List bK}(h:∀a∈p,wD a):Em (p.map (pL dx dy))=Em p:=by unfold Em;rw[length_map];by_cases h0:4<=p.length;rw[jf (q:=wg p) λi hi=>al9 hd h (List.mem_range.1 hi)];rw[jf (q:=λi=>(List.range p.length).any λk=>decide (i+2<=k)&&MN p i k) λi hi=>jf λk hk=>by simp[MN,CG (List.mem_range.1 hi),CG (List.mem_range.1 hk),aiJ]];rw[CG (by omega),Mm];simp[h0]
theorem aiM(p:List bK)(x:Int):tN (p.map (pL dx dy)) (x+dx)=(tN p x).map (mv dy):=by unfold tN;rw[aiI,List.filter_map,map_map,map_map,AX (q:=λs:iH=>!rk s&&(decide (min s.j0 s.kA<=x)&&decide (x<max s.j0 s.kA))) λs _=>by simp[Mm];congr 1;rw[dw];simp;simp only[sy];omega];rfl
theorem adH(x0 x1:Int):∀l:List Int,uD (x0+dx) (x1+dx) (l.map (mv dy))=(uD x0 x1 l).map (cV dx dy)
 |[]|[_]=>rfl
 |a::b::l=>by simp[uD,adH x0 x1 l];rfl
theorem akR(p:List bK):ES (p.map (pL dx dy))=(ES p).map (cV dx dy):=by
 have hx:lw (p.map (pL dx dy))=(lw p).map (mv dx):=by unfold lw;rw[<- XX,map_map,map_map];rfl
 unfold ES;rw[hx,CF,List.map_flatten,<- yO];congr 2;funext a b;simp[mv];rw[aiM,Pb (lt:=ke) (f:=mv dy) λa b=>by simp only[ke];rw[decide_eq_decide];simp only[mv];omega];exact adH a b _
theorem af0(hd:dJ dx dy){p:List bK}(h:∀a∈p,wD a):nK (p.map (pL dx dy))=((nK p).1.map (cV dx dy),(nK p).2):=by unfold nK;rw[aiL hd h,akR,length_map];split;split<;>rfl;rfl
theorem Zy{x0 x1:Int}{r:au}:∀{l:List Int},r∈uD x0 x1 l->r.x0=x0/\r.x1=x1/\r.y0∈l/\r.y1∈l
 |[],h|[_],h=>by simp[uD]at h
 |a::b::l,h=>by simp[uD]at h;rcases h with rfl|h;simp;have⟨h1,h2,h3,h4⟩:=Zy h;exact⟨h1,h2,by simp[h3],by simp[h4]⟩
theorem V6{α:Type}{f:Int->Int->α}{x:α}:∀{l:List Int},x∈eG f l->∃a b,a∈l/\b∈l/\x=f a b
 |[],h|[_],h=>by simp[eG]at h
 |a::b::l,h=>by simp[eG]at h;rcases h with rfl|h;exact⟨a,b,by simp,by simp,rfl⟩;have⟨u,v,h1,h2,h3⟩:=V6 h;exact⟨u,v,cO _ h1,cO _ h2,h3⟩
theorem abd{p:List bK}(h:∀a∈p,wD a):∀r∈(nK p).1,Flat r:=by
 intro r hr;have hr:r∈ES p:=by unfold nK at hr;split at hr;split at hr;cases hr;exact hr;cases hr
 unfold ES at hr;obtain⟨c,hc,hrc⟩:=List.mem_flatten.1 hr;obtain⟨a,b,ha,hb,rfl⟩:=V6 hc;have⟨e1,e2,e3,e4⟩:=Zy hrc;have hX:∀x∈lw p,0<=x/\x<=524288:=λx hx=>by obtain⟨q,hq,rfl⟩:=mem_map.1 ((GJ _ _).1 hx);exact(h q hq).1
 have hY:∀y∈iy ke (tN p a),0<=y/\y<=524288:=λy hy=>by rw[(yC ke _).mem_iff]at hy;obtain⟨s,hs,rfl⟩:=mem_map.1 hy;obtain⟨i,hi,rfl⟩:=mem_map.1 (List.mem_filter.1 hs).1;exact(adG h (List.mem_range.1 hi)).2
 have:=hX a ha;have:=hX b hb;have:=hY _ e3;have:=hY _ e4;exact⟨by omega,by omega,by omega,by omega⟩
end Go.Proofs
namespace Go.Proofs
open Go.Gb Go.RowKit
variable {dx dy:Int} {n:Nat}
theorem ahp(a b:au):iO (cV dx dy a) (cV dx dy b)=cV dx dy (iO a b):=by simp only[iO,cV,au.mk.injEq];omega
theorem Zz{a b:au}(ha:Flat a)(hb:Flat b):Flat (iO a b):=by obtain⟨⟨_,_⟩,⟨_,_⟩,⟨_,_⟩,_,_⟩:=ha;obtain⟨⟨_,_⟩,⟨_,_⟩,⟨_,_⟩,_,_⟩:=hb;simp[Flat,iO];omega
theorem akS(r:au):yL (cV dx dy r)=yL r:=by simp[yL,cV];rw[show r.x1+dx-(r.x0+dx)=r.x1-r.x0 by omega,show r.y1+dy-(r.y0+dy)=r.y1-r.y0 by omega]
theorem ama(hd:dJ dx dy){x y:au}(hx:Flat x)(hy:Flat y)(n:Int):Eu (cV dx dy x) n (cV dx dy y)=Eu x n y:=by unfold Eu;rw[ahp,tY hd hx,tY hd hy,tY hd (Zz hx hy),akS]
theorem nL{α β γ:Type}{f:β->γ->β}{g:β->α->β}{k:α->γ}:∀{l:List α},(∀ x∈l,∀b,f b (k x)=g b x)->∀b,(l.map k).foldl f b=l.foldl g b
 |[],_,_=>rfl
 |x::l,h,b=>by rw[bg,foldl_cons,foldl_cons,h x (by simp)];exact nL (λ y hy=>h y (by simp[hy])) _
theorem af2(hd:dJ dx dy){a b:List au}(ha:∀r∈a,Flat r)(hb:∀r∈b,Flat r):xE (a.map (cV dx dy)) (b.map (cV dx dy))=xE a b:=
 nL (λ x hx n=>nL (λ y hy m=>ama hd (ha x hx) (hb y hy) m) n) 0
section
variable (dx dy:Int)
def rm(z:dh):dh:=⟨z.name,z.overlay,z.corners.map (pL dx dy)⟩
end
theorem aiN(hd:dJ dx dy){z:dh}(h:∀a∈z.corners,wD a):qV (rm dx dy z)=(qV z).map (cV dx dy):=by simp[qV,rm,af0 hd h];split<;>rfl
theorem adI{z:dh}(h:∀a∈z.corners,wD a):∀r∈qV z,Flat r:=by intro r hr;unfold qV at hr;split at hr;exact abd h r hr;cases hr
theorem af3(hd:dJ dx dy){zs:List dh}{area:List au}(hz:∀z∈zs,∀a∈z.corners,wD a)(ha:∀r∈area,Flat r):qL (zs.map (rm dx dy)) (area.map (cV dx dy))=qL zs area:=by unfold qL;rw[pR hd ha,map_map];congr 1;exact map_congr_left λz hm=>by simp[aiN hd (hz z hm),af2 hd ha (adI (hz z hm))]
theorem V7(zs:List dh)(i:Nat):(zs.map (rm dx dy)).getD i ⟨⟨#[]⟩,false,[]⟩=rm dx dy (zs.getD i ⟨⟨#[]⟩,false,[]⟩):=by simp;cases zs[i]?<;>rfl
theorem anu(hd:dJ dx dy){zs:List dh}{area:List au}(hz:∀z∈zs,∀a∈z.corners,wD a)(ha:∀r∈area,Flat r):vf (zs.map (rm dx dy)) (area.map (cV dx dy))=vf zs area:=by
 have hb:∀l m,tQ (zs.map (rm dx dy)) l m=tQ zs l m:=λl m=>by simp only[tQ,V7,rm]
 have hc:∀l,vD (zs.map (rm dx dy)) l=vD zs l:=λl=>by funext i;simp only[vD,hb,V7,rm]
 simp only[vf,af3 hd hz ha,hc,V7,rm]
theorem amb(b:au)(l:List dI)(x y:Int):O6 (cV dx dy b) l (x+dx) (y+dy)=O6 b l x y:=by
 have:∀s,J6 (cV dx dy b) s (x+dx) (y+dy)=J6 b s x y:=λs=>by
  simp[J6,cV]
  repeat' split
  all_goals omega
 simp[O6,S6,this]
theorem amc(b:au)(l:List dI)(a:List au):xy (cV dx dy b) l (a.map (cV dx dy))=xy b l a:=
 nL (λ r _ v=>by
  simp[Lk];have e1:(cV dx dy r).x1-1=r.x1-1+dx:=by simp[cV];omega
  have e2:(cV dx dy r).y1-1=r.y1-1+dy:=by simp[cV];omega
  rw[e1,e2];simp[show (cV dx dy r).x0=r.x0+dx from rfl,show(cV dx dy r).y0=r.y0+dy from rfl,amb]) 4096
theorem af4{a:List au}(h:a≠[]):xG (a.map (cV dx dy))=cV dx dy (xG a):=by
 cases a with
 |nil=>exact absurd rfl h
 |cons r l=>exact M8 (λ a c=>by simp only[MW,cV,au.mk.injEq];omega) l r
theorem abe:∀{a:List au},a≠[]->(∀ r∈a,Flat r)->Flat (xG a)
 |[],h,_=>absurd rfl h
 |r::l,_,h=>by
  have:∀(l:List au)(b:au),Flat b->(∀ r∈l,Flat r)->Flat (l.foldl MW b):=by
   intro l
   induction l with
   |nil=>intro b hb _;exact hb
   |cons r l ih=>
    intro b hb hl;refine ih _ ?_ λq hq=>hl q (by simp[hq]);have hr:=hl r (by simp);obtain⟨⟨_,_⟩,⟨_,_⟩,⟨_,_⟩,_,_⟩:=hr;obtain⟨⟨_,_⟩,⟨_,_⟩,⟨_,_⟩,_,_⟩:=hb;simp[Flat,MW];omega
  exact this l r (h r (by simp)) λq hq=>h q (by simp[hq])
section
variable (dx dy:Int)
def ep(v:aA):aA:={ v with aE:=v.aE+dx,bp:=v.bp+dy,az:=v.az+dx,bo:=v.bo+dy }
def sA(b:bF):bF:={ b with cy:=b.cy+dx,cw:=b.cw+dy,cx:=b.cx+dx,ct:=b.ct+dy }
def Dd(e:cK):cK:=⟨e.lot,e.area.map (cV dx dy),e.top⟩
end
def uF(v:aA):Prop:=Flat (bH v)
def ld(b:bF):au:=⟨b.cy,b.cw,b.cx,b.ct⟩
theorem Mb(hd:dJ dx dy){v:aA}(h:uF v):okV (ep dx dy v)=okV v:=by have:cI (bH (ep dx dy v))=cI (bH v):=tY hd h;rw[okV,this];rfl
theorem amd(hd:dJ dx dy){a b:au}(ha:Flat a)(hb:Flat b):Cp (cV dx dy a) (cV dx dy b)=Cp a b:=by unfold Cp;rw[tY hd ha,tY hd hb];simp only[cV];rw[show max (a.x0+dx) (b.x0+dx)-min (a.x1+dx) (b.x1+dx)=max a.x0 b.x0-min a.x1 b.x1 by omega,show max (a.y0+dy) (b.y0+dy)-min (a.y1+dy) (b.y1+dy)=max a.y0 b.y0-min a.y1 b.y1 by omega]
theorem aiO(hd:dJ dx dy){lot:Int}{r:aL}{v:aA}{b:bF}(hv:uF v)(hb:Flat (ld b)):KL lot r (ep dx dy v) (sA dx dy b)=KL lot r v b:=by unfold KL dn;simp[jc,adh];have e1:cI (au.mk (sA dx dy b).cy (sA dx dy b).cw (sA dx dy b).cx (sA dx dy b).ct)=cI (ld b):=tY hd hb;have e2:Cp (au.mk (ep dx dy v).aE (ep dx dy v).bp (ep dx dy v).az (ep dx dy v).bo) (au.mk (sA dx dy b).cy (sA dx dy b).cw (sA dx dy b).cx (sA dx dy b).ct)=Cp (bH v) (ld b):=amd hd hv hb;rw[e1,e2];rfl
theorem aiP(hd:dJ dx dy){built:List bF}{lot:Int}{r:aL}{v:aA}(hv:uF v)(hb:∀b∈built,Flat (ld b)):EA (built.map (sA dx dy)) lot r (ep dx dy v)=EA built lot r v:=by unfold EA;rw[List.any_map];exact jf λb hm=>aiO hd hv (hb b hm)
theorem V8(hd:dJ dx dy){v:aA}(hv:uF v):uU (mh (ep dx dy v))=uU (mh v):=by
 have h:=pR hd (l:=[bH v]) (λ r hr=>by rw[aZ.1 hr];exact hv);have h:cm [bH (ep dx dy v)]=cm [bH v]:=h;have e:∀(v:aA),uU (mh v)=!(decide (v.c9<0) || (decide (v.c9>=v.cR) || (decide (v.cR>4096) || (false || !cm [bH v])))):=λv=>by simp[uU,mh,yM,we,Cl]
 rw[e,e,h];rfl
theorem af5(hd:dJ dx dy){area:List au}{p:dI}{v:aA}(hv:uF v)(ha:∀r∈area,Flat r):xI (tV (area.map (cV dx dy))).1 p (ep dx dy v)=xI (tV area).1 p v:=by
 have hb:tV (area.map (cV dx dy))=bif decide (area≠[])&&cm area then(cV dx dy (xG area),true)else(⟨0,0,0,0⟩,false):=by
  unfold tV;rw[pR hd ha];by_cases h:area=[];subst h;rfl;have h1:decide (area.map (cV dx dy)≠[])=true:=by simpa using h
  have h2:decide (area≠[])=true:=by simpa using h
  rw[h1,h2,af4 h]
 rw[hb,tV];cases hc:decide (area≠[])&&cm area with
 |false=>rfl
 |true=>
  have h:area≠[]:=by rw[bq,bM]at hc;exact hc.1
  simp[xI,Af,tY hd (abe h ha),V8 hd hv];congr 2;have:=amc (dx:=dx) (dy:=dy) (xG area) [p] [bH v];have:xy (cV dx dy (xG area)) [p] [bH (ep dx dy v)]=xy (xG area) [p] [bH v]:=this;simp[mh,List.any_cons,List.any_nil,this];rfl
theorem akT(a b:List au):J5 (a.map (cV dx dy)) (b.map (cV dx dy))=J5 a b:=by unfold J5;rw[List.any_map];refine jf λp _=>?_;simp only[Function.comp];rw[List.any_map];refine jf λq _=>?_;simp[H2];rw[dw];simp;simp[cV]
theorem akU(hd:dJ dx dy){l:List cK}{lot:Int}{v:aA}(hv:uF v)(hl:∀e∈l,∀r∈e.area,Flat r):QJ (l.map (Dd dx dy)) lot (mh (ep dx dy v))=QJ l lot (mh v):=by unfold QJ;rw[V8 hd hv,List.any_map];congr 2;refine jf λe he=>?_;have h:=akT (dx:=dx) (dy:=dy) [bH v] e.area;have h:J5 [bH (ep dx dy v)] (e.area.map (cV dx dy))=J5 [bH v] e.area:=h;simp[HM,Dd,pR hd (hl e he),mh,h];rfl
theorem af6{a:List au}{b:au}(ha:cm a=true)(ha':cm (a.map (cV dx dy))=true)(hb:cI b=true)(hb':cI (cV dx dy b)=true){k:Int}(hk:0<=k):kQ (a.map (cV dx dy)) (cV dx dy b) k=kQ a b k:=by
 rw[dw,VZ ha hb hk,VZ ha' hb' hk];have hc:∀x y,iP (a.map (cV dx dy)) (x+dx) (y+dy)=iP a x y:=λx y=>by unfold iP;rw[List.any_map];refine jf λr _=>?_;rw[Function.comp,dw];simp;simp only[cV];omega
 constructor;intro h x y hh;rw[<- hc];exact h _ _ (CB.2 (by have:=CB.1 hh;simp[cV];omega));intro h x y hh;have:=h (x-dx) (y-dy) (CB.2 (by have:=CB.1 hh;simp[cV]at this;omega));rw[<- hc,show x-dx+dx=x by omega,show y-dy+dy=y by omega]at this;exact this
end Go.Proofs
namespace Go.Proofs
open Go.Gb Go.RowKit
variable {dx dy:Int} {n:Nat}
section
variable (dx dy:Int)
def C7(p:eD):eD:=⟨p.cp.map (ep dx dy),p.gives⟩
def my(d:aJ):aJ:=⟨d.lot,d.phases.map (C7 dx dy)⟩
def l4(l:dO):dO:=⟨l.id,l.owner,l.area.map (cV dx dy),l.from_⟩
def tM(c:fE):fE:=⟨c.name,c.load,c.limit,c.corners.map (pL dx dy)⟩
def nh(t:dm):dm:={ t with bk:=t.bk.map (rm dx dy),bu:=t.bu.map (tM dx dy),land:=t.land.map (l4 dx dy),b8:=t.b8.map (Dd dx dy),built:=t.built.map (sA dx dy) }
end
theorem Ib(d:aJ):ig (my dx dy d)=(ig d).map (ep dx dy):=by simp[ig,my,List.flatMap_map,List.map_flatMap];rfl
theorem V9(land:List dO)(id:Int):fq (land.map (l4 dx dy)) id=(l4 dx dy (fq land id).1,(fq land id).2):=by simp[fq];rw[show (λ t:dO=>t.id==id)∘l4 dx dy=λt=>t.id==id from rfl];cases land.find? λt=>t.id==id<;>rfl
theorem Pd{α β:Type}(f:α->β)(l:List α)(i:Int):cd (l.map f) i=(cd l i).map f:=by unfold cd;cases decide (0<=i)<;>simp
theorem at_mem{α:Type}{l:List α}{i:Int}{x:α}(h:cd l i=some x):x∈l:=by
 unfold cd at h;cases hc:decide (0<=i)with
 |false=>rw[hc]at h;cases h
 |true=>rw[hc]at h;exact bX h
theorem ame{α β:Type}(f:α->β)(l:List α)(a b:Nat):sub (l.map f) a b=(sub l a b).map f:=by simp[sub]
theorem amf{α:Type}{l:List α}{a b:Nat}{x:α}(h:x∈sub l a b):x∈l:=List.mem_of_mem_drop (List.mem_of_mem_take h)
theorem amg{l:List aA}{φ φ':(aA×Unit)->Option Bool}(h:∀x∈l,φ' (ep dx dy x,())=φ (x,())):dF n (l.map (ep dx dy)) φ'=dF n l φ:=by
 have:jK (l.map (ep dx dy)) φ'=jK l φ:=by
  funext v;simp[jK,Pd];cases hx:cd l v with
  |none=>rfl
  |some x=>simp[h x (at_mem hx)]
 simp[dF,mG,this]
theorem amh{l:List fE}{φ:(fE×Unit)->Option Bool}(h:∀x,φ (tM dx dy x,())=φ (x,())):gu n (l.map (tM dx dy)) φ=gu n l φ:=by
 have:mH (l.map (tM dx dy)) φ=mH l φ:=by
  funext v;simp[mH,Pd];cases cd l v with
  |none=>rfl
  |some x=>simp[h x]
 simp[gu,pF,this]
theorem af7(hd:dJ dx dy){x y:aA}(hx:uF x)(hy:uF y):iJ (ep dx dy y) (ep dx dy x)=iJ y x:=by
 simp only[iJ,rZ,tO];have e1:cI (au.mk (ep dx dy x).aE (ep dx dy x).bp (ep dx dy x).az (ep dx dy x).bo)=cI (bH x):=tY hd hx;have e2:cI (au.mk (ep dx dy y).aE (ep dx dy y).bp (ep dx dy y).az (ep dx dy y).bo)=cI (bH y):=tY hd hy;have e3:cI (iO (au.mk (ep dx dy x).aE (ep dx dy x).bp (ep dx dy x).az (ep dx dy x).bo) (au.mk (ep dx dy y).aE (ep dx dy y).bp (ep dx dy y).az (ep dx dy y).bo))=cI (iO (bH x) (bH y)):=by have:=tY hd (Zz hx hy);rw[<- ahp]at this;exact this
 rw[e1,e2,e3];show _=((some (bif cI (bH x)&&(cI (bH y)&&cI (iO (bH x) (bH y)))then _ else _)).bind _).bind _;cases cI (bH x)&&(cI (bH y)&&cI (iO (bH x) (bH y)))<;>rfl
theorem af8(hd:dJ dx dy){n:Nat}{l:List aA}(h:∀v∈l,uF v):gK n (l.map (ep dx dy))=gK n l:=by
 funext v;simp only[gK,length_map,Pd,ame];cases hx:cd l (((0:Nat):Int)+v)with
 |none=>simp
 |some x=>
  have hm:=h x (at_mem hx);simp[kI,Mb hd hm];rw[amg (n:=n) (l:=sub l 0 v.toNat) (φ:=λ(y1:aA×Unit)=>iJ y1.1 x) λy hy=>af7 hd hm (h y (amf hy))]
theorem af9(d:aJ):gL n (my dx dy d)=gL n d:=by funext v;simp[gL,my,Pd];cases cd d.phases v<;>rfl
def QO(d:aJ):Prop:=∀v∈ig d,uF v
theorem L7{d:aJ}(h:H8 d):H8 (my dx dy d):=by refine⟨by simpa[my]using h.1,λp hp=>?_⟩;obtain⟨q,hq,rfl⟩:=mem_map.1 hp;simpa[C7]using h.2 q hq
theorem ami(hd:dJ dx dy){n:Nat}{d:aJ}(hf:H8 d)(h:QO d)(hn:1001<=n):nC n (my dx dy d)=nC n d:=by simp[nC,all_eq hf hn,all_eq (L7 hf) hn,Ib,af8 hd h,af9];simp[my];rfl
theorem ahq(l:List au):Fb (l.map (cV dx dy))=Fb l:=by unfold Fb;rw[map_map];congr 1;refine map_congr_left λr _=>?_;simp[Cs,cV];rw[show r.x1+dx-(r.x0+dx)=r.x1-r.x0 by omega,show r.y1+dy-(r.y0+dy)=r.y1-r.y0 by omega]
theorem ZA(hd:dJ dx dy){r:au}(h:Flat r):oh (cV dx dy r)=oh r:=by
 simp[oh,Et,tY hd h];cases cI r with
 |false=>rfl
 |true=>
  simp[cV];rw[show r.x1+dx-(r.x0+dx)=r.x1-r.x0 by omega,show r.y1+dy-(r.y0+dy)=r.y1-r.y0 by omega]
theorem adJ(hd:dJ dx dy){n:Nat}{lot:dO}{l:List aA}(h:∀v∈l,uF v)(ha:∀r∈lot.area,Flat r)(hl:lot.area.length<=900)(hn:2000<=n):fP n (l4 dx dy lot) (l.map (ep dx dy))=fP n lot l:=by
 funext v;simp only[fP,length_map,Pd];cases hx:cd l (((0:Nat):Int)+v)with
 |none=>simp
 |some x=>
  have hm:uF x:=h x (at_mem hx);have hb:∀r∈[bH x],Flat r:=λr hr=>by rw[aZ.1 hr];exact hm
  have hc:=adF hd (λ p q=>p&&q) ha hb;have c1:=Ep (n:=n) (a:=lot.area) (b:=[bH x]) (by omega) (by simp) (by omega) (by simp;omega) (by omega);have c2:=Ep (n:=n) (a:=lot.area.map (cV dx dy)) (b:=[bH x].map (cV dx dy)) (by simp;omega) (by simp) (by simp;omega) (by simp;omega) (by omega);have hr:oh (au.mk (ep dx dy x).aE (ep dx dy x).bp (ep dx dy x).az (ep dx dy x).bo)=oh (au.mk x.aE x.bp x.az x.bo):=ZA hd hm;have hlen:=MS (keep:=λp q=>p&&q) lot.area [bH x];rw[hc]at c2;have c2:xR n (l4 dx dy lot).area [au.mk (ep dx dy x).aE (ep dx dy x).bp (ep dx dy x).az (ep dx dy x).bo]=_:=c2;have c1:xR n lot.area [au.mk x.aE x.bp x.az x.bo]=_:=c1;simp[show ∀r:au,sub [r] 0 1=[r]from λ_=>rfl,c1,c2,hr];cases he:((gJ (λ p q=>p&&q) lot.area [bH x]).2 !=0)with
  |true=>rfl
  |false=>
   have he:(gJ (λ p q=>p&&q) lot.area [bH x]).2=0:=(by simpa using he);obtain⟨_,_,r1,_⟩:=J4 (keep:=λp q=>p&&q) rfl (r:=(gJ (λ p q=>p&&q) lot.area [bH x]).1) (by rw[<- he]);obtain⟨_,_,r2,_⟩:=J4 (keep:=λp q=>p&&q) rfl (a:=lot.area.map (cV dx dy)) (b:=[bH x].map (cV dx dy)) (r:=(gJ (λ p q=>p&&q) lot.area [bH x]).1.map (cV dx dy)) (by rw[hc,<- he]);rw[Es (n:=n) (a:=(gJ (λ p q=>p&&q) lot.area [bH x]).1) (by omega) (by omega),Es (n:=n) (a:=(gJ (λ p q=>p&&q) lot.area [bH x]).1.map (cV dx dy)) (by rw[length_map];omega) (by omega),r1,r2,ahq]
theorem adK{p p':bW}(h:p'.caps=p.caps.map (tM dx dy))(x:eD):fQ n p' (C7 dx dy x)=fQ n p x:=by
 funext v;simp[fQ,h,C7];cases cd x.gives v with
 |none=>rfl
 |some y=>
  simp[amh (n:=n) (l:=p.caps) (φ:=λ(y1:fE×Unit)=>pE y1.1 y) λ_=>rfl];rfl
theorem adL{p p':bW}(h:p'.caps=p.caps.map (tM dx dy))(d:aJ):fT n p' (my dx dy d)=fT n p d:=by
 funext v;simp[fT,my,Pd];cases cd d.phases v with
 |none=>rfl
 |some x=>simp[adK h]
theorem akV(hd:dJ dx dy){n:Nat}{p p':bW}{lot:dO}{d:aJ}(hc:p'.caps=p.caps.map (tM dx dy))(hf:H8 d)(h:QO d)(ha:∀r∈lot.area,Flat r)(hl:lot.area.length<=900)(hn:2000<=n):iq n p' (l4 dx dy lot) (my dx dy d)=iq n p lot d:=by
 have e1:kr n (l4 dx dy lot).area=kr n lot.area:=by have h1:(l4 dx dy lot).area=lot.area.map (cV dx dy):=rfl;rw[h1,iM (n:=n) (l:=lot.area.map (cV dx dy)) (by rw[length_map];omega) (by rw[length_map];omega) (by omega),iM (n:=n) (l:=lot.area) (by omega) (by omega) (by omega),pR hd ha]
 simp[iq,ami hd hf h (show 1001<=n by omega),e1,all_eq hf (show 1001<=n by omega),all_eq (L7 hf) (show 1001<=n by omega),Ib,adJ hd h ha hl hn,adL hc];rfl
end Go.Proofs
namespace Go.Proofs
open Go.Gb Go.RowKit
variable {dx dy:Int} {n:Nat}
theorem Wh{α σ:Type}{g:σ->α->σ}{R:α->Prop}{S:σ->Prop}(hS:∀s x,S s->R x->S (g s x)){a:α}(ha:R a):∀{p:List α}(_:∀x∈p,R x)(_:∀x∈p,∀s,S s->g (g s x) a=g (g s a) x)(q:List α)(s:σ),S s->(p++a::q).foldl g s=(a::(p++q)).foldl g s
 |[],_,_,_,_,_=>rfl
 |x::p,hp,h,q,s,hs=>by have ih:=Wh hS ha (p:=p) (λ y hy=>hp y (by simp[hy])) (λ y hy=>h y (by simp[hy])) q (g s x) (hS _ _ hs (hp x (by simp)));simp at ih ⊢;rw[ih,h x (by simp) s hs]
theorem QR{α σ:Type}{g:σ->α->σ}{R:α->Prop}{S:σ->Prop}{key:α->Int}(hS:∀s x,S s->R x->S (g s x))(hg:∀a b s,R a->R b->key a=key b->S s->g (g s a) b=g (g s b) a):∀{l m:List α},l.Perm m->(∀ x∈l,R x)->l.Pairwise (λ x y=>key x<=key y)->m.Pairwise (λ x y=>key x<=key y)->∀s,S s->l.foldl g s=m.foldl g s
 |[],m,hp,_,_,_,s,_=>by rw[List.nil_perm.1 hp]
 |a::l,m,hp,hr,hl,hm,s,hs=>by
  obtain⟨p,q,rfl⟩:=List.append_of_mem (hp.mem_iff.1 (List.mem_cons_self (a:=a) (l:=l)));have hpr:∀x∈p++a::q,R x:=λx hx=>hr x (hp.mem_iff.2 hx);have hmin:∀x∈a::l,key a<=key x:=λx hx=>by rcases aP.1 hx with rfl|hx;exact Int.le_refl _;exact(pairwise_cons.1 hl).1 x hx
  have hk:∀x∈p,key x=key a:=λx hx=>Int.le_antisymm ((List.pairwise_append.1 hm).2.2 x hx a (by simp)) (hmin x (hp.mem_iff.2 (by simp[hx])));have ha:=hr a (by simp);rw[Wh hS ha (λ x hx=>hpr x (by simp[hx])) (λ x hx s hs=>hg x a s (hpr x (by simp[hx])) ha (hk x hx) hs) q s hs,foldl_cons,foldl_cons];have hp':l.Perm (p++q):=((hp.trans List.perm_middle).cons_inv);refine QR hS hg hp' (λ x hx=>hr x (by simp[hx])) (pairwise_cons.1 hl).2 ?_ _ (hS _ _ hs ha);rw[List.pairwise_append]at hm ⊢;exact⟨hm.1,(pairwise_cons.1 hm.2.1).2,λx hx y hy=>hm.2.2 x hx y (by simp[hy])⟩
theorem xV{z:Int}(h: -9223372036854775808<=z/\z<=9223372036854775807):i64.wrap z=z:=bZ h.1 h.2
def Lq(r:au):Prop:=cI r=true
def H3(s:Int×Int):Prop:=0<=s.2/\s.2<=1048576
theorem akW{x w:Int}(s:Int×Int)(r:au)(hs:H3 s)(hr:Lq r):H3 (cst x w s r):=by
 have:=(tT r).1 hr;unfold cst H3 at*;cases decide (r.x0<=x)&&(decide (x<r.x1)&&decide (r.y1>s.2))with
 |false=>exact hs
 |true=>simp only[aj];omega
theorem ZB(z:Int):i64.wrap z=(z+9223372036854775808)%18446744073709551616-9223372036854775808:=by show(if (true&&decide (z%2 ^ 64>=2 ^ (64-1)))=true then z%2 ^ 64-2 ^ 64 else z%2 ^ 64)=_;split;rename_i h;have h:z%2 ^ 64>=2 ^ (64-1):=of_decide_eq_true h;omega;rename_i h;have h:¬z%2 ^ 64>=2 ^ (64-1):=λq=>h (decide_eq_true q);omega
theorem ZC(a b:Int):i64.wrap (a+i64.wrap b)=i64.wrap (a+b):=by simp[ZB];omega
theorem ZE(a b c:Int):i64.wrap (i64.wrap (a+i64.wrap b)+i64.wrap c)=i64.wrap (a+(b+c)):=by simp[ZB];omega
theorem akX{x w:Int}(a b:au)(s:Int×Int)(ha:Lq a)(hb:Lq b)(hk:a.y0=b.y0)(hs:H3 s):cst x w (cst x w s a) b=cst x w (cst x w s b) a:=by
 have h1:=(tT a).1 ha;have h2:=(tT b).1 hb;obtain⟨n,y⟩:=s;have hy:0<=y/\y<=1048576:=hs;unfold cst;by_cases c1:a.x0<=x<;>by_cases c2:x<a.x1<;>by_cases c3:b.x0<=x<;>by_cases c4:x<b.x1<;>simp only[c1,c2,c3,c4,decide_true,decide_false,Bool.true_and,Bool.false_and,ax,Bool.and_false];by_cases d1:a.y1>y<;>by_cases d2:b.y1>y<;>simp only[d1,d2,decide_true,decide_false,aj,ax]
 ·by_cases e:a.y1<b.y1
  ·have e1:b.y1>a.y1:=e;have e2:¬a.y1>b.y1:=(by omega);simp only[e1,e2,decide_true,decide_false,aj,ax,Prod.mk.injEq,and_true];rw[xV (z:=a.y1-max y a.y0) (by omega),xV (z:=b.y1-max a.y1 b.y0) (by omega),xV (z:=b.y1-max y b.y0) (by omega),ZE,<- Int.mul_add];rw[show a.y1-max y a.y0+(b.y1-max a.y1 b.y0)=b.y1-max y b.y0 by omega,ZC]
  ·by_cases e0:b.y1<a.y1
   ·have e1:a.y1>b.y1:=e0;have e2:¬b.y1>a.y1:=(by omega);simp only[e1,e2,decide_true,decide_false,aj,ax,Prod.mk.injEq,and_true];rw[xV (z:=b.y1-max y b.y0) (by omega),xV (z:=a.y1-max b.y1 a.y0) (by omega),xV (z:=a.y1-max y a.y0) (by omega),ZE,<- Int.mul_add];rw[show b.y1-max y b.y0+(a.y1-max b.y1 a.y0)=a.y1-max y a.y0 by omega,ZC]
   ·have e:a.y1=b.y1:=(by omega);have e1:¬b.y1>a.y1:=(by omega);have e2:¬a.y1>b.y1:=(by omega);simp only[hk,e]
 ·have e1:¬b.y1>a.y1:=by omega
  simp only[e1,decide_false,ax]
 ·have e1:¬a.y1>b.y1:=by omega
  simp only[e1,decide_false,ax]
def JT(dy:Int)(s s':Int×Int):Prop:=s'.1=s.1/\(s'.2=s.2+dy\/(s.2=0/\s'.2=0))
theorem anv(hdy:0<=dy){x w:Int}{s s':Int×Int}{r:au}(hr:cI r=true)(h:JT dy s s')(hs:0<=s.2):JT dy (cst x w s r) (cst (x+dx) w s' (cV dx dy r))/\0<=(cst x w s r).2:=by
 have h1:=(tT r).1 hr;obtain⟨n,y⟩:=s;obtain⟨n',y'⟩:=s';obtain⟨rfl,hy⟩:=h;simp at hy hs;unfold cst;have e:(decide ((cV dx dy r).x0<=x+dx)&&(decide (x+dx<(cV dx dy r).x1)&&decide ((cV dx dy r).y1>y')))=(decide (r.x0<=x)&&(decide (x<r.x1)&&decide (r.y1>y))):=by rw[dw];simp;simp[cV];omega
 simp[e];cases decide (r.x0<=x)&&(decide (x<r.x1)&&decide (r.y1>y))with
 |false=>exact⟨⟨rfl,hy⟩,hs⟩
 |true=>
  simp only[aj,JT,cV];rw[show r.y1+dy-max y' (r.y0+dy)=r.y1-max y r.y0 by omega];exact⟨⟨rfl,.inl trivial⟩,by omega⟩
theorem ahs(hdy:0<=dy){x w:Int}:∀{R:List au}(_:∀r∈R,cI r=true){s s':Int×Int},JT dy s s'->0<=s.2->((R.map (cV dx dy)).foldl (cst (x+dx) w) s').1=(R.foldl (cst x w) s).1
 |[],_,_,_,h,_=>h.1
 |r::R,hr,s,s',h,hs=>by obtain⟨g1,g2⟩:=anv (dx:=dx) (x:=x) (w:=w) hdy (hr r (by simp)) h hs;rw[bg,foldl_cons,foldl_cons];exact ahs hdy (λ q hq=>hr q (by simp[hq])) g1 g2
theorem aiQ(hd:dJ dx dy){l:List aA}(h:∀v∈l,cI (bH v)=true)(h':∀v∈l,cI (cV dx dy (bH v))=true):KH (l.map (ep dx dy))=KH l:=by
 have hX:iy ke ((l.map (ep dx dy)).flatMap λv=>[v.aE,v.az])=(iy ke (l.flatMap λv=>[v.aE,v.az])).map (mv dx):=by rw[<- Pb (lt:=ke) (lt':=ke) (f:=mv dx) λa b=>by simp only[ke];rw[decide_eq_decide];simp only[mv];omega];rw[List.flatMap_map,List.map_flatMap];rfl
 unfold KH Mu;rw[hX];generalize iy ke (l.flatMap λv=>[v.aE,v.az])=X;rw[length_map];have hB:(l.map (ep dx dy)).map bH=(l.map bH).map (cV dx dy):=by rw[map_map,map_map];rfl
 rw[hB];have hb:∀r∈l.map bH,cI r=true:=λr hr=>by obtain⟨v,hv,rfl⟩:=mem_map.1 hr;exact h v hv
 have hb':∀r∈(l.map bH).map (cV dx dy),cI r=true:=λr hr=>by obtain⟨q,hq,rfl⟩:=mem_map.1 hr;obtain⟨v,hv,rfl⟩:=mem_map.1 hq;exact h' v hv
 generalize l.map bH=B at hb hb';have p1:=DR Je B;have p2:=DR Je (B.map (cV dx dy));have s1:=DT Je B;have s2:=DT Je (B.map (cV dx dy));have le:∀{L:List au},L.Pairwise (λ x y=>qe y x=false)->L.Pairwise (λ x y=>x.y0<=y.y0):=λh=>h.imp λh=>by unfold qe at h;simp only[dU]at h;omega
 have hr1:∀r∈mX qe B,cI r=true:=λr hr=>hb r (p1.mem_iff.1 hr);have key:=nL (k:=id) (l:=List.range (X.length-1)) (f:=xt (mX qe (B.map (cV dx dy))) (X.map (mv dx))) (g:=xt (mX qe B) X) (λ k hk n=>?_) 0
 ·rwa [List.map_id]at key
 have hk:k+1<X.length:=by have:=List.mem_range.1 hk;omega
 show xt _ _ n k=_;have hg:∀j,j<X.length->(X.map (mv dx)).getD j 0=X.getD j 0+dx:=λj hj=>by simp[List.getD_eq_getElem?_getD,hj,mv]
 unfold xt;rw[hg k (by omega),hg (k+1) hk,show X.getD (k+1) 0+dx-(X.getD k 0+dx)=X.getD (k+1) 0-X.getD k 0 by omega];have hp:(mX qe (B.map (cV dx dy))).Perm ((mX qe B).map (cV dx dy)):=p2.trans (p1.map _).symm;have hs:((mX qe B).map (cV dx dy)).Pairwise (λ x y=>x.y0<=y.y0):=by rw[List.pairwise_map];exact(le s1).imp λh=>by simp only[cV];omega
 rw[QR (R:=Lq) (S:=H3) (key:=λr=>r.y0) akW akX hp (λ r hr=>hb' r (p2.mem_iff.1 hr)) (le s2) hs (n,0) ⟨Int.le_refl _,by show(0:Int)<=1048576;decide⟩];exact ahs hd.2.1 hr1 ⟨rfl,.inr ⟨rfl,rfl⟩⟩ (Int.le_refl _)
theorem ZF(hd:dJ dx dy){v:aA}(h:uF v):AR (ep dx dy v)=AR v:=by have e:=ZA hd (r:=bH v) h;have e:oh (au.mk (ep dx dy v).aE (ep dx dy v).bp (ep dx dy v).az (ep dx dy v).bo)=oh (au.mk v.aE v.bp v.az v.bo):=e;unfold AR;simp[l5,iK,kI,Mb hd h,e];rfl
theorem akY(hd:dJ dx dy){v:aA}(h:uF v):MZ (ep dx dy v)=MZ v:=by unfold MZ;simp[iK,kI,Mb hd h];rfl
theorem akZ(hd:dJ dx dy){n:Nat}{ts:List bS}{v:aA}(h:uF v):Zn n ts (ep dx dy v)=Zn n ts v:=by unfold Zn;simp[iL,VJ,ZF hd h];rfl
theorem KO{p q:Int->Bool}(h:∀k,0<=k->p k=q k):∀m lo hi,0<=lo->0<=hi->Cw p m lo hi=Cw q m lo hi
 | 0,_,_,_,_=>rfl
 |m+1,lo,hi,h0,h1=>by simp[Cw,h ((lo+hi+1)/2) (by omega),KO h m ((lo+hi+1)/2) hi (by omega) h1];by_cases hc:lo<hi;rw[KO h m lo ((lo+hi+1)/2-1) h0 (by omega)];simp[hc]
theorem adN{a:List au}{l:List aA}(ha:cm a=true)(ha':cm (a.map (cV dx dy))=true)(h:∀v∈l,cI (bH v)=true)(h':∀v∈l,cI (cV dx dy (bH v))=true):tX (a.map (cV dx dy)) (l.map (ep dx dy))=tX a l:=by
 unfold tX;have:∀(l:List aA)(b:Int),0<=b->(∀ v∈l,cI (bH v)=true)->(∀ v∈l,cI (cV dx dy (bH v))=true)->(l.map (ep dx dy)).foldl (λ b v=>Cw (kQ (a.map (cV dx dy)) (bH v)) 21 0 b) b=l.foldl (λ b v=>Cw (kQ a (bH v)) 21 0 b) b:=by
  intro l
  induction l with
  |nil=>intro b _ _ _;rfl
  |cons v l ih=>
   intro b hb h h';rw[bg,foldl_cons,foldl_cons];have e:Cw (kQ (a.map (cV dx dy)) (bH (ep dx dy v))) 21 0 b=Cw (kQ a (bH v)) 21 0 b:=KO (λ k hk=>af6 ha ha' (h v (by simp)) (h' v (by simp)) hk) 21 0 b (Int.le_refl _) hb;rw[e];exact ih _ (SF (kQ a (bH v)) 21 0 b hb).1 (λ u hu=>h u (by simp[hu])) λu hu=>h' u (by simp[hu])
 exact this l 1048576 (by decide) h h'
theorem ak0(hd:dJ dx dy){n:Nat}{ts:List bS}{a:List au}{l:List aA}(ha:cm a=true)(haf:∀r∈a,Flat r)(h:∀v∈l,okV v=true)(hf:∀v∈l,uF v):QL n ts (a.map (cV dx dy)) (l.map (ep dx dy))=QL n ts a l:=by
 have ha':cm (a.map (cV dx dy))=true:=by rw[pR hd haf];exact ha
 have h1:∀v∈l,cI (bH v)=true:=λv hv=>MX (h v hv);have h2:∀v∈l,cI (cV dx dy (bH v))=true:=λv hv=>by rw[tY hd (hf v hv)];exact h1 v hv
 have hs:∀f:aA->Int,(∀ v∈l,f (ep dx dy v)=f v)->xv f (l.map (ep dx dy))=xv f l:=λf hf=>nL (λ v hv s=>by rw[hf v hv]) 0;have hm:∀f:aA->Int,(∀ v∈l,f (ep dx dy v)=f v)->DG f (l.map (ep dx dy))=DG f l:=λf hf=>nL (λ v hv s=>by rw[hf v hv]) 0;unfold QL;rw[ha,ha',ahq,aiQ hd h1 h2,hs AR λv hv=>ZF hd (hf v hv),hm MZ λv hv=>akY hd (hf v hv),hm (·.cR) λ_ _=>rfl,hs (·.units) λ_ _=>rfl,adN ha ha' h1 h2,hs (Zn n ts) λv hv=>akZ hd (hf v hv)]
end Go.Proofs
namespace Go.Proofs
open Go.Gb Go.RowKit
variable {dx dy:Int} {n:Nat}
structure Wi(t:dm):Prop where
 land:∀l∈t.land,∀r∈l.area,Flat r
 vx:∀e∈t.b8,∀r∈e.area,Flat r
 built:∀b∈t.built,Flat (ld b)
 zones:∀z∈t.bk,∀a∈z.corners,wD a
theorem adO{t:dm}(h:Wi t) id:∀r∈(fq t.land id).1.area,Flat r:=by
 unfold fq;cases hf:t.land.find? λx=>x.id==id with
 |none=>intro r hr;cases hr
 |some x=>exact h.land x (List.mem_of_find?_eq_some hf)
theorem amk{t:dm}(h:M6 t):M6 (nh dx dy t):=by
 refine⟨λ l hl=>?_,?_,⟨?_,λe he=>?_⟩,?_,?_,?_,h.rules,h.rule,⟨h.plan.defs,h.plan.tabs⟩⟩
 ·obtain⟨q,hq,rfl⟩:=mem_map.1 hl;have:=h.lots q hq;exact⟨by simpa[l4]using this.1,this.2⟩
 ·simpa[nh]using h.land
 ·simpa[nh]using h.vx.1
 ·obtain⟨q,hq,rfl⟩:=mem_map.1 he;simpa[Dd]using h.vx.2 q hq
 ·simpa[nh]using h.built
 ·simpa[nh]using h.zones
 ·simpa[nh]using h.caps
theorem aml{d:aJ}(h:O7 d):O7 (my dx dy d):=by refine⟨L7 h.1,λp hp=>?_⟩;obtain⟨q,hq,rfl⟩:=mem_map.1 hp;exact h.2 q hq
theorem aht(hd:dJ dx dy){n:Nat}{t:dm}{d:aJ}(ht:M6 t)(hf:Wi t)(hld:O7 d)(sg:QO d)(hn:O8 n):uV n (nh dx dy t) (my dx dy d)=uV n t d:=by have hw:=Cu ht.lots d.lot;have e1:fq (nh dx dy t).land (my dx dy d).lot=(l4 dx dy (fq t.land d.lot).1,(fq t.land d.lot).2):=V9 t.land d.lot;have e2:=akV hd (n:=n) (p:=fp t) (p':=fp (nh dx dy t)) (lot:=(fq t.land d.lot).1) (d:=d) rfl hld.1 sg (adO hf d.lot) hw.1 (by have:=hn.1;omega);simp only[uV,VO,e1,e2]
theorem adP(hd:dJ dx dy){t:dm}{lot:dO}(hf:Wi t)(ha:∀r∈lot.area,Flat r):oo (nh dx dy t) (l4 dx dy lot)=oo t lot:=anu hd hf.zones ha
theorem abh(hd:dJ dx dy){d:aJ}(h:QO d):dZ (my dx dy d)=(dZ d).map (ep dx dy):=by unfold dZ;rw[Ib,<- List.map_take,List.filter_map];congr 1;exact AX λv hv=>Mb hd (h v (List.mem_of_mem_take hv))
theorem amm(hd:dJ dx dy){n:Nat}{t:dm}{lot:dO}{d:aJ}(r:aL)(ht:M6 t)(hf:Wi t)(hl:lot.area.length<=900)(ha:∀r∈lot.area,Flat r)(hr:cm lot.area=true)(hld:O7 d)(sg:QO d)(hn:O8 n):H4 n (nh dx dy t) (l4 dx dy lot) (my dx dy d) r=H4 n t lot d r:=by
 obtain⟨hn1,hn2⟩:=hn;have htb:=ht.plan.tabs;have hT:M1 n (fp t):=⟨by have:=htb.1;omega,by have:=htb.1;omega,λx hx=>by have:=htb.2 x hx;omega⟩;have o1:=T1 (n:=n) (p:=fp t) (lot:=lot) (d:=d) hT hl hld.1 (by omega) t.cj t.bk [] t.bu t.cg t.cz t.ci;have o2:=T1 (n:=n) (p:=fp (nh dx dy t)) (lot:=l4 dx dy lot) (d:=my dx dy d) hT (by simpa[l4]using hl) (L7 hld.1) (by omega) t.cj (t.bk.map (rm dx dy)) [] (t.bu.map (tM dx dy)) t.cg t.cz t.ci;have hs:nU lot=lot.area:=by unfold nU;rw[hr];rfl
 have hs':nU (l4 dx dy lot)=lot.area.map (cV dx dy):=by unfold nU;rw[show (l4 dx dy lot).area=lot.area.map (cV dx dy)from rfl,pR hd ha,hr];rfl
 have hm:=ak0 hd (n:=n) (ts:=t.bx) hr ha (M0 d) (λ v hv=>sg v (List.mem_of_mem_take (List.mem_filter.1 hv).1));rw[hs',abh hd sg,show(fp (nh dx dy t)).tables=t.bx from rfl,hm]at o2;rw[hs]at o1;have o1:kE n (fp t) lot d=_:=o1;have o2:kE n (fp (nh dx dy t)) (l4 dx dy lot) (my dx dy d)=_:=o2;have hz:=KN ht lot;have hE:=VN (n:=n) (d:=t.cj) (ts:=t.bx) (z:=t.bk.map (rm dx dy)) (z':=t.bk) (r:=[]) (r':=[]) (c:=t.bu.map (tM dx dy)) (c':=t.bu) (v:=t.cg) (v':=t.cg) (su:=t.cz) (qt:=t.cz) (h:=t.ci) (h':=t.ci) (zs:=oo t lot) (ms:=QL n t.bx lot.area (dZ d)) (e:=ia r) ht.plan.defs ht.plan.tabs (by simp[QL]) (by omega) hn1 hn2;have hE:vo n (fp (nh dx dy t)) (QL n t.bx lot.area (dZ d)) (oo t lot) (ia r)=vo n (fp t) (QL n t.bx lot.area (dZ d)) (oo t lot) (ia r):=hE;simp only[H4,o1,o2,ai,adP hd hf ha,hE];rfl
theorem anw(hd:dJ dx dy){n:Nat}{t:dm}{lot:dO}{d:aJ}(r:aL)(ht:M6 t)(hf:Wi t)(hl:lot.area.length<=900)(ha:∀r∈lot.area,Flat r)(hr:cm lot.area=true)(hld:O7 d)(sg:QO d)(hn:O8 n):KM n (nh dx dy t) (l4 dx dy lot) (my dx dy d) r=KM n t lot d r:=by
 simp only[KM,amm hd r ht hf hl ha hr hld sg hn,Ib,List.any_map];have h1:(ig d).any ((λ v=>!xI (tV (l4 dx dy lot).area).1 (KJ r) v)∘ep dx dy)=(ig d).any λv=>!xI (tV lot.area).1 (KJ r) v:=
  jf λv hv=>by simp only[Function.comp];rw[show (l4 dx dy lot).area=lot.area.map (cV dx dy)from rfl,af5 hd (sg v hv) ha]
 have h2:(ig d).any (Zp r∘ep dx dy)=(ig d).any (Zp r):=rfl;have h3:(ig d).any (EA (nh dx dy t).built (my dx dy d).lot r∘ep dx dy)=(ig d).any (EA t.built d.lot r):=
  jf λv hv=>aiP hd (sg v hv) hf.built
 rw[h1,h2,h3]
theorem aiR(hd:dJ dx dy){n:Nat}{t:dm}{d:aJ} day (ht:M6 t) (hf:Wi t) (hld:O7 d) (sg:QO d) (hn:O8 n):oG n (nh dx dy t) (my dx dy d) day=oG n t d day:=by
 have hE:=aht hd (n:=n) ht hf hld sg hn;unfold oG;rw[hE];cases h0:(uV n t d==0)with
 |false=>rfl
 |true=>
  have hw:=Cu ht.lots d.lot;have ha:=adO hf d.lot;have hr:cm (kJ t d).area=true:=by
   cases hr:cm (kJ t d).area with
   |true=>rfl
   |false=>
    exfalso;have hfit:VO n t d=true:=(by unfold uV at h0;cases hq:(fq t.land d.lot).2<;>cases hz:VO n t d<;>rw[hq,hz]at h0<;>first|rfl|exact absurd h0 (by decide));obtain⟨b,hb,_⟩:=ahm (n:=n) hld.1 hld.2 (by have:=hn.1;omega);have e2:kr n (fq t.land d.lot).1.area=some false:=(by have hn1:=hn.1;have h9:=hw.1;rw[iM (by omega) (by omega) (by omega)];exact congrArg some hr);simp only[VO,iq,hb,ai,e2]at hfit;cases b<;>cases ((fq t.land d.lot).1.id !=d.lot)<;>simp at hfit
  have Q3:kJ (nh dx dy t) (my dx dy d)=l4 dx dy (kJ t d):=by show(fq (t.land.map (l4 dx dy)) d.lot).1=_;rw[V9];rfl
  simp only[aj];have hb:∀r,KM n (nh dx dy t) (l4 dx dy (kJ t d)) (my dx dy d) r=KM n t (kJ t d) d r:=λr=>anw hd r ht hf hw.1 ha hr hld sg hn;have he:VQ (nh dx dy t) (my dx dy d)=VQ t d:=by unfold VQ;rw[Ib,List.any_map];exact jf λv hv=>by simp only[Function.comp];exact congrArg _ (akU hd (sg v hv) hf.vx)
  have hap:applied (nh dx dy t) (l4 dx dy (kJ t d)) day=applied t (kJ t d) day:=by unfold applied;rw[adP (lot:=kJ t d) hd hf ha];rfl
  rw[Q3,he,hap];unfold EB;simp only[hb]
theorem tZ{α β V O:Type}{l:List α}{step:V->Option (V⊕O)}(f:α->β)(p:α->Bool)(enc:Bool->Int->List β->V)(fin:Bool->List β->O)
 (h:∀i (hi:i<l.length) b ab,ab.length=i->step (enc b i ab)=some (.inl (enc (b&&p l[i]) (i+1:Nat) (ab++[f l[i]]))))
 (hend:∀b ab,ab.length=l.length->step (enc b l.length ab)=some (.inr (fin b ab))) (n:Nat) (hn:l.length<n) b:iter step n (enc b 0 [])=some (fin (b&&l.all p) (l.map f)):=by
 refine Cv (step:=step) (λ i=>enc (b&&(l.take i).all p) i ((l.take i).map f)) l.length _ (by simp) (λ i hi=>?_) ?_ n hn
 ·rw[h i hi _ _ (by simp;omega),jr hi,List.all_append,map_append];simp[Bool.and_assoc]
 ·rw[hend _ _ (by simp),List.take_length]
def uG(r:au):Bool:=decide (min (min r.x0 r.x1) (min r.y0 r.y1)>=0)&&decide (max (max r.x0 r.x1) (max r.y0 r.y1)<=524288)
theorem Jg(r:au):uG r=true↔Flat r:=by simp only[uG,Flat,bq,bM];omega
theorem ahu(r:au):Hf r=some (uG r):=by unfold Hf uG;cases decide (min (min r.x0 r.x1) (min r.y0 r.y1)>=0)<;>rfl
section
variable (dx dy:Int)
def p6(x:Int):Int:=i64.wrap x
def C4(r:au):au:=⟨p6 (r.x0+dx),p6 (r.y0+dy),p6 (r.x1+dx),p6 (r.y1+dy)⟩
def C5(p:bK):bK:=⟨p6 (p.x+dx),p6 (p.y+dy)⟩
def EV(v:aA):aA:=⟨p6 (v.aE+dx),p6 (v.bp+dy),p6 (v.az+dx),p6 (v.bo+dy),v.c9,v.cR,v.use,v.units,v.extra⟩
def E1(b:bF):bF:=⟨b.lot,p6 (b.cy+dx),p6 (b.cw+dy),p6 (b.cx+dx),p6 (b.ct+dy),b.eE,b.eC,b.d6,b.fh,b.fi⟩
end
def Ic(p:bK):Bool:=decide (p.x>=0)&&(decide (p.x<=524288)&&(decide (p.y>=0)&&decide (p.y<=524288)))
theorem Wj(p:bK):Ic p=true↔wD p:=by simp only[Ic,wD,bq,bM];omega
theorem uf(hd:dJ dx dy){x:Int}(h:0<=x/\x<=524288):p6 (x+dx)=x+dx/\p6 (x+dy)=x+dy:=by obtain⟨⟨_,_⟩,_,_⟩:=hd;exact⟨bZ (by omega) (by omega),bZ (by omega) (by omega)⟩
theorem ak1(hd:dJ dx dy){r:au}(h:Flat r):C4 dx dy r=cV dx dy r:=by obtain⟨h1,h2,h3,h4⟩:=h;simp only[C4,cV,(uf hd h1).1,(uf hd h2).2,(uf hd h3).1,(uf hd h4).2]
theorem ak2(hd:dJ dx dy){p:bK}(h:wD p):C5 dx dy p=pL dx dy p:=by simp only[C5,pL,(uf hd h.1).1,(uf hd h.2).2]
theorem anx(hd:dJ dx dy){v:aA}(h:uF v):EV dx dy v=ep dx dy v:=by obtain⟨h1,h2,h3,h4⟩:=h;have e1:=(uf hd h1).1;have e2:=(uf hd h2).2;have e3:=(uf hd h3).1;have e4:=(uf hd h4).2;simp only[bH]at e1 e2 e3 e4;simp only[EV,ep,e1,e2,e3,e4]
theorem anz(hd:dJ dx dy){b:bF}(h:Flat (ld b)):E1 dx dy b=sA dx dy b:=by obtain⟨h1,h2,h3,h4⟩:=h;have e1:=(uf hd h1).1;have e2:=(uf hd h2).2;have e3:=(uf hd h3).1;have e4:=(uf hd h4).2;simp only[ld]at e1 e2 e3 e4;simp only[E1,sA,e1,e2,e3,e4]
theorem ug(b c:Bool):((bif b then some c else some false):Option Bool)=some (b&&c):=by cases b<;>rfl
theorem EC{k w:Nat}(hk:k<=1000)(hw:w<=1000):bQ k k 1 1 w=true:=dP (Nat.le_trans (Nat.mul_le_mul (show k+1<=1001 by omega) hw) (by decide)) (by simp only[maxLen];omega)
theorem Wl l (hl:l.length<=1000) (hn:1001<=n):xU n l dx dy=some (l.map (C4 dx dy),l.all uG):=by have key:=tZ (l:=l) (step:=xA l dx dy) (C4 dx dy) uG (λ b i ab=>(b,i,ab)) (λ b ab=>(b,ab)) (λ i hi b ab ho=>by have s1:∀r:au,sub [r] 0 1=[r]:=λ_=>rfl;simp only[xA,cu hi,aj,bf hi,ai,ahu,ug,s1,length_singleton,ho,EC (k:=i) (w:=32) (by omega) (by omega),eu,aI,aQ i];rfl) (λ b ab ho=>by simp only[xA,nT,ax,aI,aj]) n (by omega) true;have hz:be 0 ([]:List au).length=true:=rfl;simp only[xU,hz,aj,key,ai,fF,aI,Bool.true_and]
theorem Wm l (hl:l.length<=1000) (hn:1001<=n):vZ n l dx dy=some (l.map (EV dx dy),l.all λv=>uG (bH v)):=by have key:=tZ (l:=l) (step:=sQ n l dx dy) (EV dx dy) (λ v=>uG (bH v)) (λ b i ab=>(b,i,ab)) (λ b ab=>(b,ab)) (λ i hi b ab ho=>by have s1:∀r:au,sub [r] 0 1=[r]:=λ_=>rfl;have s2:∀r:aA,sub [r] 0 1=[r]:=λ_=>rfl;have hb:cP 0 1=true:=rfl;have ha:∀r:au,cd [r] ((0:Nat)+0)=some r:=λ_=>rfl;simp only[sQ,cu hi,aj,bf hi,ai,ahu,ug,s1,s2,length_singleton,Wl (n:=n) [_] (by simp) hn,bg,map_nil,hb,ha,ho,EC (k:=i) (w:=72) (by omega) (by omega),eu,aI,aQ i];rfl) (λ b ab ho=>by simp only[sQ,nT,ax,aI,aj]) n (by omega) true;have hz:be 0 ([]:List aA).length=true:=rfl;simp only[vZ,hz,aj,key,ai,fF,aI,Bool.true_and]
theorem Wn l (hl:l.length<=1000) (hn:1001<=n):wh n l dx dy=some (l.map (C5 dx dy),l.all Ic):=by have key:=tZ (l:=l) (step:=sS l dx dy) (C5 dx dy) Ic (λ b i ab=>(b,i,ab)) (λ b ab=>(b,ab)) (λ i hi b ab ho=>by have s1:∀r:bK,sub [r] 0 1=[r]:=λ_=>rfl;simp only[sS,cu hi,aj,bf hi,ai,ug,s1,length_singleton,ho,EC (k:=i) (w:=16) (by omega) (by omega),eu,aI,aQ i];rfl) (λ b ab ho=>by simp only[sS,nT,ax,aI,aj]) n (by omega) true;have hz:be 0 ([]:List bK).length=true:=rfl;simp only[wh,hz,aj,key,ai,fF,aI,Bool.true_and]
end Go.Proofs
namespace Go.Proofs
open Go.Gb Go.RowKit
variable {dx dy:Int} {n:Nat}
section
variable (dx dy:Int)
def ID(l:dO):dO:=⟨l.id,l.owner,l.area.map (C4 dx dy),l.from_⟩
def IF(e:cK):cK:=⟨e.lot,e.area.map (C4 dx dy),e.top⟩
def Ix(z:dh):dh:=⟨z.name,z.overlay,z.corners.map (C5 dx dy)⟩
def IH(c:fE):fE:=⟨c.name,c.load,c.limit,c.corners.map (C5 dx dy)⟩
def E0(p:eD):eD:=⟨p.cp.map (EV dx dy),p.gives⟩
def Nm(t:dm):dm:={ t with bk:=t.bk.map (Ix dx dy),bu:=t.bu.map (IH dx dy),land:=t.land.map (ID dx dy),b8:=t.b8.map (IF dx dy),built:=t.built.map (E1 dx dy) }
end
def Wo(t:dm):Bool:=((((true&&t.land.all λl=>l.area.all uG)&&t.b8.all λe=>e.area.all uG)&&t.built.all λb=>uG (ld b))&&t.bk.all λz=>z.corners.all Ic)&&t.bu.all λc=>c.corners.all Ic
theorem aga{t:dm}(h1:∀l∈t.land,l.area.length<=900)(h1':t.land.length<=1000)(h2:∀e∈t.b8,e.area.length<=900)(h2':t.b8.length<=1000)(h3:t.built.length<=1000)(h4:∀z∈t.bk,z.corners.length<=12)(h4':t.bk.length<=1000)(h5:∀c∈t.bu,c.corners.length<=12)(h5':t.bu.length<=1000)(hn:2000<=n):
 Aa n t dx dy=some (Nm dx dy t,Wo t):=by
 have z1:∀{α:Type},be 0 ([]:List α).length=true:=rfl;have s1:∀{α:Type} (r:α),sub [r] 0 1=[r]:=λ_=>rfl;have k1:=λb=>tZ (l:=t.land) (step:=sU n t dx dy) (ID dx dy) (λ l=>l.area.all uG) (λ b i ab=>(b,i,t.cj,t.bx,t.bk,t.bj,t.bu,t.cg,t.cz,t.ci,t.b8,t.windows,t.built,t.base,ab)) (λ b ab=>(b,t.cj,t.bx,t.bk,t.bj,t.bu,t.cg,t.cz,t.ci,t.b8,t.windows,t.built,t.base,ab)) (λ i hi b ab ho=>by have hm:=h1 _ (getElem_mem hi);simp only[sU,cu hi,aj,bf hi,ai,Wl (n:=n) _ (Nat.le_trans hm (by decide)) (by omega),ug,s1,fF,length_singleton,ho,EC (k:=i) (w:=64) (by omega) (by omega),eu,aI,aQ i];rfl) (λ b ab ho=>by simp only[sU,nT,ax,aI,aj]) n (by omega) b;have k2:=λb L=>tZ (l:=t.b8) (step:=sV n t dx dy) (IF dx dy) (λ l=>l.area.all uG) (λ b i ab=>(b,i,t.cj,t.bx,t.bk,t.bj,t.bu,t.cg,t.cz,t.ci,t.windows,t.built,t.base,L,ab)) (λ b ab=>(b,t.cj,t.bx,t.bk,t.bj,t.bu,t.cg,t.cz,t.ci,t.windows,t.built,t.base,L,ab)) (λ i hi b ab ho=>by have hm:=h2 _ (getElem_mem hi);simp only[sV,cu hi,aj,bf hi,ai,Wl (n:=n) _ (Nat.le_trans hm (by decide)) (by omega),ug,s1,fF,length_singleton,ho,EC (k:=i) (w:=40) (by omega) (by omega),eu,aI,aQ i];rfl) (λ b ab ho=>by simp only[sV,nT,ax,aI,aj]) n (by omega) b;have k3:=λb L E=>tZ (l:=t.built) (step:=sW n t dx dy) (E1 dx dy) (λ b=>uG (ld b)) (λ b i ab=>(b,i,t.cj,t.bx,t.bk,t.bj,t.bu,t.cg,t.cz,t.ci,t.windows,t.base,L,E,ab)) (λ b ab=>(b,t.cj,t.bx,t.bk,t.bj,t.bu,t.cg,t.cz,t.ci,t.windows,t.base,L,E,ab)) (λ i hi b ab ho=>by have hb:cP 0 1=true:=rfl;have ha:∀r:aA,cd [r] ((0:Nat)+0)=some r:=λ_=>rfl;simp only[sW,cu hi,aj,bf hi,ai,Wm (n:=n) [_] (by simp) (by omega),bg,map_nil,all_cons,List.all_nil,Bool.and_true,ug,hb,ha,s1,length_singleton,ho,EC (k:=i) (w:=80) (by omega) (by omega),eu,aI,aQ i];rfl) (λ b ab ho=>by simp only[sW,nT,ax,aI,aj]) n (by omega) b;have k4:=λb L E B=>tZ (l:=t.bk) (step:=sZ n t dx dy) (Ix dx dy) (λ l=>l.corners.all Ic) (λ b i ab=>(b,i,t.cj,t.bx,t.bj,t.bu,t.cg,t.cz,t.ci,t.windows,t.base,L,E,B,ab)) (λ b ab=>(b,t.cj,t.bx,t.bj,t.bu,t.cg,t.cz,t.ci,t.windows,t.base,L,E,B,ab)) (λ i hi b ab ho=>by
  have hm:t.bk[i].corners.length<=1000:=by have:=h4 _ (getElem_mem hi);omega
  simp only[sZ,cu hi,aj,bf hi,ai,Wn (n:=n) _ hm (by omega),ug,s1,fF,length_singleton,ho,EC (k:=i) (w:=48) (by omega) (by omega),eu,aI,aQ i];rfl) (λ b ab ho=>by simp only[sZ,nT,ax,aI,aj]) n (by omega) b
 have k5:=λb L E B Z=>tZ (l:=t.bu) (step:=tq n t dx dy) (IH dx dy) (λ l=>l.corners.all Ic) (λ b i ab=>(b,i,t.cj,t.bx,t.bj,t.cg,t.cz,t.ci,t.windows,t.base,L,E,B,Z,ab)) (λ b ab=>(b,t.cj,t.bx,t.bj,t.cg,t.cz,t.ci,t.windows,t.base,L,E,B,Z,ab)) (λ i hi b ab ho=>by
  have hm:t.bu[i].corners.length<=1000:=by have:=h5 _ (getElem_mem hi);omega
  simp only[tq,cu hi,aj,bf hi,ai,Wn (n:=n) _ hm (by omega),ug,s1,fF,length_singleton,ho,EC (k:=i) (w:=56) (by omega) (by omega),eu,aI,aQ i];rfl) (λ b ab ho=>by simp only[tq,nT,ax,aI,aj]) n (by omega) b
 simp only[Aa,z1,aj,k1,k2,k3,k4,k5,ai,aI,fF];rfl
theorem kK{α β:Type}{f g:α->β}{l:List α}(h:∀x∈l,f x=g x):l.map f=l.map g:=map_congr_left h
theorem anA(hd:dJ dx dy){t:dm}(h:Wo t=true):Nm dx dy t=nh dx dy t/\Wi t:=by
 simp only[Wo,Bool.true_and,bq,all_eq_true]at h;obtain⟨⟨⟨⟨h1,h2⟩,h3⟩,h4⟩,h5⟩:=h;have f1:∀l∈t.land,∀r∈l.area,Flat r:=λl hl r hr=>(Jg r).1 (h1 l hl r hr);have f2:∀l∈t.b8,∀r∈l.area,Flat r:=λl hl r hr=>(Jg r).1 (h2 l hl r hr);have f3:∀b∈t.built,Flat (ld b):=λb hb=>(Jg _).1 (h3 b hb);have f4:∀z∈t.bk,∀a∈z.corners,wD a:=λz hz a ha=>(Wj a).1 (h4 z hz a ha);have f5:∀c∈t.bu,∀a∈c.corners,wD a:=λc hc a ha=>(Wj a).1 (h5 c hc a ha);refine⟨?_,f1,f2,f3,f4⟩;have e1:t.land.map (ID dx dy)=t.land.map (l4 dx dy):=kK λl hl=>by simp only[ID,l4,kK λr hr=>ak1 hd (f1 l hl r hr)]
 have e2:t.b8.map (IF dx dy)=t.b8.map (Dd dx dy):=kK λl hl=>by simp only[IF,Dd,kK λr hr=>ak1 hd (f2 l hl r hr)]
 have e3:t.built.map (E1 dx dy)=t.built.map (sA dx dy):=kK λl hl=>anz hd (f3 l hl);have e4:t.bk.map (Ix dx dy)=t.bk.map (rm dx dy):=kK λl hl=>by simp only[Ix,rm,kK λr hr=>ak2 hd (f4 l hl r hr)]
 have e5:t.bu.map (IH dx dy)=t.bu.map (tM dx dy):=kK λl hl=>by simp only[IH,tM,kK λr hr=>ak2 hd (f5 l hl r hr)]
 simp only[Nm,nh,e1,e2,e3,e4,e5]
theorem ak3{d:aJ}(h:H8 d)(hn:2000<=n) b:iter (kF n d dx dy) n (b,0,d.lot,[])=some (b&&d.phases.all (λ p=>p.cp.all λv=>uG (bH v)),d.lot,d.phases.map (E0 dx dy)):=by have s1:∀{α:Type} (r:α),sub [r] 0 1=[r]:=λ_=>rfl;have:=h.1;exact tZ (l:=d.phases) (step:=kF n d dx dy) (E0 dx dy) (λ p=>p.cp.all λv=>uG (bH v)) (λ b i ab=>(b,i,d.lot,ab)) (λ b ab=>(b,d.lot,ab)) (λ i hi b ab ho=>by have hm:=h.2 _ (getElem_mem hi);simp only[kF,cu hi,aj,bf hi,ai,Wm (n:=n) _ hm (by omega),ug,s1,fF,length_singleton,ho,EC (k:=i) (w:=48) (by omega) (by omega),eu,aI,aQ i];rfl) (λ b ab ho=>by simp only[kF,nT,ax,aI,aj]) n (by omega) b
theorem an6(hd:dJ dx dy){d:aJ}(h:d.phases.all (λ p=>p.cp.all λv=>uG (bH v))=true):aJ.mk d.lot (d.phases.map (E0 dx dy))=my dx dy d/\QO d:=by
 simp only[all_eq_true]at h;have f:∀p∈d.phases,∀v∈p.cp,uF v:=λp hp v hv=>(Jg _).1 (h p hp v hv);refine⟨?_,λv hv=>?_⟩
 ·have e:d.phases.map (E0 dx dy)=d.phases.map (C7 dx dy):=kK λp hp=>by simp only[E0,C7,kK λv hv=>anx hd (f p hp v hv)]
  simp only[my,e]
 ·obtain⟨p,hp,hv⟩:=List.mem_flatMap.1 hv;exact f p hp v hv
theorem Pe(t:dm)(d:aJ)(day dx dy:Int)(hz:Lt t):qJ 5000003 t d day dx dy=some true:=by
 have hn:=HN;have⟨b,hb,Rg⟩:=akO (n:=5000003) (t:=t) (d:=d) hz hn;unfold qJ;rw[al3,hb];simp only[ai];cases b with
 |false=>rfl
 |true=>
  have⟨ht,hd,hbl,hr,hzo,hca⟩:=Rg rfl;simp only[Bool.not_true,ax];by_cases c1:dx<0
  ·simp only[c1,decide_true,aj,ai]
  ·by_cases c2:dx>524288
   ·simp only[c1,c2,decide_true,decide_false,aj,ax,ai]
   ·by_cases c3:dy<0
    ·simp only[c1,c2,c3,decide_true,decide_false,aj,ax,ai]
    ·by_cases c4:dy>524288
     ·simp only[c1,c2,c3,c4,decide_true,decide_false,aj,ax,ai]
     ·have hN:dJ dx dy:=⟨by omega,by omega⟩;have hsz:t.bu.length<=1000:=by
       cases hc:t.bu with
       |nil=>simp
       |cons c l=>have:=(hca c (by rw[hc];simp)).2;rw[hc]at this;omega
      have hS:=aga (dx:=dx) (dy:=dy) (n:=5000003) (t:=t) (λ l hl=>(ht.lots l hl).1) (by have:=ht.land;omega) (λ e he=>ht.vx.2 e he) (by have:=ht.vx.1;omega) (by omega) hzo (by have:=ht.zones;omega) (λ c hc=>(hca c hc).1) hsz (by omega);have hM:=ak3 (dx:=dx) (dy:=dy) (n:=5000003) (d:=d) hd.1 (by omega) (Wo t);have hz:be 0 ([]:List eD).length=true:=rfl;simp only[c1,c2,c3,c4,decide_false,ax,ai,hS,hz,aj,hM];cases hok:Wo t&&d.phases.all (λ p=>p.cp.all λv=>uG (bH v))with
      |false=>rfl
      |true=>
       rw[bq]at hok;have⟨e1,hf⟩:=anA hN hok.1;have⟨e2,sg⟩:=an6 hN hok.2;have eb:=aiR hN day ht hf hd sg hn;have ee:=aht hN ht hf hd sg hn;have hl:(oG 5000003 t d day).length<=11:=adE (by omega) day;simp only[Bool.not_true,ax,Cz day ht hd hn,ai,fF,aI,aj,e1,e2,Cz day (amk ht) (aml hd) hn,eb,ee,beq_self_eq_true,adD (n:=5000003) (a:=oG 5000003 t d day) (b:=oG 5000003 t d day) (by omega) (by omega),adC]
theorem Ro(q:HL xx.toSE [.st SI.jn,.st SI.gc,.int .i64,.int .i64,.int .i64])(hb:TY (HL.mw xx.toSE [.st SI.jn,.st SI.gc,.int .i64,.int .i64,.int .i64] q)<=1048576):∃k,qJ k q.1 q.2.1 q.2.2.1 q.2.2.2.1 q.2.2.2.2.1=some true:=
 ⟨5000003,Pe q.1 q.2.1 q.2.2.1 q.2.2.2.1 q.2.2.2.2.1 (ano q hb)⟩
end Go.Proofs
