import Derived.Test.YtnclkjejgffdmabGreatS1
open Go.IntKind (i64)
open List (mem_map all_eq_true getElem_mem length_map length_nil foldl_cons mem_filter map_congr_left length_singleton length_filter_le any_eq_false)
namespace Go.Proofs
open Go.Gb Go.RowKit
variable {n:Nat}
theorem all_eq{d:aO}(h:Ul d)(hn:1001<=n):xC n d=some (lq d):=by simp[xC,Yq h hn]
theorem aah(a b:ByteArray)(h:a.size<=4000000):∃r,strings_Contains a b=some r:=by simp only[strings_Contains,Nat.ble_eq_true_of_le h,aj];exact⟨_,rfl⟩
theorem TB c:∃b,Fe c=some b:=eX ⟨_,rfl⟩ ⟨_,rfl⟩
theorem aix c:∃b,QZ c=some b:=eX ⟨_,rfl⟩ ⟨_,rfl⟩
theorem ale c:∃b,AY c=some b:=tN (TB c) λ_=>eX ⟨_,rfl⟩ (tN (aix c) λ_=>⟨_,rfl⟩)
theorem af6{s:ByteArray}{i:Nat}(h:i<s.size):∃c,SV s i=some c:=by simp only[SV,show decide (0<=i)=true from by simp,aj,Int.toNat_natCast];rw[getElem?_pos s i h];exact⟨_,rfl⟩
theorem alf{s:ByteArray}{φ:(Int×Unit)->Option Bool}(h:∀c,∃b,φ (c,())=some b)(hs:s.size<=4000000)(hn:4000002<=n):∃r,OO n s φ=some r:=by
 obtain⟨o,h1,_⟩:=fq (step:=AX s φ) (λ i v=>v=i/\i<=s.size) (λ _=>True) s.size (λ k v h=>h.2) (by
  rintro i v ⟨rfl,hi⟩;by_cases hlt:i<s.size;have⟨c,hc⟩:=af6 hlt;have⟨b,hb⟩:=h c;simp only[AX,show decide ((i:Int)<s.size)=true from by simp;omega,aj,hc,ai,hb,bf i];cases b with
  |true=>exact .inl ⟨_,rfl,rfl,hlt⟩
  |false=>exact .inr ⟨_,rfl,trivial⟩
  simp only[AX,show decide ((i:Int)<s.size)=false from by simp;omega,au,ai];exact .inr ⟨_,rfl,trivial⟩) n 0 0 ⟨rfl,Nat.zero_le _⟩ (by omega)
 simp only[OO,h1,ai];exact⟨_,rfl⟩
theorem alg(s:ByteArray)(hn:4000002<=n):∃b,OQ n s=some b/\(b=true->s.size<=20):=by
 simp only[OQ];cases h0:(ByteArray.toList s==ByteArray.toList (⟨#[]⟩))with
 |true=>exact⟨false,by simp,λh=>(by cases h)⟩
 |false=>
  have hs:0<s.size:=by refine Nat.pos_of_ne_zero λh=>?_;have:s=⟨#[]⟩:=(by obtain⟨⟨l⟩⟩:=s;have:l.length=0:=h;rw[List.eq_nil_of_length_eq_zero this]);rw[this]at h0;simp at h0
  have⟨c,hc⟩:=af6 hs;have hc':SV s 0=some c:=hc;have⟨b,hb⟩:=TB c;simp only[au,hc',ai,hb];cases b with
  |false=>exact⟨false,by simp,λh=>(by cases h)⟩
  |true=>
   simp only[Bool.not_true,au,ai];by_cases h20:(s.size:Int)>20;exact⟨false,by simp[h20],λh=>(by cases h)⟩;obtain⟨r,hr⟩:=alf (n:=n) (s:=s) (φ:=λ(y1:Int×Unit)=>AY y1.1) (λ c=>ale c) (by omega) hn;simp only[h20,decide_false,au,hr,ai];exact⟨_,rfl,λ_=>by omega⟩
theorem alh(s:ByteArray)(hn:4000002<=n):∃b,xD n s=some b:=by
 have⟨b,hb,h20⟩:=alg (n:=n) s hn;simp only[xD,hb,ai];cases b with
 |false=>exact⟨_,rfl⟩
 |true=>
  have hs:=h20 rfl;have hmx:maxLen=9223372036854775807:=rfl;have c1:WC (⟨#[32]⟩) s=true:=by have:(⟨#[32]⟩:ByteArray).size=1:=rfl;simp[WC];omega
  have c2:WC ((⟨#[32]⟩)++s) (⟨#[32]⟩)=true:=by have h1:(⟨#[32]⟩:ByteArray).size=1:=rfl;simp[WC];omega
  simp only[aj,c1,c2];refine tN (aah _ _ (Nat.le_of_ble_eq_true ?_)) λ_=>⟨_,rfl⟩
  kernel_rfl
theorem ali(a b:Ha):∃r,yC a b=some r:=by unfold yC;rw[zL];exact eX (eX ⟨_,rfl⟩ ⟨_,rfl⟩) ⟨_,rfl⟩
theorem fT{l:List aF}{φ:(aF×Unit)->Option Bool}(p:aF->Bool)(h:∀x∈l,φ (x,())=some (p x))(hl:l.length<1099511627776)(hn:l.length<n):fO n l φ=some (l.any p):=by have:rC n l φ=some (yu p l):=fK p h hl hn;simp[fO,this,rY]
theorem yP{l:List aF}{φ:(aF×Unit)->Option Bool}(h:∀x∈l,∃b,φ (x,())=some b)(hl:l.length<1099511627776)(hn:l.length<n):fO n l φ=some (l.any λx=>(φ (x,())).getD false):=
 fT _ (λ x hx=>by have⟨b,hb⟩:=h x hx;rw[hb];rfl) hl hn
def Nd(d:aO):Prop:=∀p∈d.phases,p.gives.length<=1000
theorem aiy{l:List aF}(hl:l.length<=1000000)(hn:4000002<=n):iter (lI n l) n 0=some (.inr false)\/(iter (lI n l) n 0=some (.inl ())/\∀v∈l,okV v=true):=by
 obtain⟨o,h1,h2⟩:=fq (step:=lI n l) (λ i v=>v=i/\i<=l.length/\∀x∈l.take i,okV x=true) (λ o=>o= .inr false\/(o= .inl ()/\∀v∈l,okV v=true)) l.length (λ k v h=>h.2.1) (by
  rintro i v ⟨rfl,hi,hall⟩;by_cases hlt:i<l.length;simp only[lI,show decide ((i:Int)<l.length)=true from by simp;omega,aj,aZ hlt,bK hlt,ai,uZ,bf i];cases hv:okV l[i]with
  |false=>exact .inr ⟨_,by simp only[Bool.not_false,aj,ai];rfl,.inl rfl⟩
  |true=>
   have hsub:(sub l 0 i).length=i:=(by simp[sub];omega);have hc:=yP (n:=n) (l:=sub l 0 i) (φ:=λ(y1:aF×Unit)=>sD y1.1 l[i]) (λ x _=>tN (ali _ _) λ_=>⟨_,rfl⟩) (by omega) (by omega);simp[vT (show 0<=0 by omega) (show (0:Int)<=i by omega) (show (i:Int)<=l.length by omega),QM hsub,hc];cases ((sub l 0 i).any λx=>((λ (y1:aF×Unit)=>sD y1.1 l[i]) (x,())).getD false)with
   |true=>exact .inr ⟨_,rfl,.inl rfl⟩
   |false=>
    refine .inl ⟨_,rfl,rfl,hlt,λx hx=>?_⟩;rw[List.take_add_one,dF hlt,bP]at hx;rcases hx with hx |hx;exact hall x hx;simp at hx;subst hx;exact hv
  refine .inr ⟨.inl (),?_,.inr ⟨rfl,λv hv=>hall v (by rw[List.take_of_length_le (by omega)];exact hv)⟩⟩;simp only[lI,show decide ((i:Int)<l.length)=false from by simp;omega,au]) n 0 0 ⟨rfl,Nat.zero_le _,by simp⟩ (by omega)
 rcases h2 with rfl |⟨rfl,h2⟩;exact .inl h1;exact .inr ⟨h1,h2⟩
theorem aiz{p:lu}(hp:p.gives.length<=1000)(hn:4000002<=n):iter (lJ n p) n (0,[])=some (.inl ())\/iter (lJ n p) n (0,[])=some (.inr (.inr (.inr false))):=by
 obtain⟨o,h1,h2⟩:=fq (step:=lJ n p) (λ i (v:Int×List (ByteArray×Bool))=>∃m,v=((i:Int),m)/\i<=p.gives.length) (λ o=>o= .inl ()\/o= .inr (.inr (.inr false))) p.gives.length (λ k v ⟨_,_,h⟩=>h) (by
  rintro i v ⟨m,rfl,hi⟩;by_cases hlt:i<p.gives.length;have key:∃b,((bif ((gH Gb.fi p.gives[i].name m).getD false)then some true else(xD n p.gives[i].name).bind λr4=>(bif (!r4)then some true else(bif (decide (p.gives[i].n<0))then some true else some (decide (p.gives[i].n>1073741824))))):Option (Bool))=some b:=
   eX ⟨_,rfl⟩ (tN (alh _ hn) λ_=>eX ⟨_,rfl⟩ (eX ⟨_,rfl⟩ ⟨_,rfl⟩))
  obtain⟨b,hb⟩:=key;simp only[lJ,show decide ((i:Int)<p.gives.length)=true from by simp;omega,aj,aQ hlt,ai,hb,bf i];cases b with
  |true=>exact .inr ⟨_,rfl,.inr rfl⟩
  |false=>exact .inl ⟨_,rfl,_,rfl,hlt⟩
  simp only[lJ,show decide ((i:Int)<p.gives.length)=false from by simp;omega,au];exact .inr ⟨_,rfl,.inl rfl⟩) n 0 _ ⟨[],rfl,Nat.zero_le _⟩ (by omega)
 rcases h2 with rfl |rfl;exact .inl h1;exact .inr h1
theorem aiA{d:aO}(hd:Ul d)(hg:Nd d)(hn:4000002<=n):iter (lK n d) n 0=some (.inl ())\/iter (lK n d) n 0=some (.inr false):=by
 have hd1:=hd.1;obtain⟨o,h1,h2⟩:=fq (step:=lK n d) (λ i v=>v=i/\i<=d.phases.length) (λ o=>o= .inl ()\/o= .inr false) d.phases.length (λ k v h=>h.2) (by
  rintro i v ⟨rfl,hi⟩;by_cases hlt:i<d.phases.length;simp only[lK,show decide ((i:Int)<d.phases.length)=true from by simp;omega,aj,aQ hlt,ai,bf i];rcases aiz (n:=n) (hg _ (getElem_mem hlt)) hn with h |h;simp[h];cases decide ((d.phases[i].gives.length:Int)>30)with
  |true=>exact .inr ⟨_,rfl,.inr rfl⟩
  |false=>exact .inl ⟨_,rfl,rfl,hlt⟩
  simp only[h,tq];exact .inr ⟨_,rfl,.inr rfl⟩;simp only[lK,show decide ((i:Int)<d.phases.length)=false from by simp;omega,au];exact .inr ⟨_,rfl,.inl rfl⟩) n 0 0 ⟨rfl,Nat.zero_le _⟩ (by omega)
 rcases h2 with rfl |rfl;exact .inl h1;exact .inr h1
theorem KE{d:aO}(hd:Ul d):(lq d).length<=1000000:=by have:=ft hd.2;have:=hd.1;unfold lq;omega
theorem apd{d:aO}(hd:Ul d)(hg:Nd d)(hn:4000002<=n):∃b,yD n d=some b/\(b=true->∀v∈lq d,okV v=true):=by
 simp only[yD,all_eq hd (show 1001<=n by omega),ai];have key:∀c1 c2 c3 c4 c5 c6:Bool,∃b,((bif c1 then some true else(bif c2 then some true else(bif c3 then some true else(bif c4 then some true else(bif c5 then some true else some c6))))):Option Bool)=some b:=by intro c1 c2 c3 c4 c5 c6;exact eX ⟨_,rfl⟩ (eX ⟨_,rfl⟩ (eX ⟨_,rfl⟩ (eX ⟨_,rfl⟩ (eX ⟨_,rfl⟩ ⟨_,rfl⟩))))
 have⟨b,hb⟩:=key (decide (d.lot<0)) (decide (d.lot>1073741824)) (decide ((d.phases.length:Int)<1)) (decide ((d.phases.length:Int)>8)) (decide (((lq d).length:Int)<1)) (decide (((lq d).length:Int)>40));rw[hb];cases b with
 |true=>exact⟨false,rfl,λh=>(by cases h)⟩
 |false=>
  simp only[ai,au];rcases aiy (n:=n) (KE hd) hn with h |⟨h,hall⟩;simp only[h,tq];exact⟨false,rfl,λh=>(by cases h)⟩;simp only[h,iC];rcases aiA (n:=n) hd hg hn with h2 |h2;simp only[h2,iC];exact⟨true,rfl,λ_=>hall⟩;simp only[h2,tq];exact⟨false,rfl,λh=>(by cases h)⟩
theorem FN{l:List jE}{φ:(jE×Unit)->Option Bool}(p:jE->Bool)(h:∀x∈l,φ (x,())=some (p x))(hl:l.length<1099511627776)(hn:l.length<n):nJ n l φ=some (l.any p):=by have:wm n l φ=some (yu p l):=fK p h hl hn;simp[nJ,this,rY]
theorem anK{lot:fE}{l:List aF}(ha:lot.area.length<=900)(hv:∀v∈l,okV v=true)(hl:l.length<=1000000)(hn:4000002<=n):iter (kC n lot l) n 0=some (.inl ())\/iter (kC n lot l) n 0=some (.inr false):=by
 obtain⟨o,h1,h2⟩:=fq (step:=kC n lot l) (λ i v=>v=i/\i<=l.length) (λ o=>o= .inl ()\/o= .inr false) l.length (λ k v h=>h.2) (by
  rintro i v ⟨rfl,hi⟩;by_cases hlt:i<l.length;have hb:=Yp (hv _ (getElem_mem hlt));have hcl:=ado (keep:=λp q=>p&&q) lot.area [gZ l[i]];have hc:=adn (n:=n) (a:=lot.area) (b:=[gZ l[i]]) (by omega) (by simp) (by omega) (by simp;omega) (by omega);have hA:=Yb (n:=n) (a:=(uY (λ p q=>p&&q) lot.area [gZ l[i]]).1) (by omega) (by omega);have hr:=DJ hb;simp[gZ]at hc hA hr;simp only[kC,show decide ((i:Int)<l.length)=true from by simp;omega,aj,aZ hlt,bK hlt,ai,show ∀r:ax,sub [r] 0 1=[r]from λ_=>rfl,length_singleton,aH,hc,hA,hr,bf i];have key:∀c x:Bool,∃b,((bif c then some true else some x):Option Bool)=some b:=λc x=>eX ⟨_,rfl⟩ ⟨_,rfl⟩;obtain⟨b,hb2⟩:=key ((uY (λ p q=>p&&q) lot.area [⟨l[i].ci,l[i].cE,l[i].cd,l[i].cD⟩]).2 !=0) (decide ((bif c7 (uY (λ p q=>p&&q) lot.area [⟨l[i].ci,l[i].cE,l[i].cd,l[i].cD⟩]).1 then MJ (uY (λ p q=>p&&q) lot.area [⟨l[i].ci,l[i].cE,l[i].cd,l[i].cD⟩]).1 else 0)<Pa ⟨l[i].ci,l[i].cE,l[i].cd,l[i].cD⟩));rw[hb2];cases b with
  |true=>exact .inr ⟨_,rfl,.inr rfl⟩
  |false=>exact .inl ⟨_,rfl,rfl,hlt⟩
  simp only[kC,show decide ((i:Int)<l.length)=false from by simp;omega,au];exact .inr ⟨_,rfl,.inl rfl⟩) n 0 0 ⟨rfl,Nat.zero_le _⟩ (by omega)
 rcases h2 with rfl |rfl;exact .inl h1;exact .inr h1
theorem anL{p:bO}{ph:lu}(hc:p.caps.length<=4000000)(hp:ph.gives.length<=1000)(hn:4000002<=n):iter (kD n p ph) n 0=some (.inl ())\/iter (kD n p ph) n 0=some (.inr (.inr (.inr false))):=by
 obtain⟨o,h1,h2⟩:=fq (step:=kD n p ph) (λ i v=>v=i/\i<=ph.gives.length) (λ o=>o= .inl ()\/o= .inr (.inr (.inr false))) ph.gives.length (λ k v h=>h.2) (by
  rintro i v ⟨rfl,hi⟩;by_cases hlt:i<ph.gives.length;simp only[kD,show decide ((i:Int)<ph.gives.length)=true from by simp;omega,aj,aQ hlt,ai,FN (n:=n) (l:=p.caps) (φ:=λ(y1:jE×Unit)=>wh y1.1 ph.gives[i]) (λ c=>ByteArray.toList c.name==ByteArray.toList ph.gives[i].name) (λ _ _=>rfl) (by omega) (by omega),bf i];cases (p.caps.any λc=>ByteArray.toList c.name==ByteArray.toList ph.gives[i].name)with
  |false=>exact .inr ⟨_,rfl,.inr rfl⟩
  |true=>exact .inl ⟨_,rfl,rfl,hlt⟩
  simp only[kD,show decide ((i:Int)<ph.gives.length)=false from by simp;omega,au];exact .inr ⟨_,rfl,.inl rfl⟩) n 0 0 ⟨rfl,Nat.zero_le _⟩ (by omega)
 rcases h2 with rfl |rfl;exact .inl h1;exact .inr h1
theorem anM{p:bO}{d:aO}(hc:p.caps.length<=4000000)(hd:Ul d)(hg:Nd d)(hn:4000002<=n):iter (kE n p d) n 0=some (.inl ())\/iter (kE n p d) n 0=some (.inr false):=by have hd1:=hd.1;obtain⟨o,h1,h2⟩:=fq (step:=kE n p d) (λ i v=>v=i/\i<=d.phases.length) (λ o=>o= .inl ()\/o= .inr false) d.phases.length (λ k v h=>h.2) (by rintro i v ⟨rfl,hi⟩;by_cases hlt:i<d.phases.length;simp only[kE,show decide ((i:Int)<d.phases.length)=true from by simp;omega,aj,aQ hlt,ai,bf i];rcases anL (n:=n) hc (hg _ (getElem_mem hlt)) hn with h |h;simp only[h,iC];exact .inl ⟨_,rfl,rfl,hlt⟩;simp only[h,tq];exact .inr ⟨_,rfl,.inr rfl⟩;simp only[kE,show decide ((i:Int)<d.phases.length)=false from by simp;omega,au];exact .inr ⟨_,rfl,.inl rfl⟩) n 0 0 ⟨rfl,Nat.zero_le _⟩ (by omega);rcases h2 with rfl |rfl;exact .inl h1;exact .inr h1
theorem alj{p:bO}{lot:fE}{d:aO}(hc:p.caps.length<=4000000)(ha:lot.area.length<=900)(hd:Ul d)(hg:Nd d)(hn:4000002<=n):∃b,pK n p lot d=some b/\(b=true->∀v∈lq d,okV v=true):=by
 have⟨b,hb,hv⟩:=apd (n:=n) hd hg hn;simp only[pK,hb,ai];cases b with
 |false=>exact⟨false,by simp,λh=>(by cases h)⟩
 |true=>
  simp only[Bool.not_true,au,jk (n:=n) (l:=lot.area) (by omega) (by omega) (by omega),ai];cases (lot.id !=d.lot)with
  |true=>exact⟨false,by simp,λh=>(by cases h)⟩
  |false=>
   cases c7 lot.area with
   |false=>exact⟨false,by simp,λh=>(by cases h)⟩
   |true=>
    simp only[Bool.not_true,au,ai,all_eq hd (show 1001<=n by omega)];rcases anK (n:=n) ha (hv rfl) (KE hd) hn with h |h;simp only[h,iC];rcases anM (n:=n) hc hd hg hn with h2 |h2;simp only[h2,iC];exact⟨true,rfl,λ_=>hv rfl⟩;simp only[h2,tq];exact⟨false,rfl,λh=>(by cases h)⟩;simp only[h,tq];exact⟨false,rfl,λh=>(by cases h)⟩
theorem ape{p:bO}{ms:List bg}{zs:List ByteArray}{e:dh}(hp:aiw p)(hm:ms.length<=4000000)(hz:zs.length<=4000000)(he:(toE e).wt<=4000000)(hn:5000003<=n)(hn2:n<=9223372036854775000):∃v,Ba n p ms zs e=some v:=by
 obtain⟨b,hb,hv⟩:=TA (n:=n) (by omega) hn2 he;simp[Ba,DR,hb];cases b with
 |false=>exact⟨_,rfl⟩
 |true=>
  have⟨kn,out,h1,_⟩:=MP (n:=n) hp hm hz hn hn2;obtain⟨v,h2⟩:=Yv (n:=n) (a0:=p.defs) (a2:=p.zones) (a3:=p.rules) (a4:=p.caps) (a5:=p.views) (a6:=p.wA) (a7:=p.hours) (by omega) hp.tabs hz n e kn (hv rfl) he;simp only[Bool.not_true,au,h1,ai,fV,h2];exact⟨_,rfl⟩
section
variable {n:Nat} {d:List gK} {ts:List bQ} {z z':List fG} {r r':List cK} {c c':List jE} {v v':List iw} {su tx:List dH} {h h':Int} {zs:List ByteArray}
theorem JC:∀(m:Nat)(e:dh)(kn:List (ByteArray×Int)),bS n m d ts z r c v su h zs e kn=bS n m d ts z' r' c' v' tx h' zs e kn
 | 0,_,_=>rfl
 |m+1,e,kn=>by
  have ih:=JC m;have hs:eZ n (bS n m) d ts z r c v su h zs e=eZ n (bS n m) d ts z' r' c' v' tx h' zs e:=by funext ⟨v1,v2,v3⟩;simp only[eZ,ih]
  have hr:∀w,jC n d ts z r c v su h zs e w=jC n d ts z' r' c' v' tx h' zs e w:=λ_=>rfl;show fA n (bS n m) d ts z r c v su h zs e kn=fA n (bS n m) d ts z' r' c' v' tx h' zs e kn;simp only[fA,hs,DR,hr]
theorem aiB{ms:List bg}:(nC n (bO.mk d ts z r c v su h) ms zs).map (λ q=>q.2.2.2.2.2.2.2.2.2)=(nC n (bO.mk d ts z' r' c' v' tx h') ms zs).map (λ q=>q.2.2.2.2.2.2.2.2.2):=by
 have hs:∀w2 r1,gP n (bO.mk d ts z r c v su h) zs w2 r1=gP n (bO.mk d ts z' r' c' v' tx h') zs w2 r1:=by intro w2 r1;funext ⟨v6,v7,v8⟩;have hv:∀e kn,fV n d ts z r c v su h zs e kn=fV n d ts z' r' c' v' tx h' zs e kn:=λe kn=>JC n e kn;simp only[gP,hv]
 have ho:oF n (bO.mk d ts z r c v su h)=oF n (bO.mk d ts z' r' c' v' tx h'):=rfl;simp only[nC,hs,ho];cases iter (iZ n ms) n (0,([]:(List (ByteArray×Int))),([]:(List (ByteArray×Bool))))with
 |none=>rfl
 |some w=>
  obtain⟨w1,w2⟩:=w;simp only[ai];cases (decide ((d.length:Int)<=d.length)&&(decide (0<=(d.length:Int))&&qH d.length 8))with
  |false=>rfl
  |true=>
   simp only[aj];cases oF n (bO.mk d ts z' r' c' v' tx h')with
   |none=>rfl
   |some r1=>
    simp only[ai];cases (r1.2.2 !=0)with
    |true=>
     simp only[aj];cases az ((d.length:Int).toNat) (List.replicate (d.length:Int).toNat (0:Int)).length<;>rfl
    |false=>
     simp only[au];cases iter (gP n (bO.mk d ts z' r' c' v' tx h') zs w2 r1) n (0,w1,(List.replicate (d.length:Int).toNat 0))with
     |none=>rfl
     |some q=>
      obtain⟨w3,w4⟩:=q;simp only[ai];cases az ((d.length:Int).toNat) w4.length<;>rfl
theorem aiC{ms:List bg}{e:dh}(hp:iz d)(ht:S6 ts)(hm:ms.length<=4000000)(hz:zs.length<=4000000)(hn:5000003<=n)(hn2:n<=9223372036854775000):Ba n (bO.mk d ts z r c v su h) ms zs e=Ba n (bO.mk d ts z' r' c' v' tx h') ms zs e:=by have⟨kn,out,h1,_⟩:=MP (n:=n) (p:=bO.mk d ts z r c v su h) ⟨hp,ht⟩ hm hz hn hn2;have⟨kn2,out2,h2,_⟩:=MP (n:=n) (p:=bO.mk d ts z' r' c' v' tx h') ⟨hp,ht⟩ hm hz hn hn2;have h3:=aiB (n:=n) (d:=d) (ts:=ts) (z:=z) (z':=z') (r:=r) (r':=r') (c:=c) (c':=c') (v:=v) (v':=v') (su:=su) (tx:=tx) (h:=h) (h':=h') (zs:=zs) (ms:=ms);rw[h1,h2]at h3;simp only[Option.map_some,bL,Prod.mk.injEq]at h3;obtain⟨rfl,rfl⟩:=h3;simp only[Ba,h1,h2,ai,fV,JC (z:=z) (z':=z') (r:=r) (r':=r') (c:=c) (c':=c') (v:=v) (v':=v') (su:=su) (tx:=tx) (h:=h) (h':=h')]
end
theorem Un{b:ax}{l:List dX}{s:List gB}(ha:∀c∈s,c.area.length<=200)(hs:s.length<=1000)(hl:l.length<=1000)(hn:2000<=n):
 yL n b l s=some (FI b l&&(FJ s&&!(s.any λc=>decide (Se b l c.area<c.z1)))):=by
 unfold yL;rw[Ym b l hl hn];simp;cases hv:FI b l with
 |false=>simp
 |true=>
  have⟨v1,v2⟩:=(afP b l).1 hv;simp[Ty (n:=n) (s:=s) (λ x hx=>by have:=ha x hx;omega) (by omega)];cases hr:FJ s with
  |false=>simp
  |true=>
   have⟨_,sok,_⟩:=(Yo s).1 hr;simp;rw[tL (λ c=>decide (Se b l c.area<c.z1)) (λ c hc=>by have:=ha c hc;show sI n c b l=_;unfold sI;rw[Uk v1 v2 (uW (sok c hc).rt).1 (by omega) hl hn];rfl) (by omega) (by omega)];simp
def wB(v:aF):List gB:=[⟨v.fm,v.ez,[gZ v]⟩]
theorem af7(v:aF):yI v=some (wB v):=rfl
def VF(b:ax)(p:dX)(v:aF):Bool:=FI b [p]&&(FJ (wB v)&&!((wB v).any λc=>decide (Se b [p] c.area<c.z1)))
def Yw(r:cK):dX:=dX.mk r.jn r.jp r.ky r.kA
theorem adB(v:aF)(b:ax)(r:cK)(hn:2000<=n):j3 n v b r=some (!VF b (Yw r) v):=by have h:=Un (n:=n) (b:=b) (l:=[Yw r]) (s:=wB v) (by simp[wB]) (by simp[wB]) (by simp) hn;unfold Yw at h;have hl:(wB v).length=1:=rfl;simp[j3,af7,show ∀x:dX,sub [x] 0 1=[x]from λ_=>rfl,h,VF];rfl
def S5(r:cK)(v:aF):Bool:=bits .and .i64 r.uses (i64.wrap (1*2 ^ v.use.toNat))==0
theorem adC{v:aF}(h:okV v=true)(r:cK):j4 v r=some (S5 r v):=by
 have hu:0<=v.use/\v.use<6:=by simp[okV]at h;omega
 have hb:i64.bits=64:=rfl;simp[j4,S5,show(decide (0<=v.use)&&decide (v.use<=i64.bits))=true from by simp;omega]
def TZ(lot:Int)(r:cK)(v:aF)(b:jv):Bool:=(dP b (ni.mk [] [] [] [] [] [] [] 0 [] [] [] [] [] 0 0 [] [] lot [] [] []) v r).getD false
theorem af8{b:jv}{s:ni}{v:aF}{r:cK}:dP b s v r=some (TZ s.co r v b):=by
 have key:∃x,dP b (ni.mk [] [] [] [] [] [] [] 0 [] [] [] [] [] 0 0 [] [] s.co [] [] []) v r=some x:=by simp only[dP,jI,afJ,ai];refine tN (eX ⟨_,rfl⟩ (eX ⟨_,rfl⟩ (eX ⟨_,rfl⟩ ⟨_,rfl⟩))) λ_=>eX ⟨_,rfl⟩ (tN (eX (eX ⟨_,rfl⟩ (eX ⟨_,rfl⟩ ⟨_,rfl⟩)) (eX ⟨_,rfl⟩ ⟨_,rfl⟩)) λ_=>eX ⟨_,rfl⟩ ⟨_,rfl⟩)
 have e:dP b s v r=dP b (ni.mk [] [] [] [] [] [] [] 0 [] [] [] [] [] 0 0 [] [] s.co [] [] []) v r:=rfl;obtain⟨x,hx⟩:=key;rw[e,TZ,hx];rfl
theorem Ac{l:List jv}{φ:(jv×Unit)->Option Bool}(p:jv->Bool)(h:∀x∈l,φ (x,())=some (p x))(hl:l.length<1099511627776)(hn:l.length<n):j5 n l φ=some (l.any p):=by have:rE n l φ=some (yu p l):=fK p h hl hn;simp[j5,this,rY]
def TX(built:List jv)(lot:Int)(r:cK)(v:aF):Bool:=built.any (TZ lot r v)
theorem adF{s:ni}{v:aF}{r:cK}(hb:s.cT.length<=1000)(hn:2000<=n):j6 n v s r=some (TX s.cT s.co r v):=by simp[j6,sQ,Ac (n:=n) (l:=s.cT) (φ:=λ(y1:jv×Unit)=>dP y1.1 s v r) (TZ s.co r v) (λ x _=>af8) (by omega) (by omega),TX]
def m6(r:cK):dh:=dh.mk r.lP r.oa r.nF r.kx r.gS
def m7(t:eH):bO:=bO.mk t.cH t.ct t.cz [] t.cQ t.cV t.d5 t.cW
structure HF(t:eH):Prop where
 lots:∀l∈t.land,BY l
 land:t.land.length<=1000
 eas:t.cJ.length<=900/\∀e∈t.cJ,e.area.length<=900
 built:t.built.length<=1000
 zones:t.cz.length<=100
 caps:t.cQ.length<=4000000
 rules:t.aq.length<=100
 rule:∀r∈t.aq,aik r/\(toE (m6 r)).wt<=4000000
 plan:aiw (m7 t)
def M3(d:aO):Prop:=Ul d/\Nd d
def GF(n:Nat):Prop:=5000003<=n/\n<=9223372036854775000
def wC(t:eH)(lot:fE):List ByteArray:=Hs t.cz lot.area
def tU(t:eH)(lot:fE)(d:aO):ni:=ni.mk t.cH t.ct t.cz t.aq t.cQ t.cV t.d5 t.cW t.land t.cJ t.windows t.built t.base lot.id lot.owner lot.area lot.from_ d.lot d.phases (lq d) (wC t lot)
theorem anO{d:aO}(h:Ul d)(hn:1001<=n):uK n d=some (lq d):=by obtain⟨h1,h2⟩:=h;unfold uK;have key:=KD (step:=pY d) (λ i=>(i,(d.phases.take i).flatMap (·.bx))) (s:=(0,[])) d.phases.length (lq d) rfl (λ i hi=>by have hl:=ft (l:=d.phases.take i) λp hp=>h2 p (List.mem_of_mem_take hp);rw[List.length_take]at hl;have hv:=h2 _ (getElem_mem hi);generalize hL:(d.phases.take i).flatMap (·.bx)=L at hl;have hap:bJ L.length L.length d.phases[i].bx.length d.phases[i].bx.length 72=true:=bX (by omega) (by simp[maxLen];omega);simp only[pY,cu hi,aj,aQ hi,ai,hap,eu,aH,bf i];rw[iR hi,List.flatMap_append,hL];simp) (by simp[pY,lq]) n (by omega);have hz:az 0 ([]:List aF).length=true:=rfl;simp[key]
def anP(n:Nat)(t:eH)(d:aO):Bool:=(pK n (m7 t) (dn t.land d.lot).1 d).getD false
def KQ(n:Nat)(t:eH)(d:aO):Int:=bif(dn t.land d.lot).2 then(bif anP n t d then 0 else 1)else 4
def arb:ni:=ni.mk ([]) ([]) ([]) ([]) ([]) ([]) ([]) 0 ([]) ([]) ([]) ([]) ([]) 0 0 ([]) ([]) 0 ([]) ([]) ([])
theorem look_eq{t:eH}{d:aO}(ht:HF t)(hd:M3 d)(hn:GF n):AZ n t d=some (bif KQ n t d==0 then tU t (dn t.land d.lot).1 d else arb,KQ n t d)/\(KQ n t d=0->∀v∈lq d,okV v=true):=by
 obtain⟨hn1,hn2⟩:=hn;have hl:=ht.land;have e1:qN n t.land d.lot=some (dn t.land d.lot):=abY ht.lots (by omega) (by omega);have hw:=Rk ht.lots d.lot;obtain⟨b,hb,hv⟩:=alj (n:=n) (p:=m7 t) (lot:=(dn t.land d.lot).1) (d:=d) ht.caps hw.1 hd.1 hd.2 (by omega);have e2:pK n (bO.mk t.cH t.ct t.cz t.aq t.cQ t.cV t.d5 t.cW) (dn t.land d.lot).1 d=some b:=hb;have e3:Dw n (bO.mk t.cH t.ct t.cz t.aq t.cQ t.cV t.d5 t.cW) (dn t.land d.lot).1.area=some (Hs t.cz (dn t.land d.lot).1.area):=adu _ _ ht.zones hw.1 (by omega);have e4:anP n t d=b:=by unfold anP;rw[hb];rfl
 simp[AZ,e1,e2,e3,anO hd.1 (show 1001<=n by omega),KQ,e4];cases (dn t.land d.lot).2 with
 |false=>exact⟨rfl,λh=>absurd (show (4:Int)=0 from h) (by decide)⟩
 |true=>
  cases b with
  |false=>exact⟨rfl,λh=>absurd (show (1:Int)=0 from h) (by decide)⟩
  |true=>exact⟨rfl,λ_=>hv rfl⟩
def apI(n:Nat)(t:eH)(lot:fE)(d:aO)(r:cK):Bool:=((kM n (m7 t) lot d).bind λms=>Ba n (m7 t) ms (wC t lot) (m6 r)).getD 1==0
def GE(n:Nat)(t:eH)(lot:fE)(d:aO)(r:cK):Bool:=
 bif r.kind==0 then apI n t lot d r else bif r.kind==1 then(lq d).any (λ v=>!VF (VD lot.area).1 (Yw r) v)else bif r.kind==2 then(lq d).any (S5 r)else bif r.kind==3 then(lq d).any (TX t.built d.lot r)else false
theorem Yx{t:eH}(ht:HF t)(lot:fE):(wC t lot).length<=100:=Nat.le_trans (ao4 _ _) ht.zones
theorem alm{t:eH}{lot:fE}{d:aO}{r:cK}(ht:HF t)(hl:lot.area.length<=900)(hd:M3 d)(hv:∀v∈lq d,okV v=true)(hr:(toE (m6 r)).wt<=4000000)(hn:GF n):nL n (tU t lot d) r=some (GE n t lot d r):=by
 obtain⟨hn1,hn2⟩:=hn;have hvl:=KE hd.1;have hz:=Yx ht lot;simp only[nL,gQ,GE];cases (r.kind==0)with
 |true=>
  have htb:=ht.plan.tabs;obtain⟨e1,e2,e3,e4,e5,e6,e7,e8,hOf⟩:=aq9 (n:=n) (p:=m7 t) (lot:=lot) (d:=d) ⟨by have:=htb.1;omega,by have:=htb.1;omega,λx hx=>by have:=htb.2 x hx;omega⟩ hl hd.1 (by omega);have h1:=hOf t.aq;have h2:=hOf [];have h2':kM n (m7 t) lot d=_:=h2;have h1':kM n (bO.mk t.cH t.ct t.cz t.aq t.cQ t.cV t.d5 t.cW) (fE.mk lot.id lot.owner lot.area lot.from_) (aO.mk d.lot d.phases)=_:=h1;obtain⟨v,hE⟩:=ape (n:=n) (p:=m7 t) (ms:=[⟨⟨#[97,114,101,97]⟩,e1⟩,⟨⟨#[99,111,118,101,114]⟩,e2⟩,⟨⟨#[102,108,111,111,114]⟩,e3⟩,⟨⟨#[102,108,111,111,114,115]⟩,e4⟩,⟨⟨#[104,101,105,103,104,116]⟩,e5⟩,⟨⟨#[104,111,109,101,115]⟩,e6⟩,⟨⟨#[114,117,110,111,102,102]⟩,e7⟩,⟨DL,DK (q9 lot) (gu d)⟩,⟨⟨#[116,114,97,102,102,105,99]⟩,e8⟩]) (zs:=wC t lot) (e:=m6 r) ht.plan (by simp) (by omega) hr hn1 hn2;have hE':=(aiC (n:=n) (d:=t.cH) (ts:=t.ct) (z:=t.cz) (r:=t.aq) (r':=[]) (c:=t.cQ) (v:=t.cV) (su:=t.d5) (h:=t.cW) (zs:=wC t lot) (ms:=[⟨⟨#[97,114,101,97]⟩,e1⟩,⟨⟨#[99,111,118,101,114]⟩,e2⟩,⟨⟨#[102,108,111,111,114]⟩,e3⟩,⟨⟨#[102,108,111,111,114,115]⟩,e4⟩,⟨⟨#[104,101,105,103,104,116]⟩,e5⟩,⟨⟨#[104,111,109,101,115]⟩,e6⟩,⟨⟨#[114,117,110,111,102,102]⟩,e7⟩,⟨DL,DK (q9 lot) (gu d)⟩,⟨⟨#[116,114,97,102,102,105,99]⟩,e8⟩]) (e:=m6 r) ht.plan.defs ht.plan.tabs (by simp) (by omega) hn1 hn2).trans hE;unfold m6 at hE';simp[tU,h1',hE',apI,h2',hE]
 |false=>
  cases (r.kind==1)with
  |true=>
   simp only[aj,au,show(tU t lot d).lr=lot.area from rfl,show(tU t lot d).bx=lq d from rfl,adw (n:=n) lot.area hl (by omega),ai];rw[fT (λ v=>!VF (VD lot.area).1 (Yw r) v) (λ v _=>adB v _ r (by omega)) (by omega) (by omega)];rfl
  |false=>
   cases (r.kind==2)with
   |true=>
    simp only[aj,au,show(tU t lot d).bx=lq d from rfl];rw[fT (S5 r) (λ v hm=>adC (hv v hm) r) (by omega) (by omega)];rfl
   |false=>
    cases (r.kind==3)with
    |true=>
     simp only[aj,au,show(tU t lot d).bx=lq d from rfl];rw[fT (TX t.built d.lot r) (λ v _=>adF (s:=tU t lot d) ht.built (by omega)) (by omega) (by omega)];rfl
    |false=>rfl
def addN(out:List ByteArray)(name:ByteArray)(bad:Bool):List ByteArray:=bif bad&&!(out.any (fi name))then out++[name]else out
theorem Yy out (name:ByteArray) bad:(addN out name bad).length<=out.length+1:=by unfold addN;cases (bad&&!(out.any (fi name)))<;>simp
theorem af9{name:ByteArray}{bad:Bool}{out:List ByteArray}(hl:out.length<=1000)(hn:2000<=n):jN n name bad out=some (addN out name bad):=by
 have hmx:maxLen=9223372036854775807:=rfl;have hap:bJ out.length out.length (sub [name] 0 1).length 1 16=true:=by simp[bJ,sub];omega
 simp[jN,kY (n:=n) (l:=out) (a:=name) (by omega) (by omega),addN,hap];cases bad with
 |false=>rfl
 |true=>cases (out.any (fi name))<;>rfl
def S4(t:eH)(d:aO):Bool:=(lq d).any λv=>!O2 t.cJ d.lot (wB v)
def ab1:ByteArray:=⟨#[101,97,115,101,109,101,110,116]⟩
def FO(n:Nat)(t:eH)(lot:fE)(d:aO)(l:List cK):List ByteArray:=l.foldl (λ out r=>addN out r.name (GE n t lot d r)) []
theorem BZ(f:cK->Bool):∀(l:List cK) out,(l.foldl (λ out r=>addN out r.name (f r)) out).length<=out.length+l.length
 |[],out=>by simp
 |r::l,out=>by have h1:=BZ f l (addN out r.name (f r));have h2:=Yy out r.name (f r);rw[foldl_cons,eD];omega
def applied(t:eH)(lot:fE)(day:Int):List cK:=t.aq.filter (rV (wC t lot) day)
def rF(t:eH)(d:aO):fE:=(dn t.land d.lot).1
def FP(n:Nat)(t:eH)(d:aO)(day:Int):List ByteArray:=bif KQ n t d==0 then addN (FO n t (rF t d) d (applied t (rF t d) day)) ab1 (S4 t d)else []
theorem aln{t:eH}{d:aO} day (ht:HF t) (hd:M3 d) (hn:GF n):wS n t d day=some (FP n t d day,KQ n t d):=by
 obtain⟨hk,hv⟩:=look_eq (n:=n) ht hd hn;have hn1:=hn.1;have hvl:=KE hd.1;simp[wS,hk,FP];by_cases h0:KQ n t d=0;have h0b:(KQ n t d==0)=true:=by simp[h0]
 have h0c:(KQ n t d !=0)=false:=by simp[h0]
 have hw:=Rk ht.lots d.lot;have hz:=Yx ht (rF t d);have hA:uN n (bO.mk t.cH t.ct t.cz t.aq t.cQ t.cV t.d5 t.cW) (wC t (rF t d)) day=some ((Rj t.aq (wC t (rF t d)) day).map λ(i:Nat)=>(i:Int)):=Ui _ _ _ (λ r hr=>(ht.rule r hr).1) ht.rules hz (by omega);have hal:(Rj t.aq (wC t (rF t d)) day).length<=100:=Nat.le_trans (length_filter_le _ _) (by rw[List.length_range];exact ht.rules);have hpick:(Rj t.aq (wC t (rF t d)) day).filterMap (λ i=>t.aq[i]?)=applied t (rF t d) day:=Tz (rV (wC t (rF t d)) day) t.aq;have hloop:∀A:List Nat,A.length<=100->(∀ i∈A,i<t.aq.length)->iter (nR n t (tU t (rF t d) d,KQ n t d) (A.map λ(i:Nat)=>i)) n (0,[])=some (FO n t (rF t d) d (A.filterMap λi=>t.aq[i]?)):=by
  intro A hA hAr
  have key:=dN (l:=A) (step:=nR n t (tU t (rF t d) d,KQ n t d) (A.map λ(i:Nat)=>i)) (λ i s=>(i,s)) (λ i s=>match t.aq[i]? with
   |some r=>addN s r.name (GE n t (rF t d) d r)
   |none=>s) (λ s=>s) (λ i s=>s.length<=i) (λ i hi s hs=>by have hr:=hAr _ (getElem_mem hi);have hlm:(A.map λ(i:Nat)=>(i:Int)).length=A.length:=(by simp);have hg:bj (A.map λ(i:Nat)=>(i:Int)) ((0:Nat)+i)=some ((A[i]:Nat):Int):=(by rw[bK (by omega)];simp);have hrr:=ht.rule _ (getElem_mem hr);have hb:=alm (n:=n) (t:=t) (lot:=rF t d) (d:=d) ht hw.1 hd (hv h0) hrr.2 hn;have e:=dF hr;simp only[nR,hlm,cu hi,aj,aZ hi,hg,ai,aQ hr,hb,aH,af9 (n:=n) (name:=t.aq[A[i]].name) (bad:=GE n t (rF t d) d t.aq[A[i]]) (out:=s) (by omega) (by omega),bf i,e];exact⟨trivial,Nat.le_trans (Yy _ _ _) (by omega)⟩) (λ s _=>by have hlm:(A.map λ(i:Nat)=>i).length=A.length:=(by simp);simp[nR]) n (by omega) [] (aB _)
  rw[fL]at key;rw[key];congr 1;unfold FO;generalize []=s0;clear key hA
  induction A generalizing s0 with
  |nil=>rfl
  |cons a A ih=>
   have ha:=hAr a (by simp);rw[foldl_cons,List.filterMap_cons];simp only[dF ha];rw[foldl_cons];exact ih (λ i hi=>hAr i (by simp[hi])) _
 have hlo:=hloop (Rj t.aq (wC t (rF t d)) day) hal (λ i hi=>by have:=(mem_filter.1 hi).1;simpa using this);rw[hpick]at hlo;have hrl:(FO n t (rF t d) d (applied t (rF t d) day)).length<=100:=by have h1:=BZ (GE n t (rF t d) d) (applied t (rF t d) day) [];have h2:(applied t (rF t d) day).length<=100:=Nat.le_trans (length_filter_le _ _) ht.rules;unfold FO;simp at h1;omega
 have hany:gQ n (tU t (rF t d) d) (λ (y1:aF×Unit)=>nQ n y1.1 t d)=some (S4 t d):=by
  have hs:∀v,nQ n v t d=some (!O2 t.cJ d.lot (wB v)):=by intro v;have hl1:(wB v).length=1:=rfl;have h:=aad (n:=n) (l:=t.cJ) (lot:=d.lot) (s:=wB v) ht.eas.1 ht.eas.2 (by simp[wB]) (by omega);simp[nQ,af7,h]
  simp[gQ,show(tU t (rF t d) d).bx=lq d from rfl];rw[fT (λ v=>!O2 t.cJ d.lot (wB v)) (λ v _=>hs v) (by omega) (by omega)];rfl
 have hsc:tU t (dn t.land d.lot).1 d=tU t (rF t d) d:=rfl;simp only[h0b,h0c,aj,au,hsc,show(tU t (rF t d) d).zones=wC t (rF t d)from rfl,hA,ai,length_nil,aH,hlo,hany,af9 (n:=n) (name:=⟨#[101,97,115,101,109,101,110,116]⟩) (bad:=S4 t d) (out:=FO n t (rF t d) d (applied t (rF t d) day)) (by omega) (by omega),dO];rw[h0];rfl;have h0b:(KQ n t d==0)=false:=by simpa using h0
 have h0c:(KQ n t d !=0)=true:=by simpa using h0
 simp[h0b,h0c]
theorem VG{α:Type}{l:List α}{K n:Nat}{step:Int->Option (Int⊕(Unit⊕Bool))}{good:α->Prop}(h1:∀i (hi:i<l.length),i<K->step i=some (.inr (.inr false))\/(step i=some (.inl (i+1:Nat))/\good l[i]))
 (h2:∀i:Nat,(¬ i<l.length\/¬i<K)->step i=some (.inr (.inl ()))) (hn:K+1<n):iter step n 0=some (.inr false)\/(iter step n 0=some (.inl ())/\(l.length<=K->∀x∈l,good x)):=by obtain⟨o,g1,g2⟩:=fq (step:=step) (λ i v=>v=i/\i<=l.length/\i<=K/\∀x∈l.take i,good x) (λ o=>o= .inr false\/(o= .inl ()/\(l.length<=K->∀x∈l,good x))) K (λ k v h=>h.2.2.1) (by rintro i v ⟨rfl,hi,hK,hall⟩;by_cases hlt:i<l.length/\i<K;rcases h1 i hlt.1 hlt.2 with h |⟨h,hg⟩;exact .inr ⟨_,h,.inl rfl⟩;refine .inl ⟨_,h,rfl,hlt.1,hlt.2,λx hx=>?_⟩;rw[List.take_add_one,dF hlt.1,bP]at hx;rcases hx with hx |hx;exact hall x hx;simp at hx;subst hx;exact hg;refine .inr ⟨_,h2 i (by omega),.inr ⟨rfl,λhl x hx=>hall x ?_⟩⟩;rw[List.take_of_length_le (by omega)];exact hx) n 0 0 ⟨rfl,Nat.zero_le _,Nat.zero_le _,by simp⟩ (by omega);rcases g2 with rfl |⟨rfl,g2⟩;exact .inl g1;exact .inr ⟨g1,g2⟩
def WtR(l:List cK):Prop:=∀r∈l,(toE (m6 r)).wt<=4000000
structure apJ(t:eH):Prop where
 defs:iz t.cH
 rules:WtR t.aq
 A6:∀l∈t.land,l.from_.length*8<=140737488355328
structure arQ(t:eH)(d:aO):Prop where
 town:HF t
 draw:M3 d
 built:t.built.length<=8
 rules:t.aq.length<=6
 zones:∀z∈t.cz,z.corners.length<=12
 caps:∀c∈t.cQ,c.corners.length<=12/\t.cQ.length<=3
theorem ard:GF 5000003:=⟨aB _,by omega⟩
section
variable {R S:Nat->Nat->Prop}
inductive tM(R:Nat->Nat->Prop):Nat->Prop
 |mk (m:Nat) (f:Nat->Nat) (h:∀j,R j m->tM R (f j)) (h2:∀j,R j m->R (f j) j):tM R m
theorem aqo{m:Nat}(h:∀j,R j m->∃k,tM R k/\R k j):tM R m:=by
 classical
 refine .mk m (λ j=>if hj:R j m then(h j hj).choose else 0) (λ j hj=>?_) (λ j hj=>?_);simp only[hj,dite_true];exact(h j hj).choose_spec.1;simp only[hj,dite_true];exact(h j hj).choose_spec.2
theorem apf{P:Nat->Prop}(h:∀m,(∀ j,R j m->∃k,tM R k/\P k/\R k j)->P m){m:Nat}(hm:tM R m):P m:=by
 induction hm with
 |mk m f h1 h2 ih=>exact h m λj hj=>⟨f j,h1 j hj,ih j hj,h2 j hj⟩
end
def atk(B:List (List Nat))(j m:Nat):Prop:=j<B.length/\m∈B.getD j []
def gc(B:List (List Nat))(m:Nat):List Nat:=(List.range B.length).filter λj=>(B.getD j []).contains m
theorem KF{B:List (List Nat)}{j m:Nat}:j∈gc B m↔atk B j m:=by simp[gc,atk]
theorem alo(B:List (List Nat))(m:Nat):(gc B m).Nodup:=List.nodup_range.filter _
theorem KG{L:List Int}{k:Nat}(hk:k<L.length)(i:Nat)(v:Int):(L.set k v).getD i 0=if i=k then v else L.getD i 0:=by
 by_cases h:i=k
 ·subst h;simp[hk]
 ·simp[List.getElem?_set_ne (Ne.symm h),h]
theorem Yz(p:Nat->Bool)(k:Nat):∀{l:List Nat},l.Nodup->l.countP p=l.countP (λ j=>p j&&j !=k)+(bif l.contains k&&p k then 1 else 0)
 |[],_=>rfl
 |x::l,h=>by
  have ih:=Yz p k (List.nodup_cons.1 h).2;have hx:=(List.nodup_cons.1 h).1;simp only[List.countP_cons,List.contains_cons];by_cases e:x=k
  ·subst e;have:l.contains x=false:=(by simpa using hx);rw[this]at ih;simp only[au,Bool.false_and]at ih;rw[ih];cases p x<;>simp
  ·have e1:(k==x)=false:=(by simpa using Ne.symm e);have e2:(x !=k)=true:=(by simpa using e);rw[ih,e1,e2];cases p x<;>simp<;>omega
theorem ab2{p q:Nat->Bool}:∀{l:List Nat},(∀ x∈l,q x=true->p x=true)->∀{y:Nat},y∈l->p y=true->q y=false->l.countP q<l.countP p
 |[],_,_,hy,_,_=>by cases hy
 |x::l,h,y,hy,h1,h2=>by
  simp only[List.countP_cons];have hle:l.countP q<=l.countP p:=List.countP_mono_left λx hx=>h x (d9 _ hx);rcases aI.1 hy with rfl |hy
  ·rw[h1,h2];simp;omega
  ·have:=ab2 (λ x hx=>h x (d9 _ hx)) hy h1 h2;have:=h x (by simp);cases hq:q x with
   |true=>rw[this hq];simp;omega
   |false=>simp;omega
def vd(v:Int)(s:List Int×List Int)(k:Nat):List Int×List Int:=(s.1.set k 1,s.2.set k v)
def ot(v:Int)(s:List Int×List Int×List Nat)(k:Nat):List Int×List Int×List Nat:=bif s.1.getD k 0==0 then(s.1.set k 2,s.2.1.set k v,s.2.2++[k])else s
def ly(lab:List Int)(s:List Int×List Nat)(k:Nat):List Int×List Nat:=(s.1.set k (s.1.getD k 0 -1),bif(s.1.getD k 0 -1==0)&&(lab.getD k 0==0)then s.2++[k]else s.2)
theorem YA(v:Int):∀(W:List Nat)(s:List Int×List Int),(∀ k∈W,k<s.1.length)->(W.foldl (vd v) s).1.length=s.1.length/\(W.foldl (vd v) s).2.length=s.2.length/\∀i,(W.foldl (vd v) s).1.getD i 0=if i∈W then 1 else s.1.getD i 0
 |[],s,_=>by simp
 |k::W,s,h=>by obtain⟨h1,h2,h3⟩:=YA v W (vd v s k) (λ j hj=>by simpa[vd]using h j (by simp[hj]));refine⟨by simpa[vd]using h1,by simpa[vd]using h2,λi=>?_⟩;rw[foldl_cons,h3 i];simp only[vd];rw[KG (h k (by simp))];by_cases e1:i∈W<;>by_cases e2:i=k<;>simp[e1,e2]
theorem YB(v:Int):∀(T:List Nat)(s:List Int×List Int×List Nat),(∀ k∈T,k<s.1.length)->s.2.2.Nodup->(∀ i∈s.2.2,s.1.getD i 0≠0)->
 (T.foldl (ot v) s).1.length=s.1.length/\(T.foldl (ot v) s).2.1.length=s.2.1.length/\(∀ i,(T.foldl (ot v) s).1.getD i 0=if s.1.getD i 0=0/\i∈T then 2 else s.1.getD i 0)/\
 (T.foldl (ot v) s).2.2.Nodup/\(∀ i,i∈(T.foldl (ot v) s).2.2↔i∈s.2.2\/(s.1.getD i 0=0/\i∈T))
 |[],s,_,hn,_=>by simp[hn]
 |k::T,s,h,hn,ho=>by
  have hk:=h k (by simp);by_cases e:s.1.getD k 0=0
  ·have es:ot v s k=(s.1.set k 2,s.2.1.set k v,s.2.2++[k]):=(by unfold ot;rw[e];rfl);have hg:=KG hk (v:=2);have hko:k∉s.2.2:=λhm=>ho k hm e
   obtain⟨h1,h2,h3,h4,h5⟩:=YB v T (ot v s k) (λ j hj=>by rw[es];simpa using h j (by simp[hj]))
    (by rw[es];simp only;rw[List.nodup_append];exact⟨hn,by simp,λa ha c hc=>by simp at hc;subst hc;exact λe=>hko (e ▸ ha)⟩)
    (λ i hi=>by
     rw[es]at hi ⊢;simp only at hi ⊢;rw[hg];by_cases e2:i=k
     ·simp[e2]
     ·simp only[e2,if_false];rw[bP]at hi;rcases hi with hi |hi
      ·exact ho i hi
      ·simp at hi;exact absurd hi e2)
   rw[foldl_cons];rw[es]at h1 h2 h3 h5 ⊢;rw[es]at h4;refine⟨by simpa using h1,by simpa using h2,λi=>?_,h4,λi=>?_⟩
   ·rw[h3 i];simp only;rw[hg];by_cases e2:i=k
    ·subst e2;rw[aU rfl,aP (by simp),aU ⟨e,by simp⟩]
    ·simp[e2]
   ·rw[h5 i];simp only;rw[hg,bP];by_cases e2:i=k
    ·subst e2;exact⟨λ _=> .inr ⟨e,by simp⟩,λ_=> .inl (.inr (by simp))⟩
    ·simp[e2]
  ·have es:ot v s k=s:=(by unfold ot;rw[show (s.1.getD k 0==0)=false by simpa using e];rfl);obtain⟨h1,h2,h3,h4,h5⟩:=YB v T s (λ j hj=>h j (by simp[hj])) hn ho;rw[foldl_cons,es];refine⟨h1,h2,λi=>?_,h4,λi=>?_⟩
   ·rw[h3 i];by_cases e2:i=k
    ·subst e2;rw[aP (λ h=>e h.1),aP (λ h=>e h.1)]
    ·simp[e2]
   ·rw[h5 i];by_cases e2:i=k
    ·subst e2;exact⟨λ h=>h.elim .inl λh=>absurd h.1 e,λh=>h.elim .inl λh=>absurd h.1 e⟩
    ·simp[e2]
theorem aga(lab:List Int):∀(T:List Nat)(s:List Int×List Nat),(∀ k∈T,k<s.1.length)->T.Nodup->
 (T.foldl (ly lab) s).1.length=s.1.length/\(∀ i,(T.foldl (ly lab) s).1.getD i 0=if i∈T then s.1.getD i 0 -1 else s.1.getD i 0)/\
 (T.foldl (ly lab) s).2=s.2++T.filter λm=>(s.1.getD m 0 -1==0)&&(lab.getD m 0==0)
 |[],s,_,_=>by simp
 |k::T,s,h,hn=>by
  have hk:=h k (by simp);have hkT:=(List.nodup_cons.1 hn).1;obtain⟨h1,h2,h3⟩:=aga lab T (ly lab s k) (λ j hj=>by simpa[ly]using h j (by simp[hj])) (List.nodup_cons.1 hn).2;rw[foldl_cons];have hg:=KG hk (v:=s.1.getD k 0 -1);refine⟨by simpa[ly]using h1,λi=>?_,?_⟩
  ·rw[h2 i];simp only[ly];rw[hg];by_cases e2:i=k
   ·subst e2;simp[hkT]
   ·simp[e2]
  ·rw[h3];have hf:(T.filter λm=>((ly lab s k).1.getD m 0 -1==0)&&(lab.getD m 0==0))=T.filter λm=>(s.1.getD m 0 -1==0)&&(lab.getD m 0==0):=(by refine List.filter_congr λm hm=>?_;simp only[ly];rw[hg,aP (λ (e:m=k)=>hkT (e ▸ hm))]);rw[hf,List.filter_cons];simp only[ly];cases (s.1.getD k 0 -1==0)&&(lab.getD k 0==0)<;>simp
theorem agb{B:List (List Nat)}{lab:List Int}(hB:∀k,(B.getD k []).Nodup/\∀m∈B.getD k [],m<B.length)(p0:Nat->Bool):∀(O:List Nat)(p:Nat->Bool)(s:List Int×List Nat),O.Nodup->(∀ k∈O,k<B.length/\p k=true)->s.1.length=B.length->
 (∀ m,m<B.length->s.1.getD m 0=((gc B m).countP p:Int))->s.2.Nodup->(∀ m,m∈s.2↔m<B.length/\lab.getD m 0=0/\(gc B m).countP p=0/\(gc B m).countP p0≠0)->(∀ m,(gc B m).countP p<=(gc B m).countP p0)->
 (O.foldl (λ s k=>(B.getD k []).foldl (ly lab) s) s).1.length=B.length/\(∀ m,m<B.length->(O.foldl (λ s k=>(B.getD k []).foldl (ly lab) s) s).1.getD m 0=((gc B m).countP (λ j=>p j&&!O.contains j):Int))/\
 (O.foldl (λ s k=>(B.getD k []).foldl (ly lab) s) s).2.Nodup/\∀m,m∈(O.foldl (λ s k=>(B.getD k []).foldl (ly lab) s) s).2↔m<B.length/\lab.getD m 0=0/\(gc B m).countP (λ j=>p j&&!O.contains j)=0/\(gc B m).countP p0≠0
 |[],p,s,_,_,h1,h2,h3,h4,_=>by
  have e:(λ j=>p j&&!([]:List Nat).contains j)=p:=by funext j;simp
  rw[e];exact⟨h1,h2,h3,h4⟩
 |k::O,p,s,hn,ho,h1,h2,h3,h4,h5=>by
  obtain⟨hk,hp⟩:=ho k (by simp);obtain⟨hkO,hnO⟩:=List.nodup_cons.1 hn;have⟨n1,b1⟩:=hB k;obtain⟨g1,g2,g3⟩:=aga lab (B.getD k []) s (λ m hm=>by rw[h1];exact b1 m hm) n1;have hc:∀m,(gc B m).countP p=(gc B m).countP (λ j=>p j&&j !=k)+if m∈B.getD k []then 1 else 0:=λm=>by rw[Yz p k (alo B m),hp,Bool.and_true];have:(gc B m).contains k=decide (m∈B.getD k []):=(by rw[fB,List.contains_iff_mem,KF];simp[atk,hk]);rw[this];by_cases e:m∈B.getD k []<;>simp only[e,decide_true,decide_false,aj,au,if_true,if_false]
  have e:(λ j=>(p j&&j !=k)&&!O.contains j)=λj=>p j&&!(k::O).contains j:=by funext j;simp only[List.contains_cons,Bool.and_assoc,bne,Bool.not_or]
  have:=agb (lab:=lab) hB p0 O (λ j=>p j&&j !=k) ((B.getD k []).foldl (ly lab) s) hnO (λ j hj=>by
   obtain⟨a,b⟩:=ho j (by simp[hj]);have:j≠k:=λe=>hkO (e ▸ hj);exact⟨a,by simp[b,this]⟩) (by rw[g1,h1])
   (λ m hm=>by
    rw[g2 m,h2 m hm,hc m];by_cases e:m∈B.getD k []
    ·rw[aU e,aU e];omega
    ·rw[aP e,aP e];omega)
   (by rw[g3,List.nodup_append];refine⟨h3,n1.filter _,λa ha c hc'=>?_⟩;rw[mem_filter]at hc';have:=(h4 a).1 ha;intro e;subst e;have:=hc a;rw[aU hc'.1]at this;omega)
   (λ m=>by
    have hm:=hc m;have hm5:=h5 m;rw[g3,bP,h4 m,mem_filter];by_cases e:m∈B.getD k []
    ·have hb:=b1 m e;have:=h2 m hb;rw[aU e]at hm;simp only[e,true_and,aY,beq_iff_eq,hb];constructor
     ·rintro (h |h)
      ·omega
      ·exact⟨h.2,by omega,by omega⟩
     ·rintro⟨a,b,c⟩;exact .inr ⟨by omega,a⟩
    ·rw[aP e]at hm;simp only[e,false_and,or_false];rw[show (gc B m).countP (λ j=>p j&&j !=k)=(gc B m).countP p by omega])
   (λ m=>by have:=hc m;have:=h5 m;omega)
  rw[e]at this;exact this
structure GI(B:List (List Nat))(L left:List Int)(W:List Nat):Prop where
 ll:L.length=B.length
 lf:left.length=B.length
 wn:W.Nodup
 wb:∀m∈W,m<B.length
 wo:∀m∈W,L.getD m 0=0/\left.getD m 0=0
 wv:∀m,m<B.length->left.getD m 0=0->L.getD m 0=1\/m∈W
 cn:∀m,m<B.length->left.getD m 0=((gc B m).countP (λ j=>L.getD j 0 !=2):Int)
 lo:∀j,j<B.length->(L.getD j 0=2↔∃k,L.getD k 0=1/\atk B k j)
 li:∀i,i<B.length->L.getD i 0=1->tM (atk B) i/\left.getD i 0=0
 l3:∀i,L.getD i 0=0\/L.getD i 0=1\/L.getD i 0=2
theorem foldl_flat{α β σ:Type}(f:σ->β->σ)(g:α->List β):∀(l:List α)(s:σ),l.foldl (λ s x=>(g x).foldl f s) s=(l.flatMap g).foldl f s
 |[],_=>rfl
 |x::l,s=>by rw[foldl_cons,foldl_flat f g l,List.flatMap_cons,List.foldl_append]
theorem GI.round{B:List (List Nat)}{L left R:List Int}{W:List Nat}(hB:∀k,(B.getD k []).Nodup/\∀m∈B.getD k [],m<B.length)(h:GI B L left W)(hR:R.length=B.length)(u v:Int):
 ∃L1 R1 L2 R2 O left' X,W.foldl (vd u) (L,R)=(L1,R1)/\W.foldl (λ s k=>(B.getD k []).foldl (ot v) s) (L1,R1,[])=(L2,R2,O)/\O.foldl (λ s k=>(B.getD k []).foldl (ly L2) s) (left,[])=(left',X)/\
  R2.length=B.length/\O.Nodup/\(∀ k∈O,k<B.length)/\GI B L2 left' X/\(W≠[]->(List.range B.length).countP (λ i=>L2.getD i 0==0)<(List.range B.length).countP (λ i=>L.getD i 0==0)):=by
 have z:∀m,m<B.length->∀j,left.getD m 0=0->atk B j m->L.getD j 0=2:=λm hm j h0 hj=>by
  have h1:=h.cn m hm;rw[h0]at h1;have h2:(gc B m).countP (λ j=>L.getD j 0 !=2)=0:=by omega
  rw[List.countP_eq_zero]at h2;simpa using h2 j (KF.2 hj)
 obtain⟨a1,a2,a3⟩:=YA u W (L,R) (λ k hk=>by rw[h.ll];exact h.wb k hk);rcases hs1:W.foldl (vd u) (L,R)with ⟨L1,R1⟩;rw[hs1]at a1 a2 a3;simp only at a1 a2 a3;have hT:∀k,k∈W.flatMap (λ k=>B.getD k [])↔∃j∈W,atk B j k:=λk=>by rw[List.mem_flatMap];exact⟨λ ⟨j,h1,h2⟩=>⟨j,h1,h.wb j h1,h2⟩,λ⟨j,h1,h2⟩=>⟨j,h1,h2.2⟩⟩
 obtain⟨b1,b2,b3,b4,b5⟩:=YB v (W.flatMap λk=>B.getD k []) (L1,R1,[]) (λ k hk=>by obtain⟨j,_,_,h2⟩:=(hT k).1 hk;simp only;rw[a1,h.ll];exact(hB j).2 k h2) List.nodup_nil (λ i hi=>by cases hi);rcases hs2:(W.flatMap λk=>B.getD k []).foldl (ot v) (L1,R1,[])with ⟨L2,R2,O⟩;rw[hs2]at b1 b2 b3 b4 b5;simp only[bB,false_or]at b1 b2 b3 b4 b5;have hO:∀k∈O,k<B.length:=λk hk=>by have⟨j,_,_,h2⟩:=(hT k).1 ((b5 k).1 hk).2;exact(hB j).2 k h2
 have hL1:∀j,(L1.getD j 0=1↔j∈W\/L.getD j 0=1)/\(L1.getD j 0=2↔L.getD j 0=2)/\(L1.getD j 0=0↔j∉W/\L.getD j 0=0):=λj=>by
  rw[a3 j];by_cases e:j∈W
  ·have:=(h.wo j e).1;rw[aU e];refine⟨⟨λ _=> .inl e,λ_=>rfl⟩,⟨λ h=>absurd h (by decide),λh=>by omega⟩,⟨λ h=>absurd h (by decide),λh=>absurd e h.1⟩⟩
  ·rw[aP e];simp only[e,false_or,not_false_eq_true,true_and,and_self]
 have hL2:∀j,(L2.getD j 0=1↔L1.getD j 0=1)/\(L2.getD j 0=2↔L1.getD j 0=2\/j∈O):=λj=>by
  rw[b3 j,b5 j];by_cases e:L1.getD j 0=0/\j∈W.flatMap (λ k=>B.getD k [])
  ·rw[aU e];exact⟨⟨λ h=>absurd h (by decide),λh=>by omega⟩,⟨λ _=> .inr e,λ_=>rfl⟩⟩
  ·rw[aP e];exact⟨Iff.rfl,⟨.inl,λh=>h.elim id λh=>absurd h e⟩⟩
 have hp:∀m,(gc B m).countP (λ j=>L1.getD j 0 !=2)=(gc B m).countP (λ j=>L.getD j 0 !=2):=λm=>List.countP_congr λj _=>by have:=(hL1 j).2.1;rw[bne_iff_ne,bne_iff_ne,Ne,Ne,this]
 obtain⟨c1,c2,c3,c4⟩:=agb (lab:=L2) hB (λ j=>L1.getD j 0 !=2) O (λ j=>L1.getD j 0 !=2) (left,[]) b4 (λ k hk=>⟨hO k hk,by
  have:=((b5 k).1 hk).1;rw[bne_iff_ne,this];decide⟩) h.lf (λ m hm=>by rw[hp m];exact h.cn m hm) List.nodup_nil
  (λ m=>⟨λ h=>absurd h (by simp),λh=>absurd h.2.2.1 h.2.2.2⟩) (λ m=>aB _)
 rcases hs3:O.foldl (λ s k=>(B.getD k []).foldl (ly L2) s) (left,[])with ⟨left',X⟩;rw[hs3]at c1 c2 c3 c4;simp only at c1 c2 c3 c4;have hq:(λ j=>(L1.getD j 0 !=2)&&!O.contains j)=λj=>L2.getD j 0 !=2:=by funext j;have:=(hL2 j).2;rw[fB,aY,bne_iff_ne,bne_iff_ne,Ne,Ne,this,Bool.not_eq_true',<- Bool.not_eq_true,List.contains_iff_mem,not_or]
 rw[hq]at c2 c4;have lo':∀j,j<B.length->(L2.getD j 0=2↔∃k,L2.getD k 0=1/\atk B k j):=λj hj=>by
  rw[(hL2 j).2,(hL1 j).2.1];constructor
  ·rintro (h1 |h1)
   ·have⟨k,h2,h3⟩:=(h.lo j hj).1 h1;exact⟨k,(hL2 k).1.2 ((hL1 k).1.2 (.inr h2)),h3⟩
   ·have⟨k,h2,h3⟩:=(hT j).1 ((b5 j).1 h1).2;exact⟨k,(hL2 k).1.2 ((hL1 k).1.2 (.inl h2)),h3⟩
  ·rintro⟨k,h1,h2⟩;rcases (hL1 k).1.1 ((hL2 k).1.1 h1)with h3 |h3
   ·have hk0:=(h.wo k h3).1;have no:left.getD j 0≠0:=λh0=>(by have:=z j hj k h0 h2;omega);have n1:L.getD j 0≠1:=λh1=>no (h.li j hj h1).2;have nW:j∉W:=λhw=>no (h.wo j hw).2;rcases h.l3 j with e |e |e
    ·exact .inr ((b5 j).2 ⟨(hL1 j).2.2.2 ⟨nW,e⟩,(hT j).2 ⟨k,h3,h2⟩⟩)
    ·exact absurd e n1
    ·exact .inl e
   ·exact .inl ((h.lo j hj).2 ⟨k,h3,h2⟩)
 have no2:∀m,m<B.length->left'.getD m 0=0->L2.getD m 0≠2:=λm hm h0 h1=>by
  have⟨k,h2,h3⟩:=(lo' m hm).1 h1;have h4:=c2 m hm;rw[h0]at h4;have h5:(gc B m).countP (λ j=>L2.getD j 0 !=2)=0:=by omega
  rw[List.countP_eq_zero]at h5;have:=h5 k (KF.2 h3);rw[h2]at this;exact this rfl
 have keep:∀m,m<B.length->left.getD m 0=0->left'.getD m 0=0:=λm hm h0=>by rw[c2 m hm,show(gc B m).countP (λ j=>L2.getD j 0 !=2)=0 by rw[List.countP_eq_zero];intro j hj;have:=z m hm j h0 (KF.1 hj);rw[(hL2 j).2.2 (.inl ((hL1 j).2.1.2 this))];decide];rfl
 refine⟨L1,R1,L2,R2,O,left',X,rfl,(foldl_flat (ot v) (λ k=>B.getD k []) W (L1,R1,[])).trans hs2,hs3,by rw[b2,a2];exact hR,b4,hO,⟨by rw[b1,a1];exact h.ll,c1,c3,λm hm=>((c4 m).1 hm).1,λm hm=>?_,λm hm h0=>?_,c2,lo',λi hi h1=>?_,λi=>?_⟩,λhW=>?_⟩
 ·have⟨d1,d2,d3,_⟩:=(c4 m).1 hm;exact⟨d2,by rw[c2 m d1,d3];rfl⟩
 ·by_cases e:left.getD m 0=0
  ·refine .inl ((hL2 m).1.2 ((hL1 m).1.2 ?_));exact(h.wv m hm e).symm
  ·have h2:=no2 m hm h0;have:=b3 m;rcases h.l3 m with e2 |e2 |e2
   ·by_cases ew:m∈W
    ·exact absurd (h.wo m ew).2 e
    ·refine .inr ((c4 m).2 ⟨hm,?_,?_,?_⟩)
     ·have e3:=(hL1 m).2.2.2 ⟨ew,e2⟩;rw[this,e3]at h2 ⊢;by_cases e4:m∈W.flatMap (λ k=>B.getD k [])
      ·rw[aU ⟨rfl,e4⟩]at h2;exact absurd rfl h2
      ·rw[aP (λ h=>e4 h.2)]
     ·have:=c2 m hm;rw[h0]at this;omega
     ·have h6:=h.cn m hm;rw[hp m];intro h7;rw[h7]at h6;exact e h6
   ·exact absurd (h.li m hm e2).2 e
   ·exact absurd ((hL2 m).2.2 (.inl ((hL1 m).2.1.2 e2))) h2
 ·have h2:=(hL1 i).1.1 ((hL2 i).1.1 h1);have h3:left.getD i 0=0:=h2.elim (λ h3=>(h.wo i h3).2) λh3=>(h.li i hi h3).2;refine⟨h2.elim (λ hw=>aqo λj hj=>?_) λh3=>(h.li i hi h3).1,keep i hi h3⟩;have⟨k,h4,h5⟩:=(h.lo j hj.1).1 (z i hi j h3 hj);by_cases hk:k<B.length
  ·exact⟨k,(h.li k hk h4).1,h5⟩
  ·exact absurd h5.1 hk
 ·rw[b3 i];split
  ·exact .inr (.inr rfl)
  ·rw[a3 i];split
   ·exact .inr (.inl rfl)
   ·exact h.l3 i
 ·obtain⟨w,hw⟩:=List.exists_mem_of_ne_nil W hW;refine ab2 (λ i _ hi=>?_) (List.mem_range.2 (h.wb w hw)) (by rw[(h.wo w hw).1];rfl) ?_
  ·have hi:L2.getD i 0=0:=(by simpa using hi);rcases h.l3 i with e |e |e
   ·rw[e];rfl
   ·have:=(hL2 i).1.2 ((hL1 i).1.2 (.inr e));omega
   ·have:=(hL2 i).2.2 (.inl ((hL1 i).2.1.2 e));omega
  ·rw[(hL2 w).1.2 ((hL1 w).1.2 (.inl hw))];rfl
def aqp(B:List (List Nat))(L:List Int):Prop:=L.length=B.length/\∀i,i<B.length->(L.getD i 0=1↔tM (atk B) i)/\(L.getD i 0=2↔∃k,tM (atk B) k/\atk B k i)/\(L.getD i 0=0\/L.getD i 0=1\/L.getD i 0=2)
theorem GI.fin{B:List (List Nat)}{L left:List Int}(h:GI B L left []):aqp B L:=by
 have key:∀i,i<B.length->tM (atk B) i->L.getD i 0=1:=λi hi hg=>by
  refine apf (P:=λi=>i<B.length->L.getD i 0=1) (λ m ih hm=>?_) hg hi;refine(h.wv m hm ?_).elim id λh=>by cases h
  rw[h.cn m hm,show(gc B m).countP (λ j=>L.getD j 0 !=2)=0 by rw[List.countP_eq_zero];intro j hj;have⟨k,_,h2,h3⟩:=ih j (KF.1 hj);rw[(h.lo j (KF.1 hj).1).2 ⟨k,h2 h3.1,h3⟩];decide];rfl
 refine⟨h.ll,λi hi=>⟨⟨λ h1=>(h.li i hi h1).1,key i hi⟩,?_,h.l3 i⟩⟩;rw[h.lo i hi];exact⟨λ ⟨k,h1,h2⟩=>⟨k,(h.li k h2.1 h1).1,h2⟩,λ⟨k,h1,h2⟩=>⟨k,key k h2.1 h1,h2⟩⟩
def tQ(N:Int):Int->List Int->Bool
 |_,[]=>true
 |last,x::l=>!(decide (x<=last) || decide (x>=N))&&tQ N x l
theorem Rn{O:Type}(N:Int)(w o:O):∀(l:List Int)(s:Int),Od (λ x s=>bif decide (x<=s) || decide (x>=N)then .inr o else .inl x) (λ _=>w) l s=bif tQ N s l then w else o
 |[],_=>rfl
 |x::l,s=>by
  simp only[Od,tQ];cases decide (x<=s) || decide (x>=N)with
  |true=>rfl
  |false=>exact Rn N w o l x
theorem JD{N:Int}:∀{l:List Int}{s:Int},tQ N s l=true->(∀ x∈l,s<x/\x<N)/\l.Nodup
 |[],_,_=>⟨by simp,List.nodup_nil⟩
 |x::l,s,h=>by
  simp only[tQ,aY,Bool.not_eq_true',Bool.or_eq_false_iff,fF]at h;have⟨h1,h2⟩:=JD h.2;refine⟨λ y hy=>?_,List.nodup_cons.2 ⟨λ hx=>by have:=(h1 x hx).1;omega,h2⟩⟩;rcases aI.1 hy with rfl |hy
  ·omega
  ·have:=h1 y hy;omega
def cI(W:List Nat):List Int:=W.map λ(k:Nat)=>(k:Int)
@[simp] theorem DT (W:List Nat):(cI W).length=W.length:=by simp[cI]
theorem aqr(W:List Nat)(i:Nat):(cI W)[i]? =W[i]?.map λ(k:Nat)=>(k:Int):=by simp[cI]
theorem Ok{W:List Nat}{i:Nat}(h:i<W.length):bj (cI W) (i:Int)=some (W[i]:Int):=by rw[ES,aqr];simp[h]
theorem TO(W X:List Nat):cI (W++X)=cI W++cI X:=by simp[cI]
def fC(cl:List aJ):List (List Nat):=cl.map λc=>c.attacks.map Int.toNat
def HE(cl:List aJ):Prop:=∀c∈cl,tQ (cl.length:Int) (-1) c.attacks=true
theorem Pk{cl:List aJ}{i:Nat}(hi:i<cl.length):(fC cl).getD i []=cl[i].attacks.map Int.toNat:=by simp[fC,hi]
theorem u6(cl:List aJ):(fC cl).length=cl.length:=by simp[fC]
theorem ajY{N:Nat}{l:List Int}(h:tQ (N:Int) (-1) l=true):l=cI (l.map Int.toNat)/\(l.map Int.toNat).Nodup/\∀k∈l.map Int.toNat,k<N:=by
 have⟨h1,h2⟩:=JD h;refine⟨?_,?_,λk hk=>?_⟩
 ·unfold cI;rw[List.map_map]
  conv=>lhs;rw[<- List.map_id l]
  refine map_congr_left λx hx=>?_;have:=h1 x hx;simp;omega
 ·unfold List.Nodup at h2 ⊢;rw[List.pairwise_map];exact h2.imp_of_mem λ{a b} ha hb hab e=>hab (by have:=h1 a ha;have:=h1 b hb;omega)
 ·obtain⟨x,hx,rfl⟩:=mem_map.1 hk;have:=h1 x hx;omega
theorem Pm{cl:List aJ}(h:HE cl)(k:Nat):((fC cl).getD k []).Nodup/\∀m∈(fC cl).getD k [],m<(fC cl).length:=by
 rw[u6];by_cases hk:k<cl.length
 ·rw[Pk hk];exact(ajY (h _ (getElem_mem hk))).2
 ·have:(fC cl).getD k []=[]:=by simp[fC,List.getElem?_eq_none (Nat.not_lt.1 hk)]
  rw[this];exact⟨List.nodup_nil,λ_ h=>by cases h⟩
theorem S3{cl:List aJ}(h:HE cl){i:Nat}(hi:i<cl.length):cl[i].attacks=cI ((fC cl).getD i []):=by rw[Pk hi];exact(ajY (h _ (getElem_mem hi))).1
theorem YC{cl:List aJ}(hl:cl.length<=1000)(ha:∀c∈cl,c.attacks.length<=1000)(hn:2000<=n):xJ n cl=some ((cl.all λc=>tQ (cl.length:Int) (-1) c.attacks)&&decide ((cl.length:Int)<=300)):=by
 have r2:∀c∈cl,iter (qx cl c) n (((-1):Int),(0:Int))=some (bif tQ (cl.length:Int) (-1) c.attacks then .inl ()else .inr (.inr (.inr false))):=λc hc=>by
  have hc:=ha c hc;have:=abF (l:=c.attacks) (step:=qx cl c) (λ i (s:Int)=>(s,(i:Int))) (λ x s=>bif decide (x<=s) || decide (x>=(cl.length:Int))then .inr (.inr (.inr (.inr false)))else .inl x) (λ _=> .inl ()) (λ i hi s=>?_) (λ s=>by simp[qx]) n (by omega) (-1)
  ·rw[fL]at this;rw[this,Rn]
  ·have hi':decide ((i:Int)<(c.attacks.length:Int))=true:=(by simpa using hi);simp only[qx,hi',aj,aQ hi,ai,XW];cases decide (c.attacks[i]<=s) || decide (c.attacks[i]>=(cl.length:Int))with
   |true=>rfl
   |false=>simp only[au];rw[aL (by omega)]
 unfold xJ;have:=kz (l:=cl) (step:=uT n cl) (λ i=>(i:Int)) (λ c=>!tQ (cl.length:Int) (-1) c.attacks) () (λ _=>false) (λ i hi=>?_) ?_ n (by omega)
 ·rw[fL]at this;rw[this];have e:=jP (λ c:aJ=>!tQ (cl.length:Int) (-1) c.attacks) cl;have e2:(cl.all λc=>tQ (cl.length:Int) (-1) c.attacks)=!(cl.any λc=>!tQ (cl.length:Int) (-1) c.attacks):=List.all_eq_not_any_not;rw[e2,<- e];cases nE (λ c:aJ=>!tQ (cl.length:Int) (-1) c.attacks) cl<;>rfl
 ·have hi':decide ((i:Int)<(cl.length:Int))=true:=by simpa using hi
  simp only[uT,hi',aj,aQ hi,ai,r2 _ (getElem_mem hi)];cases tQ (cl.length:Int) (-1) cl[i].attacks with
  |true=>simp only[aj,iC,Bool.not_true,au];rw[aL (by omega)]
  |false=>rfl
 ·simp[uT]
theorem ab3(i:Nat):∀(T:List Nat)(g:List (List Int)),T.Nodup->(∀ k∈T,k<g.length)->∀m,((cI T).foldl (Oo i) g).getD m []=g.getD m []++if m∈T then [(i:Int)]else []
 |[],g,_,_,m=>by simp[cI]
 |k::T,g,hn,hb,m=>by
  obtain⟨hk,hn⟩:=List.nodup_cons.1 hn;have ih:=ab3 i T (Oo i g (k:Int)) hn (λ j hj=>by rw[afl];exact hb j (by simp[hj])) m;have e:cI (k::T)=(k:Int)::cI T:=rfl;rw[e,foldl_cons,ih];have hkl:=hb k (by simp);unfold Oo;by_cases em:m=k
  ·subst em;simp[hk,hkl]
  ·simp[em,List.getElem?_set_ne (Ne.symm em)]
theorem aj0{cl:List aJ}(h:HE cl){m:Nat}(hm:m<cl.length):∀i,i<=cl.length->(m8 (cl.map (·.attacks)) i).getD m []=cI ((List.range i).filter λj=>((fC cl).getD j []).contains m)
 | 0,_=>by simp[m8,cI,hm]
 |i+1,hi=>by
  have hi':i<cl.length:=hi;have e:(cl.map (·.attacks)).getD i []=cI ((fC cl).getD i []):=by rw[<- S3 h hi'];simp[hi']
  have⟨n1,b1⟩:=Pm h i;rw[m8,e,ab3 i _ _ n1 (λ k hk=>by rw[Oq,length_map,<- u6 cl];exact b1 k hk),aj0 h hm i (by omega),List.range_succ,List.filter_append,TO];congr 1;by_cases em:m∈(fC cl).getD i []
  ·rw[aU em,List.filter_cons,aU (by simpa using em)];rfl
  ·rw[aP em,List.filter_cons,aP (by simpa using em)];rfl
theorem aiF{cl:List aJ}(h:HE cl)(hl:cl.length<=1000)(ha:∀c∈cl,c.attacks.length<=1000):pM cl=some ((List.range cl.length).map λm=>cI (gc (fC cl) m)):=by
 unfold pM;have hc:(decide (cl.length<=1000000)&&(cl.all λc=>decide (c.attacks.length<=1000000)&&c.attacks.all λk=>decide (0<=k)&&decide (k<(cl.length:Int))))=true:=by simp only[aY,bF,all_eq_true];refine⟨by omega,λc hc=>⟨by have:=ha c hc;omega,λk hk=>?_⟩⟩;have:=(JD (h c hc)).1 k hk;omega
 rw[hc];simp only[aj];congr 1;have hlen:(m8 (cl.map (·.attacks)) cl.length).length=cl.length:=by rw[Oq,length_map]
 refine List.ext_getElem (by simp[hlen]) λm h1 h2=>?_;rw[hlen]at h1;have:=aj0 h h1 cl.length (aB _);rw[List.getElem_map,List.getElem_range];unfold gc;rw[u6,<- this];simp[hlen,h1]
section
variable {n:Nat} {cl:List aJ} (h:HE cl) (hl:cl.length<=1000) (ha:∀c∈cl,c.attacks.length<=1000) (hn:1000000<=n)
theorem aqs(u:Int){W:List Nat}{L R:List Int}(hW:∀k∈W,k<cl.length)(hw:W.length<=1000)(h1:L.length=cl.length)(h2:R.length=cl.length)(hn:1000000<=n):iter (mM cl u (cI W)) n ((0:Int),L,R)=some (W.foldl (vd u) (L,R)):=by
 have:=dN (l:=W) (step:=mM cl u (cI W)) (λ i (s:List Int×List Int)=>((i:Int),s.1,s.2)) (λ k s=>vd u s k) (λ s=>(s.1,s.2)) (λ _ s=>s.1.length=cl.length/\s.2.length=cl.length) (λ i hi s hs=>?_) (λ s _=>by simp[mM]) n (by omega) (L,R) ⟨h1,h2⟩
 ·rw[fL]at this;exact this
 ·have hi':decide ((i:Int)<(((cI W).length:Nat):Int))=true:=by simpa using hi
  have hk:=hW _ (getElem_mem hi);have e1:bj s.1 (W[i]:Int)=some s.1[W[i]]:=aQ (by omega);have e2:bj s.2 (W[i]:Int)=some s.2[W[i]]:=aQ (by omega);refine⟨?_,by simp[vd,hs.1],by simp[vd,hs.2]⟩;simp only[mM,hi',aj,Int.toNat_natCast,aZ (show i<(cI W).length by simpa using hi),Ok hi,ai,aZ hk,fL,Int.zero_add,e1,e2];rw[aL (by omega)];rfl
theorem adH(v:Int):∀(T:List Nat)(s:List Int×List Int×List Nat),(T.foldl (ot v) s).1.length=s.1.length/\(T.foldl (ot v) s).2.1.length=s.2.1.length/\(T.foldl (ot v) s).2.2.length<=s.2.2.length+T.length
 |[],s=>by simp
 |k::T,s=>by
  have⟨h1,h2,h3⟩:=adH v T (ot v s k);rw[foldl_cons,h1,h2];simp only[ot]at h3 ⊢;cases hc:s.1.getD k 0==0
  all_goals
   rw[hc]at h3;simp at h3 ⊢;omega
theorem aqt(v:Int){T:List Nat}{c:aJ}(hc:c.attacks=cI T){L R:List Int}{O:List Nat}(hT:∀k∈T,k<cl.length)(hw:T.length<=1000)(h1:L.length=cl.length)(h2:R.length=cl.length)(ho:O.length<=1000000000)(hn:1000000<=n):
 iter (mO cl v c) n ((0:Int),L,R,cI O)=some ((T.foldl (ot (i64.wrap (v+1))) (L,R,O)).1,(T.foldl (ot (i64.wrap (v+1))) (L,R,O)).2.1,cI (T.foldl (ot (i64.wrap (v+1))) (L,R,O)).2.2):=by
 have:=dN (l:=T) (step:=mO cl v c) (λ i (s:List Int×List Int×List Nat)=>((i:Int),s.1,s.2.1,cI s.2.2)) (λ k s=>ot (i64.wrap (v+1)) s k) (λ s=>(s.1,s.2.1,cI s.2.2)) (λ i s=>s.1.length=cl.length/\s.2.1.length=cl.length/\s.2.2.length<=1000000000+i) (λ i hi s hs=>?_) (λ s _=>by simp[mO,hc]) n (by omega) (L,R,O) ⟨h1,h2,ho⟩
 ·rw[fL]at this;exact this
 ·obtain⟨a1,a2,a3⟩:=hs;have hi':decide ((i:Int)<(((cI T).length:Nat):Int))=true:=by simpa using hi
  have hk:=hT _ (getElem_mem hi);have e1:bj s.1 (T[i]:Int)=some s.1[T[i]]:=aQ (by omega);have e2:bj s.2.1 (T[i]:Int)=some s.2.1[T[i]]:=aQ (by omega);have e3:s.1.getD T[i] 0=s.1[T[i]]:=by simp[show T[i] <s.1.length by omega]
  have ap:bJ (cI s.2.2).length (cI s.2.2).length (sub ([(T[i]:Int)]:List Int) 0 1).length 1 8=true:=by rw[DT];exact bX (n:=1)
  have hg:=adH (i64.wrap (v+1)) [T[i]] s;simp only[foldl_cons,List.foldl_nil,eD,length_nil]at hg;refine⟨?_,by rw[hg.1,a1],by rw[hg.2.1,a2],by omega⟩;simp only[mO,hc,hi',aj,Int.toNat_natCast,Ok hi,ai,aZ hk,fL,Int.zero_add,e1,e2,ot,e3];cases s.1[T[i]]==0 with
  |true=>
   simp only[aj,ap,eu,aH,ai,bL,Sum.inl.injEq];rw[aL (by omega),TO];rfl
  |false=>
   simp only[au,aH,aj,ai];rw[aL (by omega)]
include h in
theorem aqu(u v:Int){W:List Nat}{L R:List Int}(hW:∀k∈W,k<cl.length)(hw:W.length<=1000)(h1:L.length=cl.length)(h2:R.length=cl.length)(ha:∀c∈cl,c.attacks.length<=1000)(hn:1000000<=n)(hv:i64.wrap (u+1)=v):
 iter (mQ n cl u (cI W)) n ((0:Int),L,R,([]:List Int))=some ((W.foldl (λ s k=>((fC cl).getD k []).foldl (ot v) s) (L,R,[])).1,(W.foldl (λ s k=>((fC cl).getD k []).foldl (ot v) s) (L,R,[])).2.1,cI (W.foldl (λ s k=>((fC cl).getD k []).foldl (ot v) s) (L,R,[])).2.2):=by
 have hb:=Pm h;have hbl:∀k,k<cl.length->((fC cl).getD k []).length<=1000:=λk hk=>by rw[Pk hk,length_map];exact ha _ (getElem_mem hk)
 have:=dN (l:=W) (step:=mQ n cl u (cI W)) (λ i (s:List Int×List Int×List Nat)=>((i:Int),s.1,s.2.1,cI s.2.2)) (λ k s=>((fC cl).getD k []).foldl (ot v) s) (λ s=>(s.1,s.2.1,cI s.2.2)) (λ i s=>s.1.length=cl.length/\s.2.1.length=cl.length/\s.2.2.length<=1000*i) (λ i hi s hs=>?_) (λ s _=>by simp[mQ]) n (by omega) (L,R,[]) ⟨h1,h2,by simp⟩
 ·rw[fL]at this;exact this
 ·obtain⟨a1,a2,a3⟩:=hs;have hi':decide ((i:Int)<(((cI W).length:Nat):Int))=true:=by simpa using hi
  have hk:=hW _ (getElem_mem hi);have hg:=adH v ((fC cl).getD W[i] []) s;have:=hbl _ hk;refine⟨?_,by rw[hg.1,a1],by rw[hg.2.1,a2],by omega⟩;have r5:=aqt (n:=n) u (S3 h hk) (L:=s.1) (R:=s.2.1) (O:=s.2.2) (λ k hk'=>by rw[<- u6];exact(hb W[i]).2 k hk') this a1 a2 (by omega) hn;rw[hv]at r5;simp only[mQ,hi',aj,aZ (show i<(cI W).length by simpa using hi),Ok hi,ai,fL,Int.zero_add,aQ hk,aH,r5];rw[aL (by omega)]
theorem adI(lab:List Int):∀(T:List Nat)(s:List Int×List Nat),(T.foldl (ly lab) s).1.length=s.1.length/\(T.foldl (ly lab) s).2.length<=s.2.length+T.length
 |[],s=>by simp
 |k::T,s=>by
  have⟨h1,h2⟩:=adI lab T (ly lab s k);rw[foldl_cons,h1];simp only[ly]at h2 ⊢;cases hc:(s.1.getD k 0 -1==0)&&(lab.getD k 0==0)
  all_goals
   rw[hc]at h2;simp at h2 ⊢;omega
def YD(l:List Int)(c:Int):Prop:=∀k,-c<=l.getD k 0/\l.getD k 0<=1000000000
theorem aj1{lab:List Int}{s:List Int×List Nat}{k:Nat}{c:Int}(hk:k<s.1.length)(h:YD s.1 c):YD (ly lab s k).1 (c+1):=λj=>by simp only[ly];rw[KG hk];have:=h k;have:=h j;split<;>omega
theorem aqv{T:List Nat}{c:aJ}(hc:c.attacks=cI T){lab left:List Int}{X:List Nat}{d:Int}(hT:∀k∈T,k<cl.length)(hw:T.length<=1000)(h0:lab.length=cl.length)(h1:left.length=cl.length)(hd:0<=d)(hd2:d<=1000000000)(hlow:YD left d)(ho:X.length<=1000000000)(hn:1000000<=n):
 iter (mR cl lab c) n ((0:Int),left,cI X)=some ((T.foldl (ly lab) (left,X)).1,cI (T.foldl (ly lab) (left,X)).2)/\YD (T.foldl (ly lab) (left,X)).1 (d+1000):=by
 have low:∀(T:List Nat)(s:List Int×List Nat)(d:Int),0<=d->(∀ k∈T,k<s.1.length)->YD s.1 d->YD (T.foldl (ly lab) s).1 (d+T.length):=by
  intro T
  induction T with
  |nil=>intro s d _ _ h;simpa using h
  |cons k T ih=>
   intro s d hd hT h;have:=ih (ly lab s k) (d+1) (by omega) (λ j hj=>by simpa[ly]using hT j (by simp[hj])) (aj1 (hT k (by simp)) h);rw[foldl_cons,eD];intro j;have:=this j;omega
 refine⟨?_,λk=>by have:=low T (left,X) d hd (λ k hk=>by rw[h1];exact hT k hk) hlow k;omega⟩;have:=dN (l:=T) (step:=mR cl lab c) (λ i (s:List Int×List Nat)=>((i:Int),s.1,cI s.2)) (λ k s=>ly lab s k) (λ s=>(s.1,cI s.2)) (λ i s=>s.1.length=cl.length/\s.2.length<=1000000000+i/\YD s.1 (d+i)) (λ i hi s hs=>?_) (λ s _=>by simp[mR,hc]) n (by omega) (left,X) ⟨h1,ho,by simpa using hlow⟩
 ·rw[fL]at this;exact this
 ·obtain⟨a1,a3,a4⟩:=hs;have hi':decide ((i:Int)<(((cI T).length:Nat):Int))=true:=by simpa using hi
  have hk:=hT _ (getElem_mem hi);have e1:bj s.1 (T[i]:Int)=some (s.1.getD T[i] 0):=by rw[aQ (by omega)];simp[show T[i] <s.1.length by omega]
  have e2:bj lab (T[i]:Int)=some (lab.getD T[i] 0):=by rw[aQ (by omega)];simp[show T[i] <lab.length by omega]
  have e3:∀v,bj (s.1.set T[i] v) (T[i]:Int)=some v:=λv=>by rw[ES];simp[show T[i] <s.1.length by omega]
  have b4:=a4 T[i];have ew:i64.wrap (s.1.getD T[i] 0 -1)=s.1.getD T[i] 0 -1:=dw (by omega) (by omega);have ap:bJ (cI s.2).length (cI s.2).length (sub ([(T[i]:Int)]:List Int) 0 1).length 1 8=true:=by rw[DT];exact bX (n:=1)
  have hg:=adI lab [T[i]] s;have hlo:=aj1 (lab:=lab) (show T[i] <s.1.length by omega) a4;simp only[foldl_cons,List.foldl_nil,eD,length_nil]at hg;refine⟨?_,by rw[hg.1,a1],by omega,λk=>by have:=hlo k;omega⟩;simp only[mR,hc,hi',aj,Int.toNat_natCast,Ok hi,ai,aZ hk,fL,Int.zero_add,e1,e2,e3,ew,ly,zH];cases (s.1.getD T[i] 0 -1==0)&&(lab.getD T[i] 0==0)with
  |true=>
   simp only[aj,ap,eu,aH,ai];rw[aL (by omega),TO];rfl
  |false=>
   simp only[au,aH,aj,ai];rw[aL (by omega)]
include h in
theorem aqw{W:List Nat}{lab left:List Int}(hW:∀k∈W,k<cl.length)(hw:W.length<=1000)(h0:lab.length=cl.length)(h1:left.length=cl.length)(hlow:YD left 0)(ha:∀c∈cl,c.attacks.length<=1000)(hn:1000000<=n):
 iter (mU n cl lab (cI W)) n ((0:Int),left,([]:List Int))=some ((W.foldl (λ s k=>((fC cl).getD k []).foldl (ly lab) s) (left,[])).1,cI (W.foldl (λ s k=>((fC cl).getD k []).foldl (ly lab) s) (left,[])).2):=by
 have hb:=Pm h;have hbl:∀k,k<cl.length->((fC cl).getD k []).length<=1000:=λk hk=>by rw[Pk hk,length_map];exact ha _ (getElem_mem hk)
 have:=dN (l:=W) (step:=mU n cl lab (cI W)) (λ i (s:List Int×List Nat)=>((i:Int),s.1,cI s.2)) (λ k s=>((fC cl).getD k []).foldl (ly lab) s) (λ s=>(s.1,cI s.2)) (λ i s=>s.1.length=cl.length/\s.2.length<=1000*i/\YD s.1 (1000*i)) (λ i hi s hs=>?_) (λ s _=>by simp[mU]) n (by omega) (left,[]) ⟨h1,by simp,by simpa using hlow⟩
 ·rw[fL]at this;exact this
 ·obtain⟨a1,a3,a4⟩:=hs;have hi':decide ((i:Int)<(((cI W).length:Nat):Int))=true:=by simpa using hi
  have hk:=hW _ (getElem_mem hi);have hg:=adI lab ((fC cl).getD W[i] []) s;have:=hbl _ hk;obtain⟨r7,r8⟩:=aqv (n:=n) (S3 h hk) (lab:=lab) (left:=s.1) (X:=s.2) (λ k hk'=>by rw[<- u6];exact(hb W[i]).2 k hk') this h0 a1 (by omega) (by omega) a4 (by omega) hn
  change YD (List.foldl (ly lab) s _).1 _ at r8
  refine⟨?_,by rw[hg.1,a1],by omega,λk=>by have:=r8 k;omega⟩;simp only[mU,hi',aj,aZ (show i<(cI W).length by simpa using hi),Ok hi,ai,fL,Int.zero_add,aQ hk,aH,r7];rw[aL (by omega)]
include hl in
theorem aqx(hn:1000000<=n):iter (mK cl ((List.range cl.length).map λm=>cI (gc (fC cl) m))) n ((0:Int),List.replicate cl.length (0:Int),([]:List Int))=
 some ((List.range cl.length).map λm=>((gc (fC cl) m).length:Int),cI ((List.range cl.length).filter λm=>(gc (fC cl) m).length==0)):=by
 have:=iJ (step:=mK cl ((List.range cl.length).map λm=>cI (gc (fC cl) m))) (λ i=>((i:Int),(List.range cl.length).map λm=>(if m<i then((gc (fC cl) m).length:Int)else 0),cI ((List.range i).filter λm=>(gc (fC cl) m).length==0))) cl.length
  ((List.range cl.length).map λm=>((gc (fC cl) m).length:Int),cI ((List.range cl.length).filter λm=>(gc (fC cl) m).length==0)) (λ i hi=>?_) ?_ n (by omega)
 ·have e:((List.range cl.length).map λm=>(if m<0 then((gc (fC cl) m).length:Int)else 0))=List.replicate cl.length (0:Int):=by refine List.ext_getElem (by simp) λm h1 h2=>by simp
  rw[e]at this;exact this
 ·have hi':decide ((i:Int)<(cl.length:Int))=true:=by simpa using hi
  have e1:bj ((List.range cl.length).map λm=>cI (gc (fC cl) m)) (i:Int)=some (cI (gc (fC cl) i)):=by rw[ES];simp[hi]
  have e2:∀l:List Int,l.length=cl.length->∃x,bj l (i:Int)=some x:=λl h=>⟨_,aQ (by omega)⟩;obtain⟨x,hx⟩:=e2 ((List.range cl.length).map λm=>(if m<i then((gc (fC cl) m).length:Int)else 0)) (by simp);have e3:∀(l:List Int) v,l.length=cl.length->bj (l.set i v) (i:Int)=some v:=λl v h=>by rw[ES];simp[show i<l.length by omega]
  have e4:(((List.range cl.length).map λm=>(if m<i then((gc (fC cl) m).length:Int)else 0)).set i ((gc (fC cl) i).length:Int))=(List.range cl.length).map λm=>(if m<i+1 then((gc (fC cl) m).length:Int)else 0):=by
   refine List.ext_getElem (by simp) λm h1 h2=>?_;rw[List.getElem_set];by_cases e:i=m
   ·subst e;simp
   ·rw[aP e];simp only[List.getElem_map,List.getElem_range];by_cases e2:m<i
    ·rw[aU e2,aU (by omega)]
    ·rw[aP e2,aP (by omega)]
  have hfl:((List.range i).filter λm=>(gc (fC cl) m).length==0).length<=i:=by have:=length_filter_le (λ m=>(gc (fC cl) m).length==0) (List.range i);simpa using this
  have ap:bJ (cI ((List.range i).filter λm=>(gc (fC cl) m).length==0)).length (cI ((List.range i).filter λm=>(gc (fC cl) m).length==0)).length (sub ([(i:Int)]:List Int) 0 1).length 1 8=true:=by rw[DT];exact bX (n:=1)
  simp only[mK,hi',aj,Int.toNat_natCast,e1,ai,aZ hi,fL,Int.zero_add,hx,e3 _ _ (show ((List.range cl.length).map λm=>(if m<i then((gc (fC cl) m).length:Int)else 0)).length=cl.length by simp),DT];rw[List.range_succ,List.filter_append,TO,List.filter_cons];have eb:(((gc (fC cl) i).length:Int)==0)=((gc (fC cl) i).length==0):=by rw[fB];simp
  rw[eb];cases hz:(gc (fC cl) i).length==0 with
  |true=>
   simp only[DT]at ap;simp only[aj,ap,eu,aH,ai,e4,if_true];rw[aL (by omega)];rfl
  |false=>
   simp only[au,aH,aj,ai,e4];rw[aL (by omega)];simp[cI]
 ·have e:((List.range cl.length).map λm=>(if m<cl.length then((gc (fC cl) m).length:Int)else 0))=(List.range cl.length).map λm=>((gc (fC cl) m).length:Int):=by refine map_congr_left λm hm=>aU (List.mem_range.1 hm)
  simp[mK,e]
include h hl in
theorem agf(ha:∀c∈cl,c.attacks.length<=1000)(h3:cl.length<=300)(hn:1000000<=n):∃L R,qy n cl=some (L,R,0)/\L.length=cl.length/\aqp (fC cl) L:=by
 have hb:=Pm h;have nl:=u6 cl;have hr:xJ n cl=some true:=by
  rw[YC hl ha (by omega)];have h1:(cl.all λc=>tQ (cl.length:Int) (-1) c.attacks)=true:=by rw[all_eq_true];exact h
  have h2:decide ((cl.length:Int)<=300)=true:=by simp;omega
  rw[h1,h2];rfl
 have i0:GI (fC cl) (List.replicate cl.length (0:Int)) ((List.range cl.length).map λm=>((gc (fC cl) m).length:Int)) ((List.range cl.length).filter λm=>(gc (fC cl) m).length==0):=by
  have z:∀j,(List.replicate cl.length (0:Int)).getD j 0=0:=λj=>by by_cases e:j<cl.length<;>simp[e]
  have g:∀m,m<cl.length->((List.range cl.length).map λm=>((gc (fC cl) m).length:Int)).getD m 0=((gc (fC cl) m).length:Int):=λm hm=>by simp[hm]
  refine⟨by simp[nl],by simp[nl],List.nodup_range.filter _,λm hm=>?_,λm hm=>?_,λm hm h0=>?_,λm hm=>?_,λj hj=>?_,λi hi h1=>?_,λi=> .inl (z i)⟩
  ·rw[mem_filter,List.mem_range]at hm;rw[nl];exact hm.1
  ·rw[mem_filter,List.mem_range]at hm;refine⟨z m,?_⟩;rw[g m hm.1];have:=hm.2;simp at this;simp[this]
  ·rw[nl]at hm;rw[g m hm]at h0;refine .inr (mem_filter.2 ⟨List.mem_range.2 hm,?_⟩);have:(gc (fC cl) m).length=0:=(by omega);rw[this];rfl
  ·rw[nl]at hm;rw[g m hm];have:(gc (fC cl) m).countP (λ j=>(List.replicate cl.length (0:Int)).getD j 0 !=2)=(gc (fC cl) m).length:=(by rw[List.countP_eq_length];intro j _;rw[z j];rfl);rw[this]
  ·rw[z j];exact⟨λ h=>absurd h (by decide),λ⟨k,h1,_⟩=>by rw[z k]at h1;exact absurd h1 (by decide)⟩
  ·rw[z i]at h1;exact absurd h1 (by decide)
 obtain⟨⟨L,R⟩,h5,h6⟩:=adh (step:=qa n cl) (λ v=>∃W,v.2.2.2.2=cI W/\GI (fC cl) v.2.1 v.2.2.2.1 W/\v.2.2.1.length=cl.length)
  (λ o=>o.1.length=cl.length/\o.2.length=cl.length/\aqp (fC cl) o.1) (λ v=>(List.range (fC cl).length).countP (λ i=>v.2.1.getD i 0==0)) (λ v hv=>by
   obtain⟨u,L,R,left,w⟩:=v;obtain⟨W,h1,h2,h3⟩:=hv;simp only at h1 h2 h3;subst h1;have hW:∀k∈W,k<cl.length:=λk hk=>(by rw[<- nl];exact h2.wb k hk);have hWl:W.length<=cl.length:=xK _ W h2.wn hW;by_cases e:W=[]
   ·subst e;refine .inr ⟨(L,R),by simp[qa,cI],by rw[h2.ll,nl],h3,h2.fin⟩
   ·obtain⟨L1,R1,L2,R2,O,left',X,e1,e2,e3,e4,e5,e6,e7,e8⟩:=h2.round hb (R:=R) (by rw[h3,nl]) u (i64.wrap (u+1));have l1:L1.length=cl.length/\R1.length=cl.length:=(by have:=YA u W (L,R) (λ k hk=>by rw[h2.ll];exact h2.wb k hk);rw[e1]at this;exact⟨by rw[this.1,h2.ll,nl],by rw[this.2.1,h3]⟩);have hO:∀k∈O,k<cl.length:=λk hk=>(by rw[<- nl];exact e6 k hk);have hOl:O.length<=cl.length:=xK _ O e5 hO;have low:YD left 0:=λk=>by
     by_cases hk:k<cl.length
     ·rw[h2.cn k (by rw[nl];exact hk)];have:=List.countP_le_length (p:=λj=>L.getD j 0 !=2) (l:=gc (fC cl) k);have h9:(gc (fC cl) k).length<=cl.length:=(by have:=length_filter_le (λ j=>((fC cl).getD j []).contains k) (List.range (fC cl).length);unfold gc;rw[List.length_range,nl]at this;rwa [nl]);omega
     ·have:left.getD k 0=0:=(by simp[List.getElem?_eq_none (show left.length<=k by rw[h2.lf,nl];omega)]);rw[this];omega
    have r3:=aqs (n:=n) u hW (by omega) (by rw[h2.ll,nl]) h3 hn;have r4:=aqu (n:=n) h u _ hW (by omega) l1.1 l1.2 ha hn rfl;have r6:=aqw (n:=n) h hO (by omega) (by rw[e7.ll,nl]) (by rw[h2.lf,nl]) low ha hn;rw[e1]at r3;rw[e2]at r4;rw[e3]at r6;refine .inl ⟨(i64.wrap (u+2),L2,R2,left',cI X),?_,⟨X,rfl,e7,by rw[e4,nl]⟩,e8 e⟩;have hw:decide (((cI W).length:Int)>0)=true:=(by have:=List.length_pos_iff.2 e;simp;omega);simp only[qa,hw,aj,r3,ai,length_nil,aH,r4,r6])
  n (1,List.replicate cl.length (0:Int),List.replicate cl.length (0:Int),(List.range cl.length).map (λ m=>((gc (fC cl) m).length:Int)),cI ((List.range cl.length).filter λm=>(gc (fC cl) m).length==0)) ⟨_,rfl,i0,by simp⟩ (by have:=List.countP_le_length (p:=λi=>(List.replicate cl.length (0:Int)).getD i 0==0) (l:=List.range (fC cl).length);rw[List.length_range,nl]at this;simp only;rw[nl];omega)
 obtain⟨h7,h8,h9⟩:=h6;simp only at h7 h8 h9;refine⟨L,R,?_,h7,h9⟩;have mk:(decide ((cl.length:Int)<=(cl.length:Int))&&(decide (0<=(cl.length:Int))&&qH (cl.length:Int) 8))=true:=by have hmx:maxLen=9223372036854775807:=rfl;simp[qH];omega
 unfold qy;have sL:sub L 0 cl.length=L:=by rw[<- h7];exact dO L
 have sR:sub R 0 cl.length=R:=by rw[<- h8];exact dO R
 simp only[hr,ai,Bool.not_true,au,aiF h hl ha,mk,aj,length_nil,aH,Int.toNat_natCast,aqx hl hn,h5,sL,sR,h7,h8]
end
abbrev xf(a b:dK):Bool:=decide (i64.wrap (a.from_ -b.from_)<0)
abbrev stM:Nat:=12
theorem ab4{l:List dK}(hl:l.length<=stM)(_:2000<=n):vX n l (λ y1=>nO y1.1 y1.2.1)=some (jq xf l)/\(jq xf l).length=l.length:=by
 have hl:l.length<=12:=hl;refine⟨?_,zn hl⟩;show Ov l _=_;unfold Ov;have h1:Nat.ble l.length 1099511627775=true:=Nat.ble_eq_true_of_le (by omega);have h2:Nat.ble l.length 12=true:=Nat.ble_eq_true_of_le hl;rw[h1,h2,Bool.or_true,Bool.and_true,Bool.true_and];have h3:((default::l).all λx=>(default::l).all λy=>((λ y1:dK×dK×Unit=>nO y1.1 y1.2.1) (x,y,())).isSome)=true:=by simp[nO]
 rw[h3];rfl
def gj(x:Int):Bool:=decide (0<=x)&&decide (x<=1073741824)
theorem YE(x:Int):nP x=some (gj x):=by unfold nP gj;rw[zH]
def xl(l:List Int):Bool:=decide (l.length<=1000)&&(l.all gj&&(List.range l.length).all λi=>decide (i=0) || decide (l.getD (i -1) 0<l.getD i 0))
theorem agh{l:List Int}(hn:2000<=n):uw n l=some (xl l):=by
 unfold uw xl;by_cases hl:l.length<=1000
 ·have h0:decide ((l.length:Int)>1000)=false:=by simp;omega
  have h1:decide (l.length<=1000)=true:=by simpa using hl
  rw[h0,au,h1,Bool.true_and];have hp:∀i:Nat,i<l.length->lW l (i:Int)=some (bif !gj (l.getD i 0) || (!decide (i=0)&&!decide (l.getD (i -1) 0<l.getD i 0))then .inr (.inr false)else .inl ((i+1:Nat):Int)):=λi hi=>by
   have hi':decide ((i:Int)<(l.length:Int))=true:=(by simpa using hi);have e0:l[i]=l.getD i 0:=(by simp[hi]);simp only[lW,hi',aj,aQ hi,ai,YE,e0];rw[aL (by omega)];cases gj (l.getD i 0)with
   |false=>rfl
   |true=>
    by_cases hz:i=0
    ·subst hz;rfl
    ·have h2:decide ((i:Int)>0)=true:=(by simp;omega);have e1:bj l (i64.wrap ((i:Int) -1))=some (l.getD (i -1) 0):=(by rw[lF (by omega) (by omega),aQ (by omega)];simp[show i -1<l.length by omega]);simp only[h2,aj,Bool.not_true,au,e1,ai,Bool.false_or,hz,decide_false,Bool.not_false,Bool.true_and];have e2:decide (l.getD i 0<=l.getD (i -1) 0)=!decide (l.getD (i -1) 0<l.getD i 0):=(by rw[fB];simp);rw[e2];cases decide (l.getD (i -1) 0<l.getD i 0)<;>rfl
  have:=kz (l:=List.range l.length) (step:=lW l) (λ i=>(i:Int)) (λ i=>!gj (l.getD i 0) || (!decide (i=0)&&!decide (l.getD (i -1) 0<l.getD i 0))) () (λ _=>false) (λ i hi=>?_) ?_ n (by simp;omega)
  ·rw[fL]at this;rw[this];have e:=jP (λ i=>!gj (l.getD i 0) || (!decide (i=0)&&!decide (l.getD (i -1) 0<l.getD i 0))) (List.range l.length);have e2:(l.all gj&&(List.range l.length).all λi=>decide (i=0) || decide (l.getD (i -1) 0<l.getD i 0))=!((List.range l.length).any λi=>!gj (l.getD i 0) || (!decide (i=0)&&!decide (l.getD (i -1) 0<l.getD i 0))):=by
    rw[fB];simp only[aY,all_eq_true,Bool.not_eq_true',any_eq_false,List.mem_range,Bool.or_eq_true,bF];constructor
    ·rintro⟨a,b⟩ i hi hc;rcases hc with hc |hc
     ·have:=a (l.getD i 0) (by simp[hi]);rw[this]at hc;cases hc
     ·simp at hc;have:=b i hi;simp at this;omega
    ·intro h;refine⟨λ x hx=>?_,λi hi=>?_⟩
     ·obtain⟨i,hi,rfl⟩:=List.getElem_of_mem hx;have:=h i hi;simp[hi]at this;exact this.1
     ·have:=h i hi;simp at this ⊢;omega
   rw[e2,<- e];cases nE _ (List.range l.length)<;>rfl
  ·rw[hp i (by simpa using hi),List.getElem_range]
  ·rw[List.length_range];simp[lW]
 ·have h0:decide ((l.length:Int)>1000)=true:=by simp;omega
  have h1:decide (l.length<=1000)=false:=by simpa using hl
  rw[h0,h1];rfl
def xy(hol:List Int)(d:Int):Int:=hol.foldl (λ v h=>bif decide (h<d)&&decide (Int.tmod h 7<5)then i64.wrap (v -1)else v) (i64.wrap (i64.wrap (i64.wrap (Int.tdiv d 7)*5)+min (Int.tmod d 7) 5))
theorem adJ{hol:List Int}{d:Int}(hl:hol.length<n)(hn:hol.length<1000000000):ku n hol d=some (xy hol d):=by
 unfold ku;have:=gq (l:=hol) (step:=qM hol d) (λ i (s:Int)=>(s,(i:Int))) (λ h v=>bif decide (h<d)&&decide (Int.tmod h 7<5)then i64.wrap (v -1)else v) (λ s=>s) (λ i hi s=>?_) (λ s=>by simp[qM]) n hl (i64.wrap (i64.wrap (i64.wrap (Int.tdiv d 7)*5)+min (Int.tmod d 7) 5))
 ·rw[fL]at this;rw[show ((7:Nat) !=0)=true from rfl];simp only[aj,this];rfl
 ·have hi':decide ((i:Int)<(hol.length:Int))=true:=by simpa using hi
  simp only[qM,hi',aj,aQ hi,ai,show((7:Nat) !=0)=true from rfl,zH];rw[aL (by omega)];cases decide (hol[i] <d)&&decide (Int.tmod hol[i] 7<5)<;>rfl
def z7(hol:List Int)(C:List dK)(a b:Int):Int:=
 C.foldl (λ v s=>bif decide (max s.from_ (i64.wrap (a+1))<=min s.to b)then i64.wrap (v -i64.wrap (xy hol (i64.wrap (min s.to b+1)) -xy hol (max s.from_ (i64.wrap (a+1)))))else v) (i64.wrap (xy hol (i64.wrap (b+1)) -xy hol (i64.wrap (a+1))))
theorem count_eq{hol:List Int}{C:List dK}{a b:Int}(hl:hol.length<=1000)(hc:C.length<=1000)(hn:2000<=n):uy n hol C a b=some (z7 hol C a b):=by
 unfold uy;have:=gq (l:=C) (step:=pW n hol C a b) (λ i (s:Int)=>(s,(i:Int))) (λ s v=>bif decide (max s.from_ (i64.wrap (a+1))<=min s.to b)then i64.wrap (v -i64.wrap (xy hol (i64.wrap (min s.to b+1)) -xy hol (max s.from_ (i64.wrap (a+1)))))else v) (λ s=>s) (λ i hi s=>?_) (λ s=>by simp[pW]) n (by omega) (i64.wrap (xy hol (i64.wrap (b+1)) -xy hol (i64.wrap (a+1))))
 ·rw[fL]at this;rw[adJ (by omega) (by omega),ai,adJ (by omega) (by omega),ai,this];rfl
 ·have hi':decide ((i:Int)<(C.length:Int))=true:=by simpa using hi
  have u:∀d,ku n hol d=some (xy hol d):=λd=>adJ (by omega) (by omega);simp only[pW,hi',aj,aQ hi,ai,u];rw[aL (by omega)];cases decide (max C[i].from_ (i64.wrap (a+1))<=min C[i].to b)<;>rfl
theorem alq{N:Nat}{φ:(Int×Unit)->Option Bool}(f:Int->Bool)(hf:∀x,φ (x,())=some (f x))(hN:N<4294967296)(hn:100<=n):∃k:Nat,sort_Search n (N:Int) φ=some (k:Int)/\k<=N/\(k<N->f (k:Int)=true)/\(0<k->f ((k:Int) -1)=false):=by
 have main:∀(k m i j:Nat),j -i<2 ^ k->k<m->i<=j->j<=N->(j<N->f (j:Int)=true)->(0<i->f ((i:Int) -1)=false)->∃r:Nat,iter (je φ) m ((i:Int),(j:Int))=some (r:Int)/\r<=N/\(r<N->f (r:Int)=true)/\(0<r->f ((r:Int) -1)=false):=by
  intro k
  induction k with
  |zero=>
   intro m i j h1 h2 h3 h4 h5 h6;obtain⟨m,rfl⟩:∃m',m=m'+1:=⟨m -1,by omega⟩;have:i=j:=(by omega);subst this;exact⟨i,fI (by simp[je]),h4,h5,h6⟩
  |succ k ih=>
   intro m i j h1 h2 h3 h4 h5 h6;obtain⟨m,rfl⟩:∃m',m=m'+1:=⟨m -1,by omega⟩;by_cases e:i=j
   ·subst e;exact⟨i,fI (by simp[je]),h4,h5,h6⟩
   ·have hlt:decide ((i:Int)<(j:Int))=true:=(by simp;omega);have w1:i64.wrap ((i:Int)+(j:Int))=((i+j:Nat):Int):=(by rw[dw (by omega) (by omega)];omega);have w2:IntKind.u64.wrap ((i+j:Nat):Int)=((i+j:Nat):Int):=abH (by omega);have w3:((i+j:Nat):Int)/2 ^ (1:Int).toNat=(((i+j)/2:Nat):Int):=(by rw[show (2:Int) ^ (1:Int).toNat=2 from rfl];omega);have w4:i64.wrap (((i+j)/2:Nat):Int)=(((i+j)/2:Nat):Int):=Oc (by omega);have hb:(decide (0<=1)&&decide (1<=IntKind.u64.bits))=true:=rfl;have hp:=Nat.pow_succ 2 k;have w5:i64.wrap ((((i+j)/2:Nat):Int)+1)=(((i+j)/2+1:Nat):Int):=aL (by omega);cases hm:f (((i+j)/2:Nat):Int)with
    |false=>
     have st:je φ ((i:Int),(j:Int))=some (.inl ((((i+j)/2+1:Nat):Int),(j:Int))):=(by simp only[je,hlt,aj,w1,w2,w3,w4,hf,hm,ai,Bool.not_false,w5];rfl);rw[jL st];refine ih m ((i+j)/2+1) j (by omega) (by omega) (by omega) h4 h5 λ_=>?_;rw[show (((i+j)/2+1:Nat):Int) -1=(((i+j)/2:Nat):Int)by omega];exact hm
    |true=>
     have st:je φ ((i:Int),(j:Int))=some (.inl ((i:Int),(((i+j)/2:Nat):Int))):=(by simp only[je,hlt,aj,w1,w2,w3,w4,hf,hm,ai,Bool.not_true,au];rfl);rw[jL st];exact ih m i ((i+j)/2) (by omega) (by omega) (by omega) (by omega) (λ _=>hm) h6
 unfold sort_Search;obtain⟨r,h1,h2,h3,h4⟩:=main 32 n 0 N (by omega) (by omega) (by omega) (aB _) (λ h=>by omega) (λ h=>by omega);rw[fL]at h1;exact⟨r,by rw[h1];rfl,h2,h3,h4⟩
def H5(s:dK):Bool:=!(decide (s.from_<0) || (decide (s.from_>s.to) || decide (s.to>1073741824)))
def sg(l:List dK):Bool:=decide (l.length<=100)&&l.all H5
def CN(out:List dK)(s:dK):List dK:=match out.getLast? with
 |some t=>bif decide (s.from_<=t.to)then out.dropLast++[⟨t.from_,max t.to s.to⟩]else out++[s]
 |none=>[s]
def pb(l:List dK):List dK:=(jq xf l).foldl CN []
theorem aj2(out:List dK)(s:dK):(CN out s).length<=out.length+1:=by
 unfold CN;cases h:out.getLast? with
 |none=>simp
 |some t=>
  show(bif decide (s.from_<=t.to)then out.dropLast++[⟨t.from_,max t.to s.to⟩]else out++[s]:List dK).length<=_;cases decide (s.from_<=t.to)<;>simp<;>omega
theorem L6:∀(l out:List dK),(l.foldl CN out).length<=out.length+l.length
 |[],out=>by simp
 |x::l,out=>by have:=L6 l (CN out x);have:=aj2 out x;rw[foldl_cons,eD];omega
theorem aj3{l:List dK}(hlm:l.length<=stM)(hn:2000<=n):wK n l=some (bif sg l then(pb l,true)else([],false)):=by
 have hl:l.length<=100:=Nat.le_trans hlm (by decide);unfold wK sg;have h0:decide ((l.length:Int)>100)=false:=by simp;omega
 have h1:decide (l.length<=100)=true:=by simp;omega
 have hcl:BM l=some l:=AP (b:=16) (by omega) (by simp[maxLen];omega);have⟨hst,hsl⟩:=ab4 (n:=n) hlm hn;rw[h0,au,h1,Bool.true_and,hcl];simp only[ai,aH,aj,hst];have:=kz (l:=l) (step:=qK l) (λ i=>(i:Int)) (λ s=>!H5 s) () (λ _=>(([]:List dK),false)) (λ i hi=>?_) ?_ n (by omega)
 ·rw[fL]at this;rw[this];have e:=jP (λ s=>!H5 s) l;rw[List.all_eq_not_any_not,<- e];cases nE (λ s=>!H5 s) l with
  |some i=>rfl
  |none=>
   have:=dN (l:=jq xf l) (step:=qL l (jq xf l)) (λ i (s:List dK)=>((i:Int),s)) (λ x s=>CN s x) (λ s=>s) (λ i s=>s.length<=i) (λ i hi s hs=>?_) (λ s _=>by simp[qL,hsl]) n (by omega) [] (aB _)
   ·rw[fL]at this;simp only[iC,length_nil,aH,aj,this,ai,dO,Option.isSome_none,Bool.not_false];rfl
   ·rw[hsl]at hi;have hi':decide ((i:Int)<(l.length:Int))=true:=(by simpa using hi);have his:i<(jq xf l).length:=(by omega);refine⟨?_,by have:=aj2 s (jq xf l)[i];omega⟩;simp only[qL,hi',aj,aZ hi,fL,Int.zero_add,aQ his,ai];unfold CN;rcases List.eq_nil_or_concat s with e |⟨a,t,e⟩
    ·subst e;have ap:bJ 0 0 (sub ([(jq xf l)[i]]:List dK) 0 1).length 1 16=true:=bX (n:=1);have hz:decide (i64.wrap ((([]:List dK).length:Int) -1)>=0)=false:=(by simp[IntKind.wrap_i64]);simp only[hz,au,ai,length_nil,ap,eu,aH,aj,List.getLast?_nil];rw[aL (by omega)];rfl
    ·rw[List.concat_eq_append]at e;subst e;have hla:(a++[t]).length=a.length+1:=(by simp);have hw:i64.wrap (((a++[t]).length:Int) -1)=(a.length:Int):=(by rw[dQ];simp only[eD,length_nil];rw[dw (by omega) (by omega)];omega);have hg:decide ((a.length:Int)>=0)=true:=(by simp);have hb:cP (a.length:Int) (a++[t]).length=true:=aZ (by simp);have ha:bj (a++[t]) (a.length:Int)=some t:=(by rw[ES];simp);have ap:bJ (a++[t]).length (a++[t]).length (sub ([(jq xf l)[i]]:List dK) 0 1).length 1 16=true:=bX (n:=1);have hset:∀v,(a++[t]).set a.length v=a++[v]:=λv=>(by simp);simp only[hw,hg,hb,ha,aj,ai,Int.toNat_natCast,hset,List.getLast?_append,List.getLast?_singleton,Option.some_or];cases decide ((jq xf l)[i].from_<=t.to)with
     |true=>simp only[aj,dQ,eD,length_nil,aH,ai,List.dropLast_concat];rw[aL (by omega)]
     |false=>simp only[au,ap,aj,eu,aH,ai];rw[aL (by omega)];rfl
 ·have hi':decide ((i:Int)<(l.length:Int))=true:=by simpa using hi
  simp only[qK,hi',aj,aQ hi,ai,XW];have:(!H5 l[i])=(decide (l[i].from_<0) || (decide (l[i].from_>l[i].to) || decide (l[i].to>1073741824))):=by simp[H5]
  rw[this,aL (by omega)];cases decide (l[i].from_<0) || (decide (l[i].from_>l[i].to) || decide (l[i].to>1073741824))<;>rfl
 ·simp[qK]
structure DLk(hol:List Int)(st:List dK)(day k:Int)(r:Int×Int):Prop where
 code:r.2=0\/r.2=1\/r.2=20
 ok:r.2=0->xl hol=true/\sg st=true/\gj day=true/\gj k=true/\day<=r.1/\r.1<=1073741824
 z:r.2=0->k=0->r.1=day
 up:r.2=0->k≠0->day<r.1/\z7 hol (pb st) day r.1>=k/\(day+1<r.1->z7 hol (pb st) day (r.1 -1)<k)
theorem YF{hol:List Int}{st:List dK}{day k:Int}(hs:st.length<=stM)(hn:3000<=n):∃r,gm n hol st day k=some r/\DLk hol st day k r:=by
 unfold gm;rw[aj3 hs (by omega),agh (by omega),YE,YE];have bad:∀e:Int,e=1\/e=20->DLk hol st day k (0,e):=λe he=>⟨.inr he,λh=>absurd h (by simp only;omega),λh=>absurd h (by simp only;omega),λh=>absurd h (by simp only;omega)⟩;cases h1:sg st with
 |false=>exact⟨(0,1),rfl,bad 1 (.inl rfl)⟩
 |true=>
  simp only[aj,ai,dO,aH,Bool.not_true,au];cases h2:xl hol with
  |false=>exact⟨(0,1),rfl,bad 1 (.inl rfl)⟩
  |true=>
   cases h3:gj day with
   |false=>exact⟨(0,1),rfl,bad 1 (.inl rfl)⟩
   |true=>
    cases h4:gj k with
    |false=>exact⟨(0,1),rfl,bad 1 (.inl rfl)⟩
    |true=>
     simp only[Bool.not_true,au,ai];have d3:0<=day/\day<=1073741824:=(by simpa[gj]using h3);by_cases hk:k=0
     ·subst hk;exact⟨(day,0),rfl,.inl rfl,λ_=>⟨h2,h1,h3,h4,Int.le_refl _,d3.2⟩,λ_ _=>rfl,λ_ h=>absurd rfl h⟩
     ·have e0:(k==0)=false:=(by simpa using hk);have hl:hol.length<=1000:=(by simp[xl]at h2;exact h2.1);have hc:(pb st).length<=1000:=(by have:=L6 (jq xf st) [];have:=(ab4 (n:=n) hs (by omega)).2;have:st.length<=100:=Nat.le_trans hs (by decide);unfold pb;simp only[length_nil]at*;omega);have w1:i64.wrap (1073741824 -day)=(((1073741824 -day).toNat:Nat):Int):=(by rw[dw (by omega) (by omega)];omega);obtain⟨m,a1,a2,a3,a4⟩:=alq (n:=n) (N:=(1073741824 -day).toNat) (φ:=λy1=>jd n y1.1 hol (pb st) day k) (λ x=>decide (z7 hol (pb st) day (i64.wrap (i64.wrap (day+1)+x))>=k)) (λ x=>by show jd n x hol (pb st) day k=_;unfold jd;rw[count_eq hl hc (by omega)];rfl) (by omega) (by omega);rw[e0,au,w1,a1];simp only[ai];by_cases hm:m=(1073741824 -day).toNat
      ·subst hm;rw[beq_self_eq_true,aj];exact⟨(0,20),rfl,bad 20 (.inr rfl)⟩
      ·have e1:((m:Int)==(((1073741824 -day).toNat:Nat):Int))=false:=(by simp;omega);have wr:∀x:Int,0<=x->x<=1073741824->i64.wrap (i64.wrap (day+1)+x)=day+1+x:=λx h1 h2=>(by rw[dw (show -9223372036854775808<=day+1 by omega) (by omega),dw (by omega) (by omega)]);rw[e1,au,wr _ (by omega) (by omega)];refine⟨_,rfl,.inl rfl,λ_=>⟨h2,h1,h3,h4,by simp only;omega,by simp only;omega⟩,λ_ h=>absurd h hk,λ_ _=>⟨by simp only;omega,?_,λhlt=>?_⟩⟩
       ·have:=a3 (by omega);rw[wr _ (by omega) (by omega)]at this;simpa using this
       ·simp only at hlt ⊢;have:=a4 (by omega);rw[wr _ (by omega) (by omega)]at this;rw[show day+1+(m:Int) -1=day+1+((m:Int) -1)by omega];simpa using this
noncomputable section
def dt(h:aG):eH:=eH.mk h.cj h.aw h.bp h.aE h.bk h.br h.cx h.bu h.c8 h.cL h.cR h.cT h.ec
def d6(h:aG):aO:=aO.mk h.co h.b8
def HD(h:aG):fE×Bool:=dn h.c8 h.co
structure JE(n:Nat)(h:aG):Prop where
 fuel:GF n
 town:HF (dt h)
 draw:M3 (d6 h)
 near:Yh (dt h)
 dok:Yf (d6 h)
 stays:h.stays.length<=12
 cases:h.cases.length<=1000
section
variable {n:Nat} {h:aG}
def rL(n:Nat)(h:aG):Int×Int:=(fu n h).getD (0,1)
def Of(h:aG):Int:=max 0 (HU h.aw ⟨#[100,97,121,115]⟩)
theorem xM(o:JE n h):fu n h=some (rL n h)/\gm n h.eL h.stays h.eC (Of h)=some (rL n h)/\DLk h.eL h.stays h.eC (Of h) (rL n h):=by
 have hn:=o.fuel.1;obtain⟨r,h1,h2⟩:=YF (n:=n) (hol:=h.eL) (st:=h.stays) (day:=h.eC) (k:=Of h) (Nat.le_trans o.stays (by decide)) (by omega);have h3:fu n h=some r:=by have hd:OA n (bO.mk h.cj h.aw h.bp h.aE h.bk h.br h.cx h.bu)=some (Of h):=aif (p:=anu (dt h)) o.near.2.2 (by omega);unfold fu;rw[hd,ai,h1];rfl
 have e:rL n h=r:=by unfold rL;rw[h3];rfl
 rw[e];exact⟨h3,h1,h2⟩
def GA(n:Nat)(h:aG)(day:Int):Bool:=((rL n h).2==0)&&(decide (h.eC<=day)&&decide (day<=(rL n h).1))
theorem ab6(o:JE n h)(day:Int):qj n h day=some (GA n h day):=by unfold qj GA;rw[(xM o).1,ai];simp only[zH]
def MQ(h:aG)(p:Int):Bool:=(p==h.el) || HT (dt h) (d6 h) p
theorem aj4(o:JE n h)(p:Int):Mx n (dt h) (d6 h) p=some (HT (dt h) (d6 h) p):=ak5 o.near o.dok (by have:=o.fuel.1;omega)
theorem agj(o:JE n h)(p:Int):rM n h p=some (MQ h p):=by have:=aj4 o p;unfold dt d6 at this;unfold rM MQ;rw[this];exact XW _ _
theorem YG{l:List Int}{N:Int}(hl:l.length<=1000)(hn:2000<=n):fM n l N=some (tQ N (-1) l):=by
 unfold fM;have:=abF (l:=l) (step:=oh l N) (λ i (s:Int)=>(s,(i:Int))) (λ x s=>bif decide (x<=s) || decide (x>=N)then .inr (.inr false)else .inl x) (λ _=> .inl ()) (λ i hi s=>?_) (λ s=>by simp[oh]) n (by omega) (-1)
 ·rw[fL]at this;rw[this,Rn];cases tQ N (-1) l<;>rfl
 ·have hi':decide ((i:Int)<(l.length:Int))=true:=by simpa using hi
  simp only[oh,hi',aj,aQ hi,ai,XW];cases decide (l[i]<=s) || decide (l[i]>=N)with
  |true=>rfl
  |false=>simp only[au];rw[aL (by omega)]
def tf:List ByteArray:=[⟨#[97,114,101,97]⟩,⟨#[99,111,118,101,114]⟩,⟨#[102,108,111,111,114]⟩,⟨#[102,108,111,111,114,115]⟩,⟨#[104,101,105,103,104,116]⟩,⟨#[104,111,109,101,115]⟩,⟨#[114,117,110,111,102,102]⟩,⟨#[115,101,116,98,97,99,107]⟩,⟨#[116,114,97,102,102,105,99]⟩]
def YH:ByteArray:=⟨#[103,114,97,110,116,101,100]⟩
def KH:ByteArray:=⟨#[114,101,102,117,115,101,100]⟩
def YI(h:aG)(c:aJ):Bool:=bif c.ee==0 then true else bif c.ee==1 then tf.any (fi c.name)else bif c.ee==2 then h.aE.any (λ r=>fi r.name c.name)else(c.ee==3)&&(fi c.name YH || fi c.name KH)
theorem ab7(o:JE n h){c:aJ}(hl:c.attacks.length<=1000):kI n h c=some (YI h c&&tQ (h.claims.length:Int) (-1) c.attacks):=by
 have hn:=o.fuel.1;have ha:=YG (n:=n) (N:=(h.claims.length:Int)) hl (by omega);have h2:lZ n c=some (tf.any (fi c.name)):=by have hm:oZ=some tf:=rfl;unfold lZ;rw[hm,ai];simp only[dO,aH,aj];rw[kY (by simp[tf]) (by simp[tf];omega)];rfl
 have h4:l5 n c h=some (h.aE.any λr=>fi r.name c.name):=by have hr:=o.town.rules;have hr:h.aE.length<=100:=hr;unfold l5 qo;have:uI n h.aE (λ y1=>jw y1.1 c)=some (yu (λ r=>fi r.name c.name) h.aE):=fK (n:=n) (l:=h.aE) (φ:=λy1=>jw y1.1 c) (λ r=>fi r.name c.name) (λ _ _=>rfl) (by omega) (by omega);rw[this,ai,ai,rY]
 have h6:l6 c=some (fi c.name YH || fi c.name KH):=by unfold l6;rw[XW];rfl
 unfold kI YI;rw[ha,h2,h4,h6];cases c.ee==0<;>cases c.ee==1<;>cases c.ee==2<;>cases c.ee==3<;>cases tQ (h.claims.length:Int) (-1) c.attacks<;>simp<;>rfl
def YJ(n:Nat)(h:aG):List bg:=S7 n h.aw (q9 (HD h).1) (gu (d6 h))
theorem anQ(o:JE n h):qN n h.c8 h.co=some (HD h):=by have:=o.town.land;have hn:=o.fuel.1;have hl:h.c8.length<=1000:=this;exact abY o.town.lots (by omega) (by omega)
theorem anR(o:JE n h):kM n (bO.mk h.cj h.aw h.bp h.aE h.bk h.br h.cx h.bu) (HD h).1 (aO.mk h.co h.b8)=some (YJ n h):=by have hn:=o.fuel.1;have ht:=o.town.plan.tabs;have hw:=Rk o.town.lots h.co;exact apH (p:=m7 (dt h)) (d:=d6 h) ⟨by have:=ht.1;omega,by have:=ht.1;omega,λx hx=>by have:=ht.2 x hx;omega⟩ hw.1 o.draw.1 (by omega) _ _ _ _ _ _ _
def anS(h:aG)(c:aJ):Bool:=match h.cases.find? λx=>x.id==c.n with
 |some x=>(fi c.name YH&&x.grant) || (fi c.name KH&&!x.grant)
 |none=>false
def TD(n:Nat)(h:aG)(c:aJ):Bool:=bif c.ee==0 then true else bif c.ee==1 then(HD h).2&&(YJ n h).any (λ x=>fi c.name x.name&&(c.n==x.n))else bif c.ee==2 then(KQ n (dt h) (d6 h)==0)&&(FP n (dt h) (d6 h) h.rule).any (fi c.name)else(c.ee==3)&&anS h c
theorem agk(o:JE n h):(FP n (dt h) (d6 h) h.rule).length<=200:=by
 unfold FP;cases KQ n (dt h) (d6 h)==0 with
 |false=>simp
 |true=>
  have h1:=Yy (FO n (dt h) (rF (dt h) (d6 h)) (d6 h) (applied (dt h) (rF (dt h) (d6 h)) h.rule)) ab1 (S4 (dt h) (d6 h));have h2:=BZ (GE n (dt h) (rF (dt h) (d6 h)) (d6 h)) (applied (dt h) (rF (dt h) (d6 h)) h.rule) [];have h3:(applied (dt h) (rF (dt h) (d6 h)) h.rule).length<=(dt h).aq.length:=length_filter_le _ _;have h4:=o.town.rules;unfold FO at h1;simp only[aj,length_nil]at*;unfold FO;omega
theorem aj5(o:JE n h)(c:aJ):iB n h c=some (TD n h c):=by
 have hn:=o.fuel.1;have h3:l7 n c h=some ((HD h).2&&(YJ n h).any λx=>fi c.name x.name&&(c.n==x.n)):=by
  unfold l7;rw[anQ o,ai];cases (HD h).2 with
  |false=>rfl
  |true=>
   rw[anR o];have e:zB n (YJ n h) (bg.mk c.name c.n)=some (yu (λ x=>fi c.name x.name&&((c.n==x.n)&&true)) (YJ n h)):=IW (by simp[YJ,S7]) (by simp[YJ,S7];omega);simp only[aj,ai,dO,aH,uJ,e,rY,Bool.and_true,Bool.true_and]
 have h5:mI n c h=some ((KQ n (dt h) (d6 h)==0)&&(FP n (dt h) (d6 h) h.rule).any (fi c.name)):=by have hb:=aln h.rule o.town o.draw o.fuel;have hl:=agk o;have hs:=kY (n:=n) (l:=FP n (dt h) (d6 h) h.rule) (a:=c.name) (by omega) (by omega);unfold dt d6 at hb hs ⊢;unfold mI;rw[hb];simp only[ai,dO,aH,aj,hs];exact zH _ _
 have h7:mJ n c h=some (anS h c):=by
  have hc:=o.cases;unfold mJ anS;have:uS n h.cases (λ y1=>jD y1.1 c)=some (yu (λ x=>x.id==c.n) h.cases):=fK (n:=n) (l:=h.cases) (φ:=λy1=>jD y1.1 c) (λ x=>x.id==c.n) (λ _ _=>rfl) (by omega) (by omega);rw[this,ai,rY];cases ha:h.cases.any λx=>x.id==c.n with
  |false=>
   have:h.cases.find? (λ x=>x.id==c.n)=none:=(by rw[List.find?_eq_none];rw[any_eq_false]at ha;exact ha);rw[this];rfl
  |true=>
   have⟨i,hi,e1,e2⟩:=afc ha;rw[e1,e2,aQ hi];simp only[aj,ai]
   change (bif fi c.name YH then _ else bif fi c.name KH then _ else _)=_
   cases fi c.name YH<;>cases hr:fi c.name KH<;>cases h.cases[i].grant<;>first |rfl |(unfold fi KH at hr;rw[hr];rfl)
 unfold iB TD;rw[h3,h5,h7];cases c.ee==0<;>cases c.ee==1<;>cases c.ee==2<;>cases c.ee==3<;>rfl
def dM:aJ:=aJ.mk 0 0 ([]) 0 (⟨#[]⟩) 0
def ownB(n:Nat)(h:aG)(c:aJ):Bool:=GA n h c.day&&(MQ h c.eh&&(YI h c&&TD n h c))
def DU(N:Nat)(c:aJ):Bool:=tQ (N:Int) (-1) c.attacks
def du(n:Nat)(h:aG)(i:Nat):Bool:=decide (i=0) || (ownB n h (h.claims.getD i dM)&&DU h.claims.length (h.claims.getD i dM))
def wD(n:Nat)(h:aG):List Bool:=(List.range h.claims.length).map (du n h)
def N6(h:aG):Prop:=1<=h.claims.length/\h.claims.length<=300/\∀c∈h.claims,c.attacks.length<=1000
theorem Ro(o:JE n h)(hc:N6 h):qw n h=some (wD n h):=by
 obtain⟨c1,c2,c3⟩:=hc;have hn:=o.fuel.1;have hmx:maxLen=9223372036854775807:=rfl;have hj:jf h=some true:=by unfold jf;rw[show decide (1<=(h.claims.length:Int))=true by simp;omega,show decide ((h.claims.length:Int)<=300)=true by simp;omega];rfl
 have mk:(decide ((h.claims.length:Int)<=(h.claims.length:Int))&&(decide (0<=(h.claims.length:Int))&&qH (h.claims.length:Int) 1))=true:=by simp[qH];omega
 have key:=iJ (step:=p9 n h) (λ i=>((i:Int),(List.range h.claims.length).map λk=>decide (k<i)&&du n h k)) h.claims.length (wD n h) (λ i hi=>?_) ?_ n (by omega)
 ·have e:((List.range h.claims.length).map λk=>decide (k<0)&&du n h k)=List.replicate h.claims.length false:=List.ext_getElem (by simp) λm h1 h2=>by simp
  rw[e,fL]at key;unfold qw;simp only[hj,ai,Bool.not_true,au,mk,aj,Int.toNat_natCast,key];have e2:sub (wD n h) 0 h.claims.length=wD n h:=by have:=dO (wD n h);unfold wD at this ⊢;simpa using this
  rw[e2,show(wD n h).length=h.claims.length by simp[wD],aH];simp only[aj]
 ·have hi':decide ((i:Int)<(h.claims.length:Int))=true:=by simpa using hi
  have hg:bj ((List.range h.claims.length).map λk=>decide (k<i)&&du n h k) (i:Int)=some (((List.range h.claims.length).map λk=>decide (k<i)&&du n h k)[i]'(by simpa using hi)):=aQ (by simpa using hi);have e4:∀b,b=du n h i->((List.range h.claims.length).map λk=>decide (k<i)&&du n h k).set i b=(List.range h.claims.length).map λk=>decide (k<i+1)&&du n h k:=λb hb=>by
   refine List.ext_getElem (by simp) λm h1 h2=>?_;rw[List.getElem_set];by_cases e:i=m
   ·subst e;simp[hb]
   ·rw[aP e];simp only[List.getElem_map,List.getElem_range];rw[show decide (m<i)=decide (m<i+1)by rw[decide_eq_decide];omega]
  have hgc:h.claims.getD i dM=h.claims[i]:=by simp[hi]
  have ha:=c3 _ (getElem_mem hi);simp only[p9,hi',aj,aQ hi,ai,Int.toNat_natCast,aZ hi,fL,Int.zero_add,hg,ab6 o,agj o,ab7 o ha,aj5 o];rw[aL (by omega)];by_cases h0:i=0
  ·subst h0;rw[show (((0:Nat):Int)==0)=true from rfl,aj,ai,e4 true (by simp[du])]
  ·rw[show ((i:Int)==0)=false by simp;omega,au];have hcb:du n h i=(GA n h h.claims[i].day&&(MQ h h.claims[i].eh&&(YI h h.claims[i]&&TD n h h.claims[i]))&&tQ (h.claims.length:Int) (-1) h.claims[i].attacks):=(by unfold du ownB DU;rw[hgc,show decide (i=0)=false by simpa using h0,Bool.false_or]);cases hA:GA n h h.claims[i].day<;>cases hB:MQ h h.claims[i].eh<;>cases hC:YI h h.claims[i]<;>cases hD:tQ (h.claims.length:Int) (-1) h.claims[i].attacks<;>(simp only[aj,au,Bool.and_true,Bool.and_false,ai];rw[e4 _ (by rw[hcb,hA,hB,hC,hD];simp)])
 ·rw[show ((List.range h.claims.length).map λk=>decide (k<h.claims.length)&&du n h k)=wD n h from map_congr_left λm hm=>by simp[List.mem_range.1 hm]];simp[p9]
def lw(n:Nat)(h:aG)(j m:Nat):Prop:=j<h.claims.length/\m<h.claims.length/\du n h j=true/\DU h.claims.length (h.claims.getD j dM)=true/\(m:Int)∈(h.claims.getD j dM).attacks
structure AH(n:Nat)(h:aG)(L:List Int):Prop where
 len:L.length=h.claims.length
 inn:∀i,i<h.claims.length->du n h i=true->(L.getD i 0=1↔tM (lw n h) i)/\(L.getD i 0=2↔∃k,tM (lw n h) k/\lw n h k i)/\(L.getD i 0=0\/L.getD i 0=1\/L.getD i 0=2)
 out:∀i,i<h.claims.length->du n h i=false->L.getD i 0=2
def da(n:Nat)(h:aG)(i:Nat):aJ:=bif du n h i&&DU h.claims.length (h.claims.getD i dM)then aJ.mk 0 0 (h.claims.getD i dM).attacks 0 (⟨#[]⟩) 0 else dM
theorem aqy{α:Type}{p q:Prop}[Decidable p][Decidable q](h:p↔q)(a b:α):(if p then a else b)=if q then a else b:=by
 by_cases hp:p
 ·rw[aU hp,aU (h.1 hp)]
 ·rw[aP hp,aP λx=>hp (h.2 x)]
theorem YK(o:JE n h)(hc:N6 h):∃L,iG n h=some (L,L.getD 0 0==1)/\AH n h L:=by
 have hcnt:=Ro o hc;obtain⟨c1,c2,c3⟩:=hc;have hn:=o.fuel.1;have hmx:maxLen=9223372036854775807:=rfl;have hj:jf h=some true:=by unfold jf;rw[show decide (1<=(h.claims.length:Int))=true by simp;omega,show decide ((h.claims.length:Int)<=300)=true by simp;omega];rfl
 have cl:(wD n h).length=h.claims.length:=by simp[wD]
 have cg:∀i,i<h.claims.length->bj (wD n h) (i:Int)=some (du n h i):=λi hi=>by rw[aQ (by omega)];simp[wD]
 have mk:(decide ((h.claims.length:Int)<=(h.claims.length:Int))&&(decide (0<=(h.claims.length:Int))&&qH (h.claims.length:Int) 72))=true:=by simp[qH];omega
 have k1:=iJ (step:=kN n h (wD n h)) (λ i=>((i:Int),(List.range h.claims.length).map λk=>if k<i then da n h k else dM)) h.claims.length ((List.range h.claims.length).map (da n h)) (λ i hi=>?_) ?_ n (by omega)
 ·have e:((List.range h.claims.length).map λk=>if k<0 then da n h k else dM)=List.replicate h.claims.length (aJ.mk 0 0 ([]) 0 (⟨#[]⟩) 0):=List.ext_getElem (by simp) λm h1 h2=>by simp[dM]
  rw[e,fL]at k1;have hlen:((List.range h.claims.length).map (da n h)).length=h.claims.length:=by simp
  have hget:∀i (hi:i<((List.range h.claims.length).map (da n h)).length),((List.range h.claims.length).map (da n h))[i]=da n h i:=λi hi=>by simp
  have hok:HE ((List.range h.claims.length).map (da n h)):=λc hm=>by
   rw[hlen];obtain⟨i,_,rfl⟩:=mem_map.1 hm;unfold da;cases hb:du n h i&&DU h.claims.length (h.claims.getD i dM)with
   |true=>simp only[aY]at hb;exact hb.2
   |false=>rfl
  have hat:∀c∈(List.range h.claims.length).map (da n h),c.attacks.length<=1000:=λc hm=>by
   obtain⟨i,hi,rfl⟩:=mem_map.1 hm;unfold da;cases hb:du n h i&&DU h.claims.length (h.claims.getD i dM)with
   |true=>rw[List.mem_range]at hi;simp only[aj];rw[show h.claims.getD i dM=h.claims[i]by simp[hi]];exact c3 _ (getElem_mem hi)
   |false=>simp[dM]
  obtain⟨L,R,g1,g2,g3,g4⟩:=agf (n:=n) hok (by omega) hat (by omega) (by omega);rw[hlen]at g2;have k2:=iJ (step:=kP (wD n h) (L,R,0)) (λ i=>((i:Int),(List.range h.claims.length).map λk=>if k<i/\du n h k=false then 2 else L.getD k 0)) h.claims.length ((List.range h.claims.length).map λk=>if du n h k=false then 2 else L.getD k 0) (λ i hi=>?_) ?_ n (by omega)
  ·have e2:((List.range h.claims.length).map λk=>if k<0/\du n h k=false then 2 else L.getD k 0)=L:=List.ext_getElem (by simp[g2]) λm h1 h2=>(by simp[h2]);rw[e2,fL]at k2;have hl2:((List.range h.claims.length).map λk=>if du n h k=false then(2:Int)else L.getD k 0).length=h.claims.length:=(by simp);have hgd:∀i,i<h.claims.length->((List.range h.claims.length).map λk=>if du n h k=false then(2:Int)else L.getD k 0).getD i 0=if du n h i=false then 2 else L.getD i 0:=λi hi=>by simp[hi]
   have natE:fC ((List.range h.claims.length).map (da n h))=(List.range h.claims.length).map λi=>(da n h i).attacks.map Int.toNat:=(by simp[fC]);have ha:∀j m,atk (fC ((List.range h.claims.length).map (da n h))) j m↔lw n h j m:=λj m=>by
    unfold atk lw;rw[u6,hlen];by_cases hj:j<h.claims.length
    ·have e3:=S3 hok (i:=j) (by rw[hlen];exact hj);have e4:=Pm hok j;rw[u6,hlen]at e4;rw[hget j (by rw[hlen];exact hj)]at e3;have e5:m∈(fC ((List.range h.claims.length).map (da n h))).getD j []↔(m:Int)∈(da n h j).attacks:=(by rw[e3];unfold cI;rw[mem_map];exact⟨λ hm=>⟨m,hm,rfl⟩,λ⟨a,ha,he⟩=>by rwa [show a=m by omega]at ha⟩);constructor
     ·rintro⟨_,hm⟩;have hmb:=e4.2 m hm;rw[e5]at hm;unfold da at hm;cases hb:du n h j&&DU h.claims.length (h.claims.getD j dM)with
      |true=>rw[hb]at hm;simp only[aY]at hb;exact⟨hj,hmb,hb.1,hb.2,hm⟩
      |false=>rw[hb]at hm;cases hm
     ·rintro⟨_,_,h3,h4,h5⟩;refine⟨hj,e5.2 ?_⟩;unfold da;rw[h3,h4];exact h5
    ·exact⟨λ h=>absurd h.1 hj,λh=>absurd h.1 hj⟩
   have hR:atk (fC ((List.range h.claims.length).map (da n h)))=lw n h:=(by funext j m;exact propext (ha j m));rw[hR,u6,hlen]at g4;refine⟨(List.range h.claims.length).map λk=>if du n h k=false then 2 else L.getD k 0,?_,hl2,λi hi hb=>?_,λi hi hb=>?_⟩
   ·have e6:sub ((List.range h.claims.length).map (da n h)) 0 h.claims.length=(List.range h.claims.length).map (da n h):=(by have:=dO ((List.range h.claims.length).map (da n h));rwa [hlen]at this);have e7:sub ((List.range h.claims.length).map λk=>if du n h k=false then(2:Int)else L.getD k 0) 0 h.claims.length=(List.range h.claims.length).map λk=>if du n h k=false then(2:Int)else L.getD k 0:=by have:=dO ((List.range h.claims.length).map λk=>if du n h k=false then(2:Int)else L.getD k 0);rwa [hl2]at this
    have e8:bj ((List.range h.claims.length).map λk=>if du n h k=false then(2:Int)else L.getD k 0) 0=some (((List.range h.claims.length).map λk=>if du n h k=false then(2:Int)else L.getD k 0).getD 0 0):=(by rw[aju (by omega)];simp[show 0<h.claims.length by omega]);have e9:cP 0 h.claims.length=true:=aZ (i:=0) (by omega);unfold iG;simp only[hj,ai,Bool.not_true,au,hcnt,cl,mk,aj,Int.toNat_natCast,k1,e6,hlen,aH,g1,k2,g2,e9,fL,Int.add_zero,e8,e7,hl2]
   ·rw[hgd i hi,aP (by rw[hb];decide)];exact g4 i hi
   ·rw[hgd i hi,aU hb]
  ·have hi':decide ((i:Int)<(((wD n h).length:Nat):Int))=true:=(by rw[cl];simpa using hi);have hgl:bj ((List.range h.claims.length).map λk=>if k<i/\du n h k=false then(2:Int)else L.getD k 0) (i:Int)=some (L.getD i 0):=(by rw[aQ (by simpa using hi)];simp);have st:∀b,du n h i=b->(bif !b then((List.range h.claims.length).map λk=>if k<i/\du n h k=false then(2:Int)else L.getD k 0).set i 2 else(List.range h.claims.length).map λk=>if k<i/\du n h k=false then(2:Int)else L.getD k 0)=(List.range h.claims.length).map λk=>if k<i+1/\du n h k=false then(2:Int)else L.getD k 0:=λb hb=>by
    cases b with
    |true=>
     refine map_congr_left λm _=>?_;by_cases e:m=i
     ·subst e;rw[aP (λ h=>by rw[hb]at h;cases h.2),aP (λ h=>by rw[hb]at h;cases h.2)]
     ·exact aqy (and_congr_left λ_=>by omega) _ _
    |false=>
     refine List.ext_getElem (by simp) λm h1 h2=>?_;simp only[Bool.not_false,aj];rw[List.getElem_set];by_cases e:i=m
     ·subst e;simp[hb]
     ·rw[aP e];simp only[List.getElem_map,List.getElem_range];exact aqy (and_congr_left λ_=>by omega) _ _
   simp only[kP,hi',aj,aZ (show i<(wD n h).length by omega),fL,Int.zero_add,cg i hi,ai,g2,aZ hi,hgl,Int.toNat_natCast];rw[aL (by omega),<- st _ rfl];cases du n h i<;>rfl
  ·rw[show ((List.range h.claims.length).map λk=>if k<h.claims.length/\du n h k=false then(2:Int)else L.getD k 0)=(List.range h.claims.length).map λk=>if du n h k=false then 2 else L.getD k 0 from map_congr_left λm hm=>by simp[List.mem_range.1 hm]];simp[kP,cl]
 ·have hi':decide ((i:Int)<(h.claims.length:Int))=true:=by simpa using hi
  have hgc:h.claims.getD i dM=h.claims[i]:=by simp[hi]
  have hgl:bj ((List.range h.claims.length).map λk=>if k<i then da n h k else dM) (i:Int)=some dM:=by rw[aQ (by simpa using hi)];simp
  have st:∀v,da n h i=v->((List.range h.claims.length).map λk=>if k<i then da n h k else dM).set i v=(List.range h.claims.length).map λk=>if k<i+1 then da n h k else dM:=λv hb=>by
   refine List.ext_getElem (by simp) λm h1 h2=>?_;rw[List.getElem_set];by_cases e:i=m
   ·subst e;simp[hb]
   ·rw[aP e];simp only[List.getElem_map,List.getElem_range];exact aqy (by omega) _ _
  have st0:da n h i=dM->((List.range h.claims.length).map λk=>if k<i then da n h k else dM)=(List.range h.claims.length).map λk=>if k<i+1 then da n h k else dM:=λhb=>by
   rw[<- st _ hb];refine(List.ext_getElem (by simp) λm h1 h2=>?_).symm;rw[List.getElem_set];by_cases e:i=m
   ·subst e;simp
   ·rw[aP e]
  have ha:=YG (n:=n) (N:=(h.claims.length:Int)) (c3 _ (getElem_mem hi)) (by omega);simp only[kN,hi',aj,aQ hi,ai,aZ (show i<(wD n h).length by omega),fL,Int.zero_add,cg i hi,cl,Int.toNat_natCast,ha,aZ hi,hgl];rw[aL (by omega)];have hoc:da n h i=bif du n h i&&tQ (h.claims.length:Int) (-1) h.claims[i].attacks then aJ.mk 0 0 h.claims[i].attacks 0 (⟨#[]⟩) 0 else dM:=by unfold da DU;rw[hgc]
  cases hA:du n h i<;>cases hB:tQ (h.claims.length:Int) (-1) h.claims[i].attacks<;>rw[hA,hB]at hoc<;>simp only[aj,au,ai]
  ·rw[st0 hoc]
  ·rw[st0 hoc]
  ·rw[st0 hoc]
  ·rw[<- st _ hoc];rfl
 ·rw[show ((List.range h.claims.length).map λk=>if k<h.claims.length then da n h k else dM)=(List.range h.claims.length).map (da n h)from map_congr_left λm hm=>by simp[List.mem_range.1 hm]];simp[kN]
end
end
noncomputable section
structure To(h:aG):Prop where
 town:apJ (dt h)
 caps:h.bk.length<=1048576
 phases:h.b8.length<=1048576
theorem YL(hn:5000003<=n):∀(m:Nat)(e:dh),(toE e).wt<=m->(toE e).wt<=4000000->∃v,wz n m e=some v
 | 0,e,h,_=>absurd (VE e) (by omega)
 |m+1,e,h,hw=>by
  have hla:=VE e;obtain⟨o,h1,_⟩:=fq (step:=Bf (wz n m) e) (λ i (v:Int×Int)=>v.2=(i:Int)/\i<=e.args.length) (λ _=>True) e.args.length (λ k v h=>h.2) (λ i v hv=>by
   obtain⟨v1,v2⟩:=v;obtain⟨rfl,hi⟩:=hv;by_cases hlt:i<e.args.length
   ·have hwx:=ait (getElem_mem hlt);obtain⟨x,hx⟩:=YL hn m e.args[i] (by omega) (by omega);refine .inl ⟨(i64.wrap (v1+x),((i+1:Nat):Int)),?_,rfl,hlt⟩;simp only[Bf,cu hlt,aj,aQ hlt,ai,hx];rw[aL (by omega)]
   ·have:i=e.args.length:=(by omega);subst this;exact .inr ⟨v1,by simp[Bf],trivial⟩) n 0 (1,0) ⟨rfl,Nat.zero_le _⟩ (by omega)
  exact⟨o,by simp only[wz,MF,h1,ai]⟩
theorem anT{p:bO}(hn:GF n)(hd:iz p.defs)(hr:WtR p.rules):∃b,Vw n p=some b:=by
 have hn1:=hn.1;unfold Vw;simp only[FC,ai];cases hc:(bif decide ((p.defs.length:Int)>20)then true else decide ((p.rules.length:Int)>20))with
 |true=>exact⟨_,rfl⟩
 |false=>
  have hl:p.defs.length<=20/\p.rules.length<=20:=by
   cases h1:decide ((p.defs.length:Int)>20)with
   |true=>rw[h1]at hc;cases hc
   |false=>rw[h1]at hc;simp at h1 hc;omega
  have s1:=VG (l:=p.defs) (K:=20) (n:=n) (step:=Fu n p) (good:=λ_=>True) (λ i hi hK=>by
   have hw:=hd.body (getElem_mem hi);obtain⟨v,hv⟩:=YL hn1 n _ (by omega) hw;have hv':Jk n (dh.mk p.defs[i].j7 p.defs[i].mC p.defs[i].lz p.defs[i].ju p.defs[i].fj)=some v:=hv;simp only[Fu,cu hi,aj,aQ hi,ai,hv',FC,bf i];cases (bif decide (v>60)then true else decide ((p.defs[i].name.size:Int)>100))
   ·exact .inr ⟨rfl,trivial⟩
   ·exact .inl rfl) (λ i h=>by have:¬i<p.defs.length:=(by omega);simp only[Fu,show decide ((i:Int)<(p.defs.length:Int))=false by simp;omega,au]) (by omega)
  have s2:=VG (l:=p.rules) (K:=20) (n:=n) (step:=Fv n p) (good:=λ_=>True) (λ i hi hK=>by
   have hw:=hr _ (getElem_mem hi);obtain⟨v,hv⟩:=YL hn1 n _ (by omega) hw;have hv':Jk n (dh.mk p.rules[i].lP p.rules[i].oa p.rules[i].nF p.rules[i].kx p.rules[i].gS)=some v:=hv;simp only[Fv,cu hi,aj,aQ hi,ai,hv',bf i];cases decide (v>60)
   ·exact .inr ⟨rfl,trivial⟩
   ·exact .inl rfl) (λ i h=>by have:¬i<p.rules.length:=(by omega);simp only[Fv,show decide ((i:Int)<(p.rules.length:Int))=false by simp;omega,au]) (by omega)
  simp only[au];rcases s1 with e1 |⟨e1,_⟩
  ·rw[e1];exact⟨_,rfl⟩
  ·rcases s2 with e2 |⟨e2,_⟩
   ·rw[e1,e2];exact⟨_,rfl⟩
   ·rw[e1,e2];exact⟨_,rfl⟩
structure aqz(h:aG):Prop where
 claims:h.claims.length<=14
 MM:∀c∈h.claims,c.attacks.length<=14
 hol:h.eL.length<=20
 stays:h.stays.length<=8
theorem anU{h:aG}(hn:GF n)(hz:To h):∃b,Vx n h=some b/\(b=true->JE n h/\aqz h):=by
 have hn1:=hn.1;have no:∃b,some false=some b/\(b=true->JE n h/\aqz h):=⟨false,rfl,λh=>(by cases h)⟩;have e1:Vv n (bO.mk [] [] [] [] [] [] [] 0) (Ja.mk 0 0 0 0 0 [d6 h] 0 0) []=some (Nm (d6 h)):=by
  have s:iter (XT n []) n 0=some (.inl ()):=by obtain⟨m,rfl⟩:∃m,n=m+1:=⟨n -1,by omega⟩;exact fI rfl
  unfold Vv;rw[s];have hp:(d6 h).phases.length<=1048576:=hz.phases;simp only[iC,Yt (n:=n) (d:=d6 h) (by omega) (by omega) (by omega),ai];rfl
 have e0:=ain (n:=n) (dt h) (by omega);obtain⟨b16,e16⟩:=anT (p:=bO.mk h.cj h.aw h.bp h.aE h.bk h.br h.cx h.bu) hn hz.town.defs hz.town.rules;unfold d6 at e1;unfold dt at e0;unfold Vx;rw[e0];cases h0:Sa (dt h)with
 |false=>unfold dt at h0;rw[h0];exact no
 |true=>
  have h0':=h0;unfold dt at h0;rw[h0];have sb2:sub [aO.mk h.co h.b8] 0 1=[aO.mk h.co h.b8]:=rfl;simp only[ai,Bool.not_true,au,length_singleton,aH,aj,sb2,e1];cases h1:Nm (d6 h)with
  |false=>unfold d6 at h1;rw[h1];exact no
  |true=>
   have h1':=h1;unfold d6 at h1;rw[h1];simp only[Bool.not_true,au];by_cases c1:(h.eL.length:Int)>20
   ·simpa only[c1,decide_true,aj,ai]using no
   by_cases c2:(h.stays.length:Int)>8
   ·simpa only[c1,c2,decide_true,decide_false,aj,au,ai]using no
   by_cases c3:(h.cases.length:Int)>12
   ·simpa only[c1,c2,c3,decide_true,decide_false,aj,au,ai]using no
   by_cases c4:(h.claims.length:Int)>14
   ·simpa only[c1,c2,c3,c4,decide_true,decide_false,aj,au,ai]using no
   simp only[c1,c2,c3,c4,decide_false,au,e16,ai];cases b16 with
   |false=>exact no
   |true=>
    simp only[Bool.not_true,au];have s1:=VG (l:=h.claims) (K:=14) (n:=n) (step:=Fw h) (good:=λc=>c.attacks.length<=14) (λ i hi hK=>by
     simp only[Fw,cu hi,aj,aQ hi,ai,bf i];by_cases c:(h.claims[i].attacks.length:Int)>14
     ·left;simp only[c,decide_true,aj];rfl
     ·right;simp only[c,decide_false,au];exact⟨trivial,by omega⟩) (λ i hh=>by simp only[Fw,show decide ((i:Int)<(h.claims.length:Int))=false by simp;omega,au]) (by omega)
    have h2:=h0';unfold Sa at h2;simp only[aY,bF,Bool.not_eq_true',any_eq_false,Bool.or_eq_true,not_or]at h2;obtain⟨⟨a1,a2,a3,a4,a5,a6,a7⟩,g1,g2,g3⟩:=h2;have a4':h.aw.length<=20:=a4;have s2:=VG (l:=h.aw) (K:=20) (n:=n) (step:=Fx h) (good:=λc=>c.rows.length<=10) (λ i hi hK=>by
     simp only[Fx,cu hi,aj,aQ hi,ai,bf i];by_cases c:(h.aw[i].rows.length:Int)>10
     ·left;simp only[c,decide_true,aj];rfl
     ·right;simp only[c,decide_false,au];exact⟨trivial,by omega⟩) (λ i hh=>by simp only[Fx,show decide ((i:Int)<(h.aw.length:Int))=false by simp;omega,au]) (by omega)
    rcases s1 with f1 |⟨f1,hat⟩
    ·rw[f1];exact no
    rcases s2 with f2 |⟨f2,hrow⟩
    ·rw[f1,f2];exact no
    rw[f1,f2];refine⟨true,rfl,λ_=>?_⟩;have hat:=hat (by omega);have hrow:=hrow a4';have hw:∀l∈(dt h).land,BY l:=λl hl=>⟨by have:=g2 l hl;omega,hz.town.A6 l hl⟩;have h3:=h1';simp only[Nm,aY,Bool.not_eq_true',any_eq_false,bF]at h3;have W4:∀p∈(d6 h).phases,p.bx.length<=12/\p.gives.length<=6:=λp hp=>(by have:=h3.1 p hp;simp only[No,Bool.or_eq_true,bF,not_or]at this;omega)
    exact⟨⟨hn,⟨hw,by omega,⟨by omega,λe he=>by have:=g3 e he;omega⟩,by omega,by omega,by have:(dt h).cQ.length<=1048576:=hz.caps;omega,by omega,λr hr=>⟨by have:=g1 r hr;exact⟨by omega,by omega⟩,hz.town.rules r hr⟩,⟨hz.town.defs,⟨Nat.le_trans a4 (by decide),λx hx=>by have:=hrow x hx;omega⟩⟩⟩,
     ⟨⟨by omega,λp hp=>by have:=W4 p hp;omega⟩,λp hp=>by have:=W4 p hp;omega⟩,⟨by omega,hw,by show h.aw.length<=100;omega,λx hx=>by have:=hrow x hx;omega⟩,⟨by omega,λp hp=>by have:=W4 p hp;omega⟩,by omega,by omega⟩,by omega,hat,by omega,by omega⟩
def gC(N day:Int)(more:List aJ):aG:=aG.mk [] [bQ.mk ⟨#[110,111,116,105,99,101]⟩ [bg.mk ⟨#[100,97,121,115]⟩ 5] 0] [] [] [] [] [] 0 [fE.mk 1 7 [ax.mk 0 0 9 9] [],fE.mk 2 8 [ax.mk 9 0 12 9] []] [] [] [] [] 1 [lu.mk [aF.mk 2 2 4 4 0 9 2 0 false] []] 0 7 10 [] [] [] ([aJ.mk 7 10 [] 0 ⟨#[]⟩ 0,aJ.mk 8 day [0] 1 ⟨#[104,101,105,103,104,116]⟩ N]++more)
theorem anV(N day:Int):tC N day=some (gC N day []):=by kernel_rfl
theorem aqA(N day:Int)(more:List aJ):JE 5000003 (gC N day more) where
 fuel:=ard
 town:=⟨λ l hl=>by have hl:l∈[fE.mk 1 7 [ax.mk 0 0 9 9] [],fE.mk 2 8 [ax.mk 9 0 12 9] []]:=hl;simp only[aI,bB,or_false]at hl;rcases hl with rfl |rfl<;>exact⟨by decide,by decide⟩,by show 2<=1000;decide,⟨Nat.zero_le _,λe he=>(by cases he)⟩,Nat.zero_le _,Nat.zero_le _,Nat.zero_le _,Nat.zero_le _,λr hr=>(by cases hr),⟨Nat.le_of_ble_eq_true (by kernel_rfl),by show 1<=4000000;decide,λx hx=>by have hx:x∈[bQ.mk ⟨#[110,111,116,105,99,101]⟩ [bg.mk ⟨#[100,97,121,115]⟩ 5] 0]:=hx;simp only[aI,bB,or_false]at hx;subst hx;decide⟩⟩
 draw:=⟨⟨by show 1<=1000;decide,λp hp=>by have hp:p∈[lu.mk [aF.mk 2 2 4 4 0 9 2 0 false] []]:=hp;simp only[aI,bB,or_false]at hp;subst hp;decide⟩,λp hp=>by have hp:p∈[lu.mk [aF.mk 2 2 4 4 0 9 2 0 false] []]:=hp;simp only[aI,bB,or_false]at hp;subst hp;decide⟩
 near:=⟨by show 2<=100;decide,λl hl=>by have hl:l∈[fE.mk 1 7 [ax.mk 0 0 9 9] [],fE.mk 2 8 [ax.mk 9 0 12 9] []]:=hl;simp only[aI,bB,or_false]at hl;rcases hl with rfl |rfl<;>exact⟨by decide,by decide⟩,by show 1<=100;decide,λx hx=>by have hx:x∈[bQ.mk ⟨#[110,111,116,105,99,101]⟩ [bg.mk ⟨#[100,97,121,115]⟩ 5] 0]:=hx;simp only[aI,bB,or_false]at hx;subst hx;decide⟩
 dok:=⟨by show 1<=100;decide,λp hp=>by have hp:p∈[lu.mk [aF.mk 2 2 4 4 0 9 2 0 false] []]:=hp;simp only[aI,bB,or_false]at hp;subst hp;decide⟩
 stays:=Nat.zero_le _
 cases:=Nat.zero_le _
theorem TF{a b:List Int}(hl:a.length<=1000)(hn:2000<=n):qW n a b=some (decide (a=b)):=by
 have e:qW n a b=Og n (λ x1 x2:Int=>x1 !=x2) a b:=by kernel_rfl
 rw[e];exact IX (λ x y=>by rw[fB];simp[bne]) (by omega) (by omega)
theorem arf(N day:Int)(more:List aJ):rL 5000003 (gC N day more)=(17,0):=by
 have h:=(xM (aqA N day more)).2.1;have e:gm 5000003 [] [] 10 5=some (17,0):=by
  unfold gm;rw[aj3 (Nat.zero_le _) (by decide)]
  kernel_rfl
 have hd:Of (gC N day more)=5:=by kernel_rfl
 rw[hd]at h;have h':gm 5000003 [] [] 10 5=some (rL 5000003 (gC N day more)):=h;rw[e]at h';injection h' with h';exact h'.symm
theorem Rp(N day:Int)(more:List aJ)(d:Int):GA 5000003 (gC N day more) d=(decide (10<=d)&&decide (d<=17)):=by unfold GA;rw[arf];rfl
theorem aqB(N day:Int)(more:List aJ)(hm:more.length<=100)(ha:∀c∈more,c.attacks.length<=1000):N6 (gC N day more):=by
 refine⟨by simp[gC],by simp[gC];omega,λc hc=>?_⟩;simp only[gC,List.cons_append,fH,aI]at hc;rcases hc with rfl |rfl |hc
 ·exact Nat.zero_le _
 ·show 1<=1000;decide
 ·exact ha c hc
theorem N5{N day:Int}{more:List aJ}{want:List Int}{bs:List Bool}{g:Bool}(hm:more.length<=100)(ha:∀c∈more,c.attacks.length<=1000)(hw:want.length<=100)(h1:wD 5000003 (gC N day more)=bs)
 (h2:(jf (gC N day more)).bind (λ r1=>(bif (!r1)then some (([]:List Int),false)else(some bs).bind λr2=>ck (decide ((r2.length:Int)<=(r2.length:Int))&&(decide (0<=(r2.length:Int))&&qH (r2.length:Int) 72)) ((iter (kN 5000003 (gC N day more) r2) 5000003 ((0:Int),(List.replicate ((r2.length:Int):Int).toNat (aJ.mk 0 0 ([]) 0 (⟨#[]⟩) 0)))).bind λw1=>ck (az (sub w1 0 (((r2.length:Int):Int).toNat)).length (((r2.length:Int):Int).toNat)) ((qy 5000003 (sub w1 0 (((r2.length:Int):Int).toNat))).bind λr4=>(iter (kP r2 r4) 5000003 ((0:Int),r4.1)).bind λw2=>ck (cP 0 r4.1.length) ((bj w2 ((0:Nat)+0:Int)).bind λx6=>ck (az (sub w2 0 r4.1.length).length r4.1.length) (some ((sub w2 0 r4.1.length),(x6==(1:Int)))))))))=some (want,g)):uU 5000003 (gC N day more) want g=some true:=by
 have hc:=Ro (aqA N day more) (aqB N day more hm ha);rw[h1]at hc;have ho:iG 5000003 (gC N day more)=some (want,g):=by unfold iG;rw[hc];exact h2
 unfold uU;rw[ho];simp only[ai,dO,aH,aj,TF (n:=5000003) (a:=want) (b:=want) (by omega) (by decide),decide_true,beq_self_eq_true]
theorem TE(N day:Int)(g:Bool)(h:du 5000003 (gC N day []) 1=g):wD 5000003 (gC N day [])=[true,g]:=by show [du 5000003 (gC N day []) 0,du 5000003 (gC N day []) 1]=_;rw[h];rfl
theorem apg:Kz 5000003=some true:=by
 have a1:uU 5000003 (gC 9 12 []) [2,1] false=some true:=N5 (Nat.zero_le _) (λ _ h=>by cases h) (by decide) (TE 9 12 true (by unfold du ownB;rw[Rp];kernel_rfl)) (by kernel_rfl);have a2:uU 5000003 (gC 8 12 []) [1,2] true=some true:=N5 (Nat.zero_le _) (λ _ h=>by cases h) (by decide) (TE 8 12 false (by unfold du ownB;rw[Rp];kernel_rfl)) (by kernel_rfl);have a3:uU 5000003 (gC 9 18 []) [1,2] true=some true:=N5 (Nat.zero_le _) (λ _ h=>by cases h) (by decide) (TE 9 18 false (by unfold du ownB;rw[Rp];kernel_rfl)) (by kernel_rfl);have a4:uU 5000003 (gC 9 17 []) [2,1] false=some true:=N5 (Nat.zero_le _) (λ _ h=>by cases h) (by decide) (TE 9 17 true (by unfold du ownB;rw[Rp];kernel_rfl)) (by kernel_rfl);have a5:uU 5000003 (gC 9 12 [aJ.mk 7 12 [1] 0 ⟨#[]⟩ 0]) [1,2,1] true=some true:=N5 (bs:=[true,true,true]) (by decide) (λ c h=>by simp at h;subst h;show 1<=1000;decide) (by decide) (by
  show [du 5000003 (gC 9 12 [aJ.mk 7 12 [1] 0 ⟨#[]⟩ 0]) 0,du 5000003 (gC 9 12 [aJ.mk 7 12 [1] 0 ⟨#[]⟩ 0]) 1,du 5000003 (gC 9 12 [aJ.mk 7 12 [1] 0 ⟨#[]⟩ 0]) 2]=_;have c1:du 5000003 (gC 9 12 [aJ.mk 7 12 [1] 0 ⟨#[]⟩ 0]) 1=true:=by unfold du ownB;rw[Rp];kernel_rfl
  have c2:du 5000003 (gC 9 12 [aJ.mk 7 12 [1] 0 ⟨#[]⟩ 0]) 2=true:=by unfold du ownB;rw[Rp];kernel_rfl
  rw[c1,c2];rfl) (by kernel_rfl)
 have d:fu 5000003 (gC 9 12 [])=some (17,0):=by rw[(xM (aqA 9 12 [])).1,arf]
 have k1:(sub ([1]:List Int) 0 1)=[1]:=rfl;have k2:(sub ([2,1]:List Int) 0 2)=[2,1]:=rfl;have k3:(sub ([1,2]:List Int) 0 2)=[1,2]:=rfl;have k4:(sub ([1,2,1]:List Int) 0 3)=[1,2,1]:=rfl;have a5':uU 5000003 (aG.mk (gC 9 12 []).cj (gC 9 12 []).aw (gC 9 12 []).bp (gC 9 12 []).aE (gC 9 12 []).bk (gC 9 12 []).br (gC 9 12 []).cx (gC 9 12 []).bu (gC 9 12 []).c8 (gC 9 12 []).cL (gC 9 12 []).cR (gC 9 12 []).cT (gC 9 12 []).ec (gC 9 12 []).co (gC 9 12 []).b8 (gC 9 12 []).rule (gC 9 12 []).el (gC 9 12 []).eC (gC 9 12 []).eL (gC 9 12 []).stays (gC 9 12 []).cases ((gC 9 12 []).claims++[aJ.mk 7 12 [1] 0 ⟨#[]⟩ 0])) [1,2,1] true=some true:=a5;have ap1:bJ ([]:List aJ).length 0 (gC 9 12 []).claims.length (gC 9 12 []).claims.length 72=true:=by decide
 have ap2:bJ ([]++(gC 9 12 []).claims).length ([]++(gC 9 12 []).claims).length (sub ([aJ.mk 7 12 [1] 0 ⟨#[]⟩ 0]:List aJ) 0 1).length 1 72=true:=by decide
 have k5:sub ([aJ.mk 7 12 [1] 0 ⟨#[]⟩ 0]:List aJ) 0 1=[aJ.mk 7 12 [1] 0 ⟨#[]⟩ 0]:=rfl;unfold Kz;rw[anV];simp only[ai,ap1,aj,eu,k1,k2,k3,k4,length_singleton,aH,ap2,k5,d,a1,anV,a2,a3,fH,dO,a5',a4,beq_self_eq_true];rfl
end
mutual
theorem aph:∀g:dh,(toE g).wt<=ic (sj g)
 |⟨op,n,s,key,args⟩=>by have:=Pn args;simp[toE,ET.wt,sj,ic,nw];omega
theorem Pn:∀l:List dh,ET.ur (Jf l)<=xO (uo l)
 |[]=>by simp[Jf,ET.ur]
 |x::xs=>by have h1:=aph x;have h2:=Pn xs;simp[Jf,ET.ur,uo,xO];omega
end
theorem ab8:∀l:List gK,s9 (l.map toD)<=xO (l.map BL)
 |[]=>by simp[s9]
 |x::xs=>by have h1:=ab8 xs;have h2:=Pn x.fj;simp[s9]at h1;simp[s9,toD,ET.wt,xO,BL,ic,nw,<- uq];omega
theorem als(t:eH):s9 (t.cH.map toD)<=ic (AR t):=by have:=ab8 t.cH;simp[AR,ic,nw];omega
theorem YM{r:List Tree}:∀{l:List (List Tree)},r∈l->ic r<=xO l
 |x::l,h=>by rw[xO];rcases aI.1 h with rfl |h;omega;have:=YM h;omega
theorem alu(r:cK):(toE (m6 r)).wt<=ic (wJ r):=by have h:=Pn r.gS;rw[uq]at h;simp[m6,toE,ET.wt,wJ,ic,nw];omega
theorem ab9:∀l:List Int,l.length<=xO (l.map λy=>[Tree.sc (.int .i64 y)])
 |[]=>by simp
 |x::l=>by have:=ab9 l;simp[xO,ic,nw];omega
theorem aqC{t:eH}(h:ic (AR t)<=2000000):apJ t:=by
 have hd:=Nat.le_trans (als t) h;simp[AR,ic,nw]at h;refine⟨by unfold iz;omega,λr hr=>?_,λl hl=>?_⟩;have h1:=alu r;have h2:=YM (mem_map.2 ⟨r,hr,rfl⟩:wJ r∈t.aq.map wJ);omega;have h1:=ab9 l.from_;have h2:=YM (mem_map.2 ⟨l,hl,rfl⟩:I9 l∈t.land.map I9);have h3:xO (l.from_.map λy=>[Tree.sc (.int .i64 y)])<=ic (I9 l):=by simp[I9,ic,nw];omega
 omega
theorem YN{α:Type}(f:α->List Tree)(hf:∀x,1<=ic (f x)):∀l:List α,l.length<=xO (l.map f)
 |[]=>by simp
 |x::l=>by have h:=YN f hf l;have h1:=hf x;simp[xO];omega
theorem YO:∀a b:List Tree,ic (a++b)=ic a+ic b
 |[],b=>by simp[ic]
 |x::a,b=>by rw[List.cons_append,ic,ic,YO a b];omega
theorem aqD{h:aG}(hb:ic (jF h)<=1048576):To h:=by
 have e:∃r,jF h=AR (dt h)++(vW (d6 h)++r):=⟨_,rfl⟩;obtain⟨r,e⟩:=e;rw[e,YO,YO]at hb;have a2:=YN E8 (λ x=>by simp only[E8,ic,nw];omega) h.bk;have a3:=YN zo (λ x=>by simp only[zo,ic,nw];omega) h.b8;have b2:xO (h.bk.map E8)<=ic (AR (dt h)):=by simp only[AR,dt,ic,nw];omega
 have b3:xO (h.b8.map zo)<=ic (vW (d6 h)):=by simp only[vW,d6,ic,nw];omega
 exact⟨aqC (by omega),by omega,by omega⟩
theorem aqE{cs:List (CT xx.ι)}(q:HL xx.toSE (.st SI.fY::cs))(hb:Wy (HL.oB xx.toSE (.st SI.fY::cs) q)<=1048576):To q.1:=by have h2:ic (jF q.1)+Wy (HL.oB xx.toSE cs q.2)<=1048576:=hb;exact aqD (by omega)
noncomputable section
section
variable {R S:Nat->Nat->Prop}
end
theorem AH.eq{h h':aG}{L L':List Int}(o:AH n h L)(o':AH n h' L'){i i':Nat}(hi:i<h.claims.length)(hi':i'<h'.claims.length)(hc:du n h i=du n h' i')(hg:tM (lw n h) i↔tM (lw n h') i')(ho:(∃ k,tM (lw n h) k/\lw n h k i)↔∃k,tM (lw n h') k/\lw n h' k i'):L.getD i 0=L'.getD i' 0:=by
 cases hb:du n h i with
 |false=>rw[o.out i hi hb,o'.out i' hi' (by rw[<- hc,hb])]
 |true=>
  have⟨a1,a2,a3⟩:=o.inn i hi hb;obtain⟨b1,b2,b3⟩:=o'.inn i' hi' (by rw[<- hc,hb]);rcases a3 with a3 |a3 |a3
  ·rcases b3 with b3 |b3 |b3
   ·rw[a3,b3]
   ·have:=a1.2 (hg.2 (b1.1 b3));omega
   ·have:=a2.2 (ho.2 (b2.1 b3));omega
  ·rw[a3,b1.2 (hg.1 (a1.1 a3))]
  ·rw[a3,b2.2 (ho.1 (a2.1 a3))]
def Bn(h:aG)(l:List aJ):aG:=aG.mk h.cj h.aw h.bp h.aE h.bk h.br h.cx h.bu h.c8 h.cL h.cR h.cT h.ec h.co h.b8 h.rule h.el h.eC h.eL h.stays h.cases l
theorem anW{h:aG}(o:JE n h)(l:List aJ):JE n (Bn h l):=⟨o.fuel,o.town,o.draw,o.near,o.dok,o.stays,o.cases⟩
theorem apj{h:aG}{c:aJ}(hl:h.claims.length<=1000):OX h c=some (Bn h (h.claims++[c])):=by
 have hmx:maxLen=9223372036854775807:=rfl;have a1:bJ ([]:List aJ).length 0 h.claims.length h.claims.length 72=true:=by simp[bJ];omega
 have a2:bJ ([]++h.claims).length ([]++h.claims).length (sub ([c]:List aJ) 0 1).length 1 72=true:=bX (n:=1) (by simp;omega) (by simp;omega);have s1:sub ([c]:List aJ) 0 1=[c]:=rfl;unfold OX;rw[a1];simp only[aj,eu,fH]at a2 ⊢;simp only[s1]at a2 ⊢;rw[a2];simp only[aj,dO,aH];rfl
def YP(cl:List aJ):Bool:=cl.all λc=>c.attacks.all λk=>decide (k<(cl.length:Int))
theorem alv{cl:List aJ}(hl:cl.length<=1000)(ha:∀c∈cl,c.attacks.length<=1000)(hn:2000<=n):Fy n cl=some (YP cl):=by
 have s2:∀i (hi:i<cl.length),iter (wT cl (i:Int)) n 0=some (bif cl[i].attacks.any (λ k=>!decide (k<(cl.length:Int)))then .inr (.inr (.inr false))else .inl ()):=λi hi=>by
  have hc:=ha _ (getElem_mem hi);refine yX (l:=cl[i].attacks) (λ k=>!decide (k<(cl.length:Int))) () (.inr (.inr false):Int⊕(Unit⊕Bool)) (λ k hk=>?_) ?_ n (by omega)
  ·have e:decide (cl[i].attacks[k]>=(cl.length:Int))=!decide (cl[i].attacks[k] <(cl.length:Int)):=(by rw[<- decide_not,decide_eq_decide];omega);simp only[wT,aQ hi,ai,cu hk,aj,aQ hk,e,bf k];cases decide (cl[i].attacks[k] <(cl.length:Int))<;>rfl
  ·simp[wT,hi]
 unfold Fy;rw[yX (l:=cl) (step:=wU n cl) (λ c=>c.attacks.any λk=>!decide (k<(cl.length:Int))) () false (λ i hi=>by simp only[wU,cu hi,aj,s2 i hi,bf i];cases cl[i].attacks.any λk=>!decide (k<(cl.length:Int))<;>rfl) (by simp[wU]) n (by omega)];have e:YP cl=!(cl.any λc=>c.attacks.any λk=>!decide (k<(cl.length:Int))):=by unfold YP;rw[List.all_eq_not_any_not];congr 2;funext c;rw[List.all_eq_not_any_not,Bool.not_not]
 rw[e];cases cl.any λc=>c.attacks.any λk=>!decide (k<(cl.length:Int))<;>rfl
theorem MR{N M:Int}:∀{l:List Int}{s:Int},(∀ x∈l,x<N↔x<M)->tQ N s l=tQ M s l
 |[],_,_=>rfl
 |x::l,s,h=>by have hx:=h x (by simp);simp only[tQ];rw[MR (l:=l) λy hy=>h y (by simp[hy]),show decide (x>=N)=decide (x>=M)by rw[decide_eq_decide];omega]
section
variable {n:Nat} {h:aG} {c:aJ}
theorem agn{l:List aJ}{i:Nat}(hi:i<h.claims.length):(h.claims++l).getD i dM=h.claims.getD i dM:=by simp[List.getElem?_append_left hi]
theorem anX:(h.claims++[c]).getD h.claims.length dM=c:=by simp
theorem aj7(hs:YP h.claims=true){l:List aJ}{i:Nat}(hi:i<h.claims.length):du n (Bn h (h.claims++l)) i=du n h i/\DU (h.claims++l).length (h.claims.getD i dM)=DU h.claims.length (h.claims.getD i dM):=by
 have ha:DU (h.claims++l).length (h.claims.getD i dM)=DU h.claims.length (h.claims.getD i dM):=by
  have e:h.claims.getD i dM=h.claims[i]:=by simp[hi]
  unfold YP at hs;rw[all_eq_true]at hs;have h1:=hs _ (getElem_mem hi);rw[all_eq_true]at h1;rw[e];refine MR λx hx=>?_;have:=h1 x hx;simp at this;rw[dQ];omega
 refine⟨?_,ha⟩;show(decide (i=0) || (ownB n h ((h.claims++l).getD i dM)&&DU (h.claims++l).length ((h.claims++l).getD i dM)))=_;rw[agn hi,ha];rfl
theorem apk(hs:YP h.claims=true){l:List aJ}{j m:Nat}(hj:j<h.claims.length):lw n (Bn h (h.claims++l)) j m↔lw n h j m:=by
 have⟨h1,h2⟩:=aj7 (n:=n) hs (l:=l) hj;have hc:(Bn h (h.claims++l)).claims=h.claims++l:=rfl;unfold lw;rw[h1,hc,agn hj,h2,dQ];constructor
 ·rintro⟨_,_,a3,a4,a5⟩;have:=(JD a4).1 _ a5;exact⟨hj,by omega,a3,a4,a5⟩
 ·rintro⟨_,a2,a3⟩;exact⟨by omega,by omega,a3⟩
theorem aqF(o:JE n h)(hl:c.attacks.length<=1000)(hc:h.claims.length<300):∃m,Bg n h c=some m/\(m=0->YI h c=true/\tQ (h.claims.length:Int) (-1) c.attacks=true/\GA n h c.day=true/\MQ h c.eh=true)/\(m=24->MQ h c.eh=false):=by
 have hd:=xM o;have e1:decide ((h.claims.length:Int)>=300)=false:=by simp;omega
 unfold Bg;rw[ab7 o hl,hd.1,ab6 o,agj o];simp only[ai,e1,au];cases hf:YI h c&&tQ (h.claims.length:Int) (-1) c.attacks with
 |false=>exact⟨1,rfl,λh=>absurd h (by decide),λh=>absurd h (by decide)⟩
 |true=>
  simp only[aY]at hf;simp only[Bool.not_true,au];by_cases h0:(rL n h).2=0
  ·have e2:((rL n h).2 !=0)=false:=(by simp[h0]);rw[e2,au];have key:∃v,((bif !GA n h c.day then some (!GA n h c.day)else bif decide ((h.claims.length:Int)>0)then(bj h.claims (i64.wrap ((h.claims.length:Int) -1))).bind λx1=>some (decide (c.day<x1.day))else some false):Option Bool)=some v/\(v=false->GA n h c.day=true):=by
    cases GA n h c.day with
    |false=>exact⟨true,rfl,λh=>by cases h⟩
    |true=>
     simp only[Bool.not_true,au];by_cases hz:h.claims.length=0
     ·exact⟨false,by rw[decide_eq_false (show ¬(h.claims.length:Int)>0 by omega)];rfl,λ_=>trivial⟩
     ·rw[show decide ((h.claims.length:Int)>0)=true by simp;omega,aj,lF (by omega) (by omega),aQ (by omega)];exact⟨_,rfl,λ_=>trivial⟩
   obtain⟨v,hv,hv2⟩:=key;rw[hv];simp only[ai];cases v with
   |true=>exact⟨20,rfl,λh=>absurd h (by decide),λh=>absurd h (by decide)⟩
   |false=>
    cases hp:MQ h c.eh with
    |false=>exact⟨24,rfl,λh=>absurd h (by decide),λ_=>rfl⟩
    |true=>exact⟨0,rfl,λ_=>⟨hf.1,hf.2,hv2 rfl,rfl⟩,λh=>absurd h (by decide)⟩
  ·have e2:((rL n h).2 !=0)=true:=(by simp[h0]);rw[e2];exact⟨_,rfl,λh=>absurd h h0,λh=>by rcases hd.2.2.code with e |e |e<;>omega⟩
end
theorem aj8{h:aG}(hF:aqz h)(h0:h.claims≠[]){l:List aJ}(hl:l.length<=2)(ha:∀c∈l,c.attacks.length<=14):N6 (Bn h (h.claims++l)):=by
 have:=hF.claims;have:=List.length_pos_iff.2 h0;show 1<=(h.claims++l).length/\(h.claims++l).length<=300/\∀c∈h.claims++l,c.attacks.length<=1000;rw[dQ];refine⟨by omega,by omega,λc hc=>?_⟩;rcases bP.1 hc with hc |hc
 ·have:=hF.MM c hc;omega
 ·have:=ha c hc;omega
theorem Rq(h:aG)(c:aJ)(hz:To h):sJ 5000003 h c=some true:=by
 have⟨b,hf,ho⟩:=anU (n:=5000003) ard hz;unfold sJ;rw[apg,hf];cases b with
 |false=>rfl
 |true=>
  have⟨o,hF⟩:=ho rfl;have f1:=hF.claims;have f2:=hF.MM;simp only[ai,Bool.not_true,au];by_cases g1:(c.attacks.length:Int)>14
  ·simp only[g1,decide_true,aj,ai]
  by_cases g2:h.claims=[]
  ·simp only[g1,decide_false,au,show((h.claims.length:Int)==0)=true by rw[g2];rfl,aj,ai]
  have hpos:=List.length_pos_iff.2 g2;have hca:c.attacks.length<=14:=by omega
  simp only[g1,decide_false,au,show((h.claims.length:Int)==0)=false by simp;exact g2,alv (n:=5000003) (cl:=h.claims) (by omega) (λ c hc=>by have:=f2 c hc;omega) (by decide),ai];cases hs:YP h.claims with
  |false=>rfl
  |true=>
   simp only[Bool.not_true,au];have om:=anW o (h.claims++[c]);have cm:=aj8 hF g2 (l:=[c]) (by simp) (λ x hx=>by simp at hx;subst hx;exact hca);have ch:N6 h:=(by have:=aj8 hF g2 (l:=[]) (by simp) (by simp);rwa [List.append_nil]at this);have⟨L,a1,a2⟩:=YK o ch;have⟨M,b1,b2⟩:=YK om cm;have mc:(Bn h (h.claims++[c])).claims=h.claims++[c]:=rfl;have hn:=wD 5000003 (Bn h (h.claims++[c]));have l1:=a2.len;have l2:=b2.len;rw[mc,dQ,length_singleton]at l2;have l3:(wD 5000003 (Bn h (h.claims++[c]))).length=h.claims.length+1:=(by unfold wD;rw[mc];simp);have wN:i64.wrap ((h.claims.length:Int)+1)=((h.claims.length+1:Nat):Int):=aL (by omega);obtain⟨m,m1,m2,m3⟩:=aqF (c:=c) o (by omega) (show h.claims.length<300 by omega);have cn:du 5000003 (Bn h (h.claims++[c])) h.claims.length=(ownB 5000003 h c&&DU (h.claims.length+1) c):=(by show(decide (h.claims.length=0) || (ownB 5000003 h ((h.claims++[c]).getD h.claims.length dM)&&DU (h.claims++[c]).length ((h.claims++[c]).getD h.claims.length dM)))=_;rw[anX,dQ,length_singleton,show decide (h.claims.length=0)=false by simp;exact g2,Bool.false_or]);have at7:bj (wD 5000003 (Bn h (h.claims++[c]))) (h.claims.length:Int)=some (ownB 5000003 h c&&DU (h.claims.length+1) c):=(by rw[aQ (by omega),<- cn];simp[wD]);have hp:Mx 5000003 (eH.mk h.cj h.aw h.bp h.aE h.bk h.br h.cx h.bu h.c8 h.cL h.cR h.cT h.ec) (aO.mk h.co h.b8) c.eh=some (HT (dt h) (d6 h) c.eh):=aj4 o c.eh;have v3:((bif c.eh !=h.el then some (!HT (dt h) (d6 h) c.eh)else some false):Option Bool)=some (!MQ h c.eh):=(by unfold MQ;rw[show (c.eh !=h.el)=!(c.eh==h.el)from rfl];cases c.eh==h.el<;>rfl);have v4:((bif (rL 5000003 h).2 !=0 then some true else bif decide (c.day<h.eC)then some true else some (decide (c.day>(rL 5000003 h).1))):Option Bool)=some (!GA 5000003 h c.day):=(by unfold GA;rw[show ((rL 5000003 h).2 !=0)=!((rL 5000003 h).2==0)from rfl,show decide (c.day<h.eC)=!decide (h.eC<=c.day)by rw[<- decide_not,decide_eq_decide];omega,show decide (c.day>(rL 5000003 h).1)=!decide (c.day<=(rL 5000003 h).1)by rw[<- decide_not,decide_eq_decide];omega];cases (rL 5000003 h).2==0<;>cases decide (h.eC<=c.day)<;>cases decide (c.day<=(rL 5000003 h).1)<;>rfl);have bn:((L.length:Int) !=(h.claims.length:Int))=false:=(by rw[l1];simp);have bm:((M.length:Int) !=((h.claims.length+1:Nat):Int))=false:=(by rw[l2];simp);have bc:(((wD 5000003 (Bn h (h.claims++[c]))).length:Int) !=((h.claims.length+1:Nat):Int))=false:=(by rw[l3];simp);simp only[a1,ai,apj (h:=h) (c:=c) (by omega),b1,Ro om cm,wN,bn,bm,bc,au,m1,(xM o).1,hp,v3,v4,aj5 o,aZ (show h.claims.length<(wD 5000003 (Bn h (h.claims++[c]))).length by omega),aj,fL,Int.zero_add,at7];have x1:(m==0)=true->ownB 5000003 h c=TD 5000003 h c/\DU (h.claims.length+1) c=true/\GA 5000003 h c.day=true/\MQ h c.eh=true:=λe=>(by obtain⟨q1,q2,q3,q4⟩:=m2 (by simpa using e);refine⟨by unfold ownB;rw[q1,q3,q4];simp,?_,q3,q4⟩;unfold DU;rw[<- q2];refine(MR λx hx=>?_).symm;have:=(JD q2).1 x hx;omega);have x2:(m==24)=true->MQ h c.eh=false:=λe=>m3 (by simpa using e);have an:(ownB 5000003 h c&&DU (h.claims.length+1) c)=false->M.take h.claims.length=L/\M.getD h.claims.length 0=2/\M.getD 0 0=L.getD 0 0:=λe=>by
    have hR:lw 5000003 (Bn h (h.claims++[c]))=lw 5000003 h:=by
     funext j m;refine propext ?_;by_cases hj:j<h.claims.length
     ·exact apk hs hj
     ·constructor
      ·rintro⟨q1,_,q3,_⟩;rw[mc,dQ,length_singleton]at q1;rw[show j=h.claims.length by omega,cn,e]at q3;cases q3
      ·rintro⟨q1,_⟩;exact absurd q1 hj
    have hE:∀i,i<h.claims.length->M.getD i 0=L.getD i 0:=λi hi=>b2.eq a2 (by rw[mc,dQ];omega) hi (aj7 hs hi).1 (by rw[hR]) (by rw[hR]);refine⟨List.ext_getElem (by simp[l1,l2]) λi i1 i2=>?_,b2.out _ (by rw[mc];simp) (by rw[cn,e]),hE 0 hpos⟩;have:=hE i (by omega);rw[List.getElem_take];simpa[show i<M.length by omega,i2]using this
   have sl:y9 0 (h.claims.length:Int) M.length=true:=vT (by omega) (by omega) (by omega);have aM:bj M (h.claims.length:Int)=some (M.getD h.claims.length 0):=(by rw[aQ (by omega)];simp[show h.claims.length<M.length by omega]);have sT:sub M 0 h.claims.length=M.take h.claims.length:=amJ _ _;have tl:(M.take h.claims.length).length=h.claims.length:=(by rw[List.length_take];omega);cases hA:(ownB 5000003 h c&&DU (h.claims.length+1) c)with
   |false=>
    have⟨t1,t2,t3⟩:=an hA;have sn:qW 5000003 L L=some true:=(by rw[TF (by omega) (by decide)];simp);have hb0:(m==0)=true->GA 5000003 h c.day=true/\MQ h c.eh=true/\TD 5000003 h c=false:=λe=>(by have⟨q1,q2,q3,q4⟩:=x1 e;rw[q1,q2,Bool.and_true]at hA;exact⟨q3,q4,hA⟩);have sL:sub L 0 h.claims.length=L:=(by rw[<- l1];exact dO _);simp only[sl,sT,t1,sL,l1,aH,aj,dO,sn,ai,aZ (show h.claims.length<M.length by omega),aM,t2,t3,beq_self_eq_true,Int.toNat_natCast,Bool.not_false];revert hb0 x2;cases GA 5000003 h c.day<;>cases MQ h c.eh<;>cases TD 5000003 h c<;>cases m==0<;>cases m==24<;>intro q1 q2<;>first |rfl |(simp at q1 q2)
   |true=>
    have hb1:GA 5000003 h c.day=true/\MQ h c.eh=true/\TD 5000003 h c=true:=(by simp only[ownB,aY]at hA;exact⟨hA.1.1,hA.1.2.1,hA.1.2.2.2⟩);obtain⟨q1,q2,q3⟩:=hb1;rw[q2]at x2;rw[q1,q2,q3];revert x2;cases m==0<;>cases m==24<;>intro x2<;>first |rfl |(simp at x2)
theorem Uo(q:HL xx.toSE [.st SI.fY,.st SI.Claim])(hb:Wy (HL.oB xx.toSE [.st SI.fY,.st SI.Claim] q)<=1048576):∃k,sJ k q.1 q.2.1=some true:=⟨5000003,Rq q.1 q.2.1 (aqE q hb)⟩
end
end Go.Proofs
