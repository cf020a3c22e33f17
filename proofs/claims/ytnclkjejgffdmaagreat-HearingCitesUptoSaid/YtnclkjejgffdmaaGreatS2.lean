import Derived.Test.YtnclkjejgffdmaaGreatS1
open Go.IntKind (i64)
open List (mem_map all_eq_true getElem_mem length_nil foldl_cons mem_filter any_eq_false)
namespace Go.Proofs
open Go.Gb Go.RowKit
variable {n:Nat}
theorem all_eq{d:aM}(h:TD d)(hn:1001<=n):wP n d=some (kV d):=by simp[wP,X6 h hn]
theorem ZL(a b:ByteArray)(h:a.size<=4000000):∃r,strings_Contains a b=some r:=by simp only[strings_Contains,Nat.ble_eq_true_of_le h,aj];exact⟨_,rfl⟩
theorem SQ c:∃b,EG c=some b:=eu ⟨_,rfl⟩ ⟨_,rfl⟩
theorem ahU c:∃b,Qv c=some b:=eu ⟨_,rfl⟩ ⟨_,rfl⟩
theorem akv c:∃b,Aq c=some b:=sO (SQ c) λ_=>eu ⟨_,rfl⟩ (sO (ahU c) λ_=>⟨_,rfl⟩)
theorem afw{s:ByteArray}{i:Nat}(h:i<s.size):∃c,Sc s i=some c:=by simp only[Sc,show decide (0<=i)=true from by simp,aj,Int.toNat_natCast];rw[getElem?_pos s i h];exact⟨_,rfl⟩
theorem akw{s:ByteArray}{φ:(Int×Unit)->Option Bool}(h:∀c,∃b,φ (c,())=some b)(hs:s.size<=4000000)(hn:4000002<=n):∃r,Oa n s φ=some r:=by
 obtain⟨o,h1,_⟩:=eT (step:=Ap s φ) (λ i v=>v=i/\i<=s.size) (λ _=>True) s.size (λ k v h=>h.2) (by
  rintro i v ⟨rfl,hi⟩;by_cases hlt:i<s.size;have⟨c,hc⟩:=afw hlt;have⟨b,hb⟩:=h c;simp only[Ap,show decide ((i:Int)<s.size)=true from by simp;omega,aj,hc,ai,hb,aX i];cases b with
  |true=>exact .inl ⟨_,rfl,rfl,hlt⟩
  |false=>exact .inr ⟨_,rfl,trivial⟩
  simp only[Ap,show decide ((i:Int)<s.size)=false from by simp;omega,au,ai];exact .inr ⟨_,rfl,trivial⟩) n 0 0 ⟨rfl,Nat.zero_le _⟩ (by omega)
 simp only[Oa,h1,ai];exact⟨_,rfl⟩
theorem akx(s:ByteArray)(hn:4000002<=n):∃b,Ob n s=some b/\(b=true->s.size<=20):=by
 simp only[Ob];cases h0:(ByteArray.toList s==ByteArray.toList (⟨#[]⟩))with
 |true=>exact⟨false,by simp,λh=>(by cases h)⟩
 |false=>
  have hs:0<s.size:=by refine Nat.pos_of_ne_zero λh=>?_;have:s=⟨#[]⟩:=(by obtain⟨⟨l⟩⟩:=s;have:l.length=0:=h;rw[List.eq_nil_of_length_eq_zero this]);rw[this]at h0;simp at h0
  have⟨c,hc⟩:=afw hs;have hc':Sc s 0=some c:=hc;have⟨b,hb⟩:=SQ c;simp only[au,hc',ai,hb];cases b with
  |false=>exact⟨false,by simp,λh=>(by cases h)⟩
  |true=>
   simp only[Bool.not_true,au,ai];by_cases h20:(s.size:Int)>20;exact⟨false,by simp[h20],λh=>(by cases h)⟩;obtain⟨r,hr⟩:=akw (n:=n) (s:=s) (φ:=λ(y1:Int×Unit)=>Aq y1.1) (λ c=>akv c) (by omega) hn;simp only[h20,decide_false,au,hr,ai];exact⟨_,rfl,λ_=>by omega⟩
theorem aky(s:ByteArray)(hn:4000002<=n):∃b,wQ n s=some b:=by
 have⟨b,hb,h20⟩:=akx (n:=n) s hn;simp only[wQ,hb,ai];cases b with
 |false=>exact⟨_,rfl⟩
 |true=>
  have hs:=h20 rfl;have hmx:maxLen=9223372036854775807:=rfl;have c1:V4 (⟨#[32]⟩) s=true:=by have:(⟨#[32]⟩:ByteArray).size=1:=rfl;simp[V4];omega
  have c2:V4 ((⟨#[32]⟩)++s) (⟨#[32]⟩)=true:=by have h1:(⟨#[32]⟩:ByteArray).size=1:=rfl;simp[V4];omega
  simp only[aj,c1,c2];refine sO (ZL _ _ (Nat.le_of_ble_eq_true ?_)) λ_=>⟨_,rfl⟩
  kernel_rfl
theorem akz(a b:Fo):∃r,xL a b=some r:=by unfold xL;rw[zl];exact eu (eu ⟨_,rfl⟩ ⟨_,rfl⟩) ⟨_,rfl⟩
theorem fO{l:List aF}{φ:(aF×Unit)->Option Bool}(p:aF->Bool)(h:∀x∈l,φ (x,())=some (p x))(hl:l.length<1099511627776)(hn:l.length<n):fJ n l φ=some (l.any p):=by have:qN n l φ=some (qW p l):=fF p h hl hn;simp[fJ,this,pE]
theorem yc{l:List aF}{φ:(aF×Unit)->Option Bool}(h:∀x∈l,∃b,φ (x,())=some b)(hl:l.length<1099511627776)(hn:l.length<n):fJ n l φ=some (l.any λx=>(φ (x,())).getD false):=
 fO _ (λ x hx=>by have⟨b,hb⟩:=h x hx;rw[hb];rfl) hl hn
def L7(d:aM):Prop:=∀p∈d.phases,p.gives.length<=1000
theorem ahV{l:List aF}(hl:l.length<=1000000)(hn:4000002<=n):iter (lu n l) n 0=some (.inr false)\/(iter (lu n l) n 0=some (.inl ())/\∀v∈l,okV v=true):=by
 obtain⟨o,h1,h2⟩:=eT (step:=lu n l) (λ i v=>v=i/\i<=l.length/\∀x∈l.take i,okV x=true) (λ o=>o= .inr false\/(o= .inl ()/\∀v∈l,okV v=true)) l.length (λ k v h=>h.2.1) (by
  rintro i v ⟨rfl,hi,hall⟩;by_cases hlt:i<l.length;simp only[lu,show decide ((i:Int)<l.length)=true from by simp;omega,aj,bA hlt,bH hlt,ai,uK,aX i];cases hv:okV l[i]with
  |false=>exact .inr ⟨_,by simp only[Bool.not_false,aj,ai];rfl,.inl rfl⟩
  |true=>
   have hsub:(sub l 0 i).length=i:=(by simp[sub];omega);have hc:=yc (n:=n) (l:=sub l 0 i) (φ:=λ(y1:aF×Unit)=>rH y1.1 l[i]) (λ x _=>sO (akz _ _) λ_=>⟨_,rfl⟩) (by omega) (by omega);simp[yx (show 0<=0 by omega) (show (0:Int)<=i by omega) (show (i:Int)<=l.length by omega),Qk hsub,hc];cases ((sub l 0 i).any λx=>((λ (y1:aF×Unit)=>rH y1.1 l[i]) (x,())).getD false)with
   |true=>exact .inr ⟨_,rfl,.inl rfl⟩
   |false=>
    refine .inl ⟨_,rfl,rfl,hlt,λx hx=>?_⟩;rw[List.take_add_one,dm hlt,bM]at hx;rcases hx with hx |hx;exact hall x hx;simp at hx;subst hx;exact hv
  refine .inr ⟨.inl (),?_,.inr ⟨rfl,λv hv=>hall v (by rw[List.take_of_length_le (by omega)];exact hv)⟩⟩;simp only[lu,show decide ((i:Int)<l.length)=false from by simp;omega,au]) n 0 0 ⟨rfl,Nat.zero_le _,by simp⟩ (by omega)
 rcases h2 with rfl |⟨rfl,h2⟩;exact .inl h1;exact .inr ⟨h1,h2⟩
theorem ahW{p:kW}(hp:p.gives.length<=1000)(hn:4000002<=n):iter (lC n p) n (0,[])=some (.inl ())\/iter (lC n p) n (0,[])=some (.inr (.inr (.inr false))):=by
 obtain⟨o,h1,h2⟩:=eT (step:=lC n p) (λ i (v:Int×List (ByteArray×Bool))=>∃m,v=((i:Int),m)/\i<=p.gives.length) (λ o=>o= .inl ()\/o= .inr (.inr (.inr false))) p.gives.length (λ k v ⟨_,_,h⟩=>h) (by
  rintro i v ⟨m,rfl,hi⟩;by_cases hlt:i<p.gives.length;have key:∃b,((bif ((gD Gb.eb p.gives[i].name m).getD false)then some true else(wQ n p.gives[i].name).bind λr4=>(bif (!r4)then some true else(bif (decide (p.gives[i].n<0))then some true else some (decide (p.gives[i].n>1073741824))))):Option (Bool))=some b:=
   eu ⟨_,rfl⟩ (sO (aky _ hn) λ_=>eu ⟨_,rfl⟩ (eu ⟨_,rfl⟩ ⟨_,rfl⟩))
  obtain⟨b,hb⟩:=key;simp only[lC,show decide ((i:Int)<p.gives.length)=true from by simp;omega,aj,aU hlt,ai,hb,aX i];cases b with
  |true=>exact .inr ⟨_,rfl,.inr rfl⟩
  |false=>exact .inl ⟨_,rfl,_,rfl,hlt⟩
  simp only[lC,show decide ((i:Int)<p.gives.length)=false from by simp;omega,au];exact .inr ⟨_,rfl,.inl rfl⟩) n 0 _ ⟨[],rfl,Nat.zero_le _⟩ (by omega)
 rcases h2 with rfl |rfl;exact .inl h1;exact .inr h1
theorem ahX{d:aM}(hd:TD d)(hg:L7 d)(hn:4000002<=n):iter (lD n d) n 0=some (.inl ())\/iter (lD n d) n 0=some (.inr false):=by
 have hd1:=hd.1;obtain⟨o,h1,h2⟩:=eT (step:=lD n d) (λ i v=>v=i/\i<=d.phases.length) (λ o=>o= .inl ()\/o= .inr false) d.phases.length (λ k v h=>h.2) (by
  rintro i v ⟨rfl,hi⟩;by_cases hlt:i<d.phases.length;simp only[lD,show decide ((i:Int)<d.phases.length)=true from by simp;omega,aj,aU hlt,ai,aX i];rcases ahW (n:=n) (hg _ (getElem_mem hlt)) hn with h |h;simp[h];cases decide ((d.phases[i].gives.length:Int)>30)with
  |true=>exact .inr ⟨_,rfl,.inr rfl⟩
  |false=>exact .inl ⟨_,rfl,rfl,hlt⟩
  simp only[h,sF];exact .inr ⟨_,rfl,.inr rfl⟩;simp only[lD,show decide ((i:Int)<d.phases.length)=false from by simp;omega,au];exact .inr ⟨_,rfl,.inl rfl⟩) n 0 0 ⟨rfl,Nat.zero_le _⟩ (by omega)
 rcases h2 with rfl |rfl;exact .inl h1;exact .inr h1
theorem J9{d:aM}(hd:TD d):(kV d).length<=1000000:=by have:=eW hd.2;have:=hd.1;unfold kV;omega
theorem aox{d:aM}(hd:TD d)(hg:L7 d)(hn:4000002<=n):∃b,xM n d=some b/\(b=true->∀v∈kV d,okV v=true):=by
 simp only[xM,all_eq hd (show 1001<=n by omega),ai];have key:∀c1 c2 c3 c4 c5 c6:Bool,∃b,((bif c1 then some true else(bif c2 then some true else(bif c3 then some true else(bif c4 then some true else(bif c5 then some true else some c6))))):Option Bool)=some b:=by intro c1 c2 c3 c4 c5 c6;exact eu ⟨_,rfl⟩ (eu ⟨_,rfl⟩ (eu ⟨_,rfl⟩ (eu ⟨_,rfl⟩ (eu ⟨_,rfl⟩ ⟨_,rfl⟩))))
 have⟨b,hb⟩:=key (decide (d.lot<0)) (decide (d.lot>1073741824)) (decide ((d.phases.length:Int)<1)) (decide ((d.phases.length:Int)>8)) (decide (((kV d).length:Int)<1)) (decide (((kV d).length:Int)>40));rw[hb];cases b with
 |true=>exact⟨false,rfl,λh=>(by cases h)⟩
 |false=>
  simp only[ai,au];rcases ahV (n:=n) (J9 hd) hn with h |⟨h,hall⟩;simp only[h,sF];exact⟨false,rfl,λh=>(by cases h)⟩;simp only[h,iy];rcases ahX (n:=n) hd hg hn with h2 |h2;simp only[h2,iy];exact⟨true,rfl,λ_=>hall⟩;simp only[h2,sF];exact⟨false,rfl,λh=>(by cases h)⟩
theorem Fb{l:List jA}{φ:(jA×Unit)->Option Bool}(p:jA->Bool)(h:∀x∈l,φ (x,())=some (p x))(hl:l.length<1099511627776)(hn:l.length<n):mZ n l φ=some (l.any p):=by have:vL n l φ=some (qW p l):=fF p h hl hn;simp[mZ,this,pE]
theorem amV{lot:fw}{l:List aF}(ha:lot.area.length<=900)(hv:∀v∈l,okV v=true)(hl:l.length<=1000000)(hn:4000002<=n):iter (ku n lot l) n 0=some (.inl ())\/iter (ku n lot l) n 0=some (.inr false):=by
 obtain⟨o,h1,h2⟩:=eT (step:=ku n lot l) (λ i v=>v=i/\i<=l.length) (λ o=>o= .inl ()\/o= .inr false) l.length (λ k v h=>h.2) (by
  rintro i v ⟨rfl,hi⟩;by_cases hlt:i<l.length;have hb:=X5 (hv _ (getElem_mem hlt));have hcl:=acU (keep:=λp q=>p&&q) lot.area [gX l[i]];have hc:=acT (n:=n) (a:=lot.area) (b:=[gX l[i]]) (by omega) (by simp) (by omega) (by simp;omega) (by omega);have hA:=XL (n:=n) (a:=(uJ (λ p q=>p&&q) lot.area [gX l[i]]).1) (by omega) (by omega);have hr:=Dl hb;simp[gX]at hc hA hr;simp only[ku,show decide ((i:Int)<l.length)=true from by simp;omega,aj,bA hlt,bH hlt,ai,show ∀r:ax,sub [r] 0 1=[r]from λ_=>rfl,List.length_singleton,aJ,hc,hA,hr,aX i];have key:∀c x:Bool,∃b,((bif c then some true else some x):Option Bool)=some b:=λc x=>eu ⟨_,rfl⟩ ⟨_,rfl⟩;obtain⟨b,hb2⟩:=key ((uJ (λ p q=>p&&q) lot.area [⟨l[i].bz,l[i].cz,l[i].bx,l[i].cy⟩]).2 !=0) (decide ((bif cV (uJ (λ p q=>p&&q) lot.area [⟨l[i].bz,l[i].cz,l[i].bx,l[i].cy⟩]).1 then LY (uJ (λ p q=>p&&q) lot.area [⟨l[i].bz,l[i].cz,l[i].bx,l[i].cy⟩]).1 else 0)<No ⟨l[i].bz,l[i].cz,l[i].bx,l[i].cy⟩));rw[hb2];cases b with
  |true=>exact .inr ⟨_,rfl,.inr rfl⟩
  |false=>exact .inl ⟨_,rfl,rfl,hlt⟩
  simp only[ku,show decide ((i:Int)<l.length)=false from by simp;omega,au];exact .inr ⟨_,rfl,.inl rfl⟩) n 0 0 ⟨rfl,Nat.zero_le _⟩ (by omega)
 rcases h2 with rfl |rfl;exact .inl h1;exact .inr h1
theorem amW{p:bL}{ph:kW}(hc:p.caps.length<=4000000)(hp:ph.gives.length<=1000)(hn:4000002<=n):iter (kz n p ph) n 0=some (.inl ())\/iter (kz n p ph) n 0=some (.inr (.inr (.inr false))):=by
 obtain⟨o,h1,h2⟩:=eT (step:=kz n p ph) (λ i v=>v=i/\i<=ph.gives.length) (λ o=>o= .inl ()\/o= .inr (.inr (.inr false))) ph.gives.length (λ k v h=>h.2) (by
  rintro i v ⟨rfl,hi⟩;by_cases hlt:i<ph.gives.length;simp only[kz,show decide ((i:Int)<ph.gives.length)=true from by simp;omega,aj,aU hlt,ai,Fb (n:=n) (l:=p.caps) (φ:=λ(y1:jA×Unit)=>vK y1.1 ph.gives[i]) (λ c=>ByteArray.toList c.name==ByteArray.toList ph.gives[i].name) (λ _ _=>rfl) (by omega) (by omega),aX i];cases (p.caps.any λc=>ByteArray.toList c.name==ByteArray.toList ph.gives[i].name)with
  |false=>exact .inr ⟨_,rfl,.inr rfl⟩
  |true=>exact .inl ⟨_,rfl,rfl,hlt⟩
  simp only[kz,show decide ((i:Int)<ph.gives.length)=false from by simp;omega,au];exact .inr ⟨_,rfl,.inl rfl⟩) n 0 0 ⟨rfl,Nat.zero_le _⟩ (by omega)
 rcases h2 with rfl |rfl;exact .inl h1;exact .inr h1
theorem amX{p:bL}{d:aM}(hc:p.caps.length<=4000000)(hd:TD d)(hg:L7 d)(hn:4000002<=n):iter (kC n p d) n 0=some (.inl ())\/iter (kC n p d) n 0=some (.inr false):=by have hd1:=hd.1;obtain⟨o,h1,h2⟩:=eT (step:=kC n p d) (λ i v=>v=i/\i<=d.phases.length) (λ o=>o= .inl ()\/o= .inr false) d.phases.length (λ k v h=>h.2) (by rintro i v ⟨rfl,hi⟩;by_cases hlt:i<d.phases.length;simp only[kC,show decide ((i:Int)<d.phases.length)=true from by simp;omega,aj,aU hlt,ai,aX i];rcases amW (n:=n) hc (hg _ (getElem_mem hlt)) hn with h |h;simp only[h,iy];exact .inl ⟨_,rfl,rfl,hlt⟩;simp only[h,sF];exact .inr ⟨_,rfl,.inr rfl⟩;simp only[kC,show decide ((i:Int)<d.phases.length)=false from by simp;omega,au];exact .inr ⟨_,rfl,.inl rfl⟩) n 0 0 ⟨rfl,Nat.zero_le _⟩ (by omega);rcases h2 with rfl |rfl;exact .inl h1;exact .inr h1
theorem akA{p:bL}{lot:fw}{d:aM}(hc:p.caps.length<=4000000)(ha:lot.area.length<=900)(hd:TD d)(hg:L7 d)(hn:4000002<=n):∃b,o7 n p lot d=some b/\(b=true->∀v∈kV d,okV v=true):=by
 have⟨b,hb,hv⟩:=aox (n:=n) hd hg hn;simp only[o7,hb,ai];cases b with
 |false=>exact⟨false,by simp,λh=>(by cases h)⟩
 |true=>
  simp only[Bool.not_true,au,jf (n:=n) (l:=lot.area) (by omega) (by omega) (by omega),ai];cases (lot.id !=d.lot)with
  |true=>exact⟨false,by simp,λh=>(by cases h)⟩
  |false=>
   cases cV lot.area with
   |false=>exact⟨false,by simp,λh=>(by cases h)⟩
   |true=>
    simp only[Bool.not_true,au,ai,all_eq hd (show 1001<=n by omega)];rcases amV (n:=n) ha (hv rfl) (J9 hd) hn with h |h;simp only[h,iy];rcases amX (n:=n) hc hd hg hn with h2 |h2;simp only[h2,iy];exact⟨true,rfl,λ_=>hv rfl⟩;simp only[h2,sF];exact⟨false,rfl,λh=>(by cases h)⟩;simp only[h,sF];exact⟨false,rfl,λh=>(by cases h)⟩
theorem aoy{p:bL}{ms:List aZ}{zs:List ByteArray}{e:cu}(hp:ahT p)(hm:ms.length<=4000000)(hz:zs.length<=4000000)(he:(toE e).wt<=4000000)(hn:5000003<=n)(hn2:n<=9223372036854775000):∃v,Ay n p ms zs e=some v:=by
 obtain⟨b,hb,hv⟩:=SL (n:=n) (by omega) hn2 he;simp[Ay,Dp,hb];cases b with
 |false=>exact⟨_,rfl⟩
 |true=>
  have⟨kn,out,h1,_⟩:=Ma (n:=n) hp hm hz hn hn2;obtain⟨v,h2⟩:=Ya (n:=n) (a0:=p.defs) (a2:=p.zones) (a3:=p.rules) (a4:=p.caps) (a5:=p.views) (a6:=p.wc) (a7:=p.hours) (by omega) hp.tabs hz n e kn (hv rfl) he;simp only[Bool.not_true,au,h1,ai,fQ,h2];exact⟨_,rfl⟩
section
variable {n:Nat} {d:List gH} {ts:List bO} {z z':List fC} {r r':List bX} {c c':List jA} {v v':List ig} {su tc:List dD} {h h':Int} {zs:List ByteArray}
theorem Jb:∀(m:Nat)(e:cu)(kn:List (ByteArray×Int)),bQ n m d ts z r c v su h zs e kn=bQ n m d ts z' r' c' v' tc h' zs e kn
 | 0,_,_=>rfl
 |m+1,e,kn=>by
  have ih:=Jb m;have hs:eG n (bQ n m) d ts z r c v su h zs e=eG n (bQ n m) d ts z' r' c' v' tc h' zs e:=by funext ⟨v1,v2,v3⟩;simp only[eG,ih]
  have hr:∀w,jw n d ts z r c v su h zs e w=jw n d ts z' r' c' v' tc h' zs e w:=λ_=>rfl;show eZ n (bQ n m) d ts z r c v su h zs e kn=eZ n (bQ n m) d ts z' r' c' v' tc h' zs e kn;simp only[eZ,hs,Dp,hr]
theorem ahY{ms:List aZ}:(mR n (bL.mk d ts z r c v su h) ms zs).map (λ q=>q.2.2.2.2.2.2.2.2.2)=(mR n (bL.mk d ts z' r' c' v' tc h') ms zs).map (λ q=>q.2.2.2.2.2.2.2.2.2):=by
 have hs:∀w2 r1,gL n (bL.mk d ts z r c v su h) zs w2 r1=gL n (bL.mk d ts z' r' c' v' tc h') zs w2 r1:=by intro w2 r1;funext ⟨v6,v7,v8⟩;have hv:∀e kn,fQ n d ts z r c v su h zs e kn=fQ n d ts z' r' c' v' tc h' zs e kn:=λe kn=>Jb n e kn;simp only[gL,hv]
 have ho:nY n (bL.mk d ts z r c v su h)=nY n (bL.mk d ts z' r' c' v' tc h'):=rfl;simp only[mR,hs,ho];cases iter (iV n ms) n (0,([]:(List (ByteArray×Int))),([]:(List (ByteArray×Bool))))with
 |none=>rfl
 |some w=>
  obtain⟨w1,w2⟩:=w;simp only[ai];cases (decide ((d.length:Int)<=d.length)&&(decide (0<=(d.length:Int))&&sQ d.length 8))with
  |false=>rfl
  |true=>
   simp only[aj];cases nY n (bL.mk d ts z' r' c' v' tc h')with
   |none=>rfl
   |some r1=>
    simp only[ai];cases (r1.2.2 !=0)with
    |true=>
     simp only[aj];cases az ((d.length:Int).toNat) (List.replicate (d.length:Int).toNat (0:Int)).length<;>rfl
    |false=>
     simp only[au];cases iter (gL n (bL.mk d ts z' r' c' v' tc h') zs w2 r1) n (0,w1,(List.replicate (d.length:Int).toNat 0))with
     |none=>rfl
     |some q=>
      obtain⟨w3,w4⟩:=q;simp only[ai];cases az ((d.length:Int).toNat) w4.length<;>rfl
theorem ahZ{ms:List aZ}{e:cu}(hp:ik d)(ht:RM ts)(hm:ms.length<=4000000)(hz:zs.length<=4000000)(hn:5000003<=n)(hn2:n<=9223372036854775000):Ay n (bL.mk d ts z r c v su h) ms zs e=Ay n (bL.mk d ts z' r' c' v' tc h') ms zs e:=by have⟨kn,out,h1,_⟩:=Ma (n:=n) (p:=bL.mk d ts z r c v su h) ⟨hp,ht⟩ hm hz hn hn2;have⟨kn2,out2,h2,_⟩:=Ma (n:=n) (p:=bL.mk d ts z' r' c' v' tc h') ⟨hp,ht⟩ hm hz hn hn2;have h3:=ahY (n:=n) (d:=d) (ts:=ts) (z:=z) (z':=z') (r:=r) (r':=r') (c:=c) (c':=c') (v:=v) (v':=v') (su:=su) (tc:=tc) (h:=h) (h':=h') (zs:=zs) (ms:=ms);rw[h1,h2]at h3;simp only[Option.map_some,bJ,Prod.mk.injEq]at h3;obtain⟨rfl,rfl⟩:=h3;simp only[Ay,h1,h2,ai,fQ,Jb (z:=z) (z':=z') (r:=r) (r':=r') (c:=c) (c':=c') (v:=v) (v':=v') (su:=su) (tc:=tc) (h:=h) (h':=h')]
end
theorem TH{b:ax}{l:List dO}{s:List gm}(ha:∀c∈s,c.area.length<=200)(hs:s.length<=1000)(hl:l.length<=1000)(hn:2000<=n):
 xV n b l s=some (EZ b l&&(E5 s&&!(s.any λc=>decide (PP b l c.area<c.z1)))):=by
 unfold xV;rw[XZ b l hl hn];simp;cases hv:EZ b l with
 |false=>simp
 |true=>
  have⟨v1,v2⟩:=(afg b l).1 hv;simp[SH (n:=n) (s:=s) (λ x hx=>by have:=ha x hx;omega) (by omega)];cases hr:E5 s with
  |false=>simp
  |true=>
   have⟨_,sok,_⟩:=(X4 s).1 hr;simp;rw[sN (λ c=>decide (PP b l c.area<c.z1)) (λ c hc=>by have:=ha c hc;show rP n c b l=_;unfold rP;rw[TB v1 v2 (uH (sok c hc).rt).1 (by omega) hl hn];rfl) (by omega) (by omega)];simp
def vO(v:aF):List gm:=[⟨v.eR,v.ej,[gX v]⟩]
theorem afx(v:aF):xR v=some (vO v):=rfl
def Ve(b:ax)(p:dO)(v:aF):Bool:=EZ b [p]&&(E5 (vO v)&&!((vO v).any λc=>decide (PP b [p] c.area<c.z1)))
def Yb(r:bX):dO:=dO.mk r.iS r.i6 r.kf r.kh
theorem ac7(v:aF)(b:ax)(r:bX)(hn:2000<=n):jZ n v b r=some (!Ve b (Yb r) v):=by have h:=TH (n:=n) (b:=b) (l:=[Yb r]) (s:=vO v) (by simp[vO]) (by simp[vO]) (by simp) hn;unfold Yb at h;have hl:(vO v).length=1:=rfl;simp[jZ,afx,show ∀x:dO,sub [x] 0 1=[x]from λ_=>rfl,h,Ve];rfl
def RK(r:bX)(v:aF):Bool:=bits .and .i64 r.uses (i64.wrap (1*2 ^ v.use.toNat))==0
theorem ac8{v:aF}(h:okV v=true)(r:bX):j3 v r=some (RK r v):=by
 have hu:0<=v.use/\v.use<6:=by simp[okV]at h;omega
 have hb:i64.bits=64:=rfl;simp[j3,RK,show(decide (0<=v.use)&&decide (v.use<=i64.bits))=true from by simp;omega]
def S8(lot:Int)(r:bX)(v:aF)(b:jm):Bool:=(dI b (mK.mk [] [] [] [] [] [] [] 0 [] [] [] [] [] 0 0 [] [] lot [] [] []) v r).getD false
theorem afy{b:jm}{s:mK}{v:aF}{r:bX}:dI b s v r=some (S8 s.cd r v b):=by
 have key:∃x,dI b (mK.mk [] [] [] [] [] [] [] 0 [] [] [] [] [] 0 0 [] [] s.cd [] [] []) v r=some x:=by simp only[dI,jF,afa,ai];refine sO (eu ⟨_,rfl⟩ (eu ⟨_,rfl⟩ (eu ⟨_,rfl⟩ ⟨_,rfl⟩))) λ_=>eu ⟨_,rfl⟩ (sO (eu (eu ⟨_,rfl⟩ (eu ⟨_,rfl⟩ ⟨_,rfl⟩)) (eu ⟨_,rfl⟩ ⟨_,rfl⟩)) λ_=>eu ⟨_,rfl⟩ ⟨_,rfl⟩)
 have e:dI b s v r=dI b (mK.mk [] [] [] [] [] [] [] 0 [] [] [] [] [] 0 0 [] [] s.cd [] [] []) v r:=rfl;obtain⟨x,hx⟩:=key;rw[e,S8,hx];rfl
theorem zL{l:List jm}{φ:(jm×Unit)->Option Bool}(p:jm->Bool)(h:∀x∈l,φ (x,())=some (p x))(hl:l.length<1099511627776)(hn:l.length<n):j4 n l φ=some (l.any p):=by have:qP n l φ=some (qW p l):=fF p h hl hn;simp[j4,this,pE]
def SR(built:List jm)(lot:Int)(r:bX)(v:aF):Bool:=built.any (S8 lot r v)
theorem adb{s:mK}{v:aF}{r:bX}(hb:s.cX.length<=1000)(hn:2000<=n):j5 n v s r=some (SR s.cX s.cd r v):=by simp[j5,rX,zL (n:=n) (l:=s.cX) (φ:=λ(y1:jm×Unit)=>dI y1.1 s v r) (S8 s.cd r v) (λ x _=>afy) (by omega) (by omega),SR]
def mC(r:bX):cu:=cu.mk r.lv r.nj r.nh r.ke r.gh
def mL(t:dX):bL:=bL.mk t.cC t.ci t.ct [] t.cM t.cP t.dt t.cQ
structure Hs(t:dX):Prop where
 lots:∀l∈t.land,A0 l
 land:t.land.length<=1000
 eas:t.cE.length<=900/\∀e∈t.cE,e.area.length<=900
 built:t.built.length<=1000
 zones:t.ct.length<=100
 caps:t.cM.length<=4000000
 rules:t.aq.length<=100
 rule:∀r∈t.aq,ahH r/\(toE (mC r)).wt<=4000000
 plan:ahT (mL t)
def L5(d:aM):Prop:=TD d/\L7 d
def F0(n:Nat):Prop:=5000003<=n/\n<=9223372036854775000
def vP(t:dX)(lot:fw):List ByteArray:=G4 t.ct lot.area
def tw(t:dX)(lot:fw)(d:aM):mK:=mK.mk t.cC t.ci t.ct t.aq t.cM t.cP t.dt t.cQ t.land t.cE t.windows t.built t.base lot.id lot.owner lot.area lot.from_ d.lot d.phases (kV d) (vP t lot)
theorem amZ{d:aM}(h:TD d)(hn:1001<=n):uj n d=some (kV d):=by obtain⟨h1,h2⟩:=h;unfold uj;have key:=J8 (step:=pJ d) (λ i=>(i,(d.phases.take i).flatMap (·.bk))) (s:=(0,[])) d.phases.length (kV d) rfl (λ i hi=>by have hl:=eW (l:=d.phases.take i) λp hp=>h2 p (List.mem_of_mem_take hp);rw[List.length_take]at hl;have hv:=h2 _ (getElem_mem hi);generalize hL:(d.phases.take i).flatMap (·.bk)=L at hl;have hap:bK L.length L.length d.phases[i].bk.length d.phases[i].bk.length 72=true:=dx (by omega) (by simp[maxLen];omega);simp only[pJ,bV hi,aj,aU hi,ai,hap,fu,aJ,aX i];rw[iL hi,List.flatMap_append,hL];simp) (by simp[pJ,kV]) n (by omega);have hz:az 0 ([]:List aF).length=true:=rfl;simp[key]
def am0(n:Nat)(t:dX)(d:aM):Bool:=(o7 n (mL t) (cZ t.land d.lot).1 d).getD false
def uX(n:Nat)(t:dX)(d:aM):Int:=bif(cZ t.land d.lot).2 then(bif am0 n t d then 0 else 1)else 4
def aql:mK:=mK.mk ([]) ([]) ([]) ([]) ([]) ([]) ([]) 0 ([]) ([]) ([]) ([]) ([]) 0 0 ([]) ([]) 0 ([]) ([]) ([])
theorem look_eq{t:dX}{d:aM}(ht:Hs t)(hd:L5 d)(hn:F0 n):Ar n t d=some (bif uX n t d==0 then tw t (cZ t.land d.lot).1 d else aql,uX n t d)/\(uX n t d=0->∀v∈kV d,okV v=true):=by
 obtain⟨hn1,hn2⟩:=hn;have hl:=ht.land;have e1:pG n t.land d.lot=some (cZ t.land d.lot):=abw ht.lots (by omega) (by omega);have hw:=QJ ht.lots d.lot;obtain⟨b,hb,hv⟩:=akA (n:=n) (p:=mL t) (lot:=(cZ t.land d.lot).1) (d:=d) ht.caps hw.1 hd.1 hd.2 (by omega);have e2:o7 n (bL.mk t.cC t.ci t.ct t.aq t.cM t.cP t.dt t.cQ) (cZ t.land d.lot).1 d=some b:=hb;have e3:Dc n (bL.mk t.cC t.ci t.ct t.aq t.cM t.cP t.dt t.cQ) (cZ t.land d.lot).1.area=some (G4 t.ct (cZ t.land d.lot).1.area):=ac0 _ _ ht.zones hw.1 (by omega);have e4:am0 n t d=b:=by unfold am0;rw[hb];rfl
 simp[Ar,e1,e2,e3,amZ hd.1 (show 1001<=n by omega),uX,e4];cases (cZ t.land d.lot).2 with
 |false=>exact⟨rfl,λh=>absurd (show (4:Int)=0 from h) (by decide)⟩
 |true=>
  cases b with
  |false=>exact⟨rfl,λh=>absurd (show (1:Int)=0 from h) (by decide)⟩
  |true=>exact⟨rfl,λ_=>hv rfl⟩
def aoZ(n:Nat)(t:dX)(lot:fw)(d:aM)(r:bX):Bool:=((jD n (mL t) lot d).bind λms=>Ay n (mL t) ms (vP t lot) (mC r)).getD 1==0
def FS(n:Nat)(t:dX)(lot:fw)(d:aM)(r:bX):Bool:=
 bif r.kind==0 then aoZ n t lot d r else bif r.kind==1 then(kV d).any (λ v=>!Ve (Vb lot.area).1 (Yb r) v)else bif r.kind==2 then(kV d).any (RK r)else bif r.kind==3 then(kV d).any (SR t.built d.lot r)else false
theorem Yc{t:dX}(ht:Hs t)(lot:fw):(vP t lot).length<=100:=Nat.le_trans (aoo _ _) ht.zones
theorem akC{t:dX}{lot:fw}{d:aM}{r:bX}(ht:Hs t)(hl:lot.area.length<=900)(hd:L5 d)(hv:∀v∈kV d,okV v=true)(hr:(toE (mC r)).wt<=4000000)(hn:F0 n):ni n (tw t lot d) r=some (FS n t lot d r):=by
 obtain⟨hn1,hn2⟩:=hn;have hvl:=J9 hd.1;have hz:=Yc ht lot;simp only[ni,gM,FS];cases (r.kind==0)with
 |true=>
  have htb:=ht.plan.tabs;obtain⟨e1,e2,e3,e4,e5,e6,e7,e8,hOf⟩:=aqj (n:=n) (p:=mL t) (lot:=lot) (d:=d) ⟨by have:=htb.1;omega,by have:=htb.1;omega,λx hx=>by have:=htb.2 x hx;omega⟩ hl hd.1 (by omega);have h1:=hOf t.aq;have h2:=hOf [];have h2':jD n (mL t) lot d=_:=h2;have h1':jD n (bL.mk t.cC t.ci t.ct t.aq t.cM t.cP t.dt t.cQ) (fw.mk lot.id lot.owner lot.area lot.from_) (aM.mk d.lot d.phases)=_:=h1;obtain⟨v,hE⟩:=aoy (n:=n) (p:=mL t) (ms:=[⟨⟨#[97,114,101,97]⟩,e1⟩,⟨⟨#[99,111,118,101,114]⟩,e2⟩,⟨⟨#[102,108,111,111,114]⟩,e3⟩,⟨⟨#[102,108,111,111,114,115]⟩,e4⟩,⟨⟨#[104,101,105,103,104,116]⟩,e5⟩,⟨⟨#[104,111,109,101,115]⟩,e6⟩,⟨⟨#[114,117,110,111,102,102]⟩,e7⟩,⟨Dn,Dm (qI lot) (fZ d)⟩,⟨⟨#[116,114,97,102,102,105,99]⟩,e8⟩]) (zs:=vP t lot) (e:=mC r) ht.plan (by simp) (by omega) hr hn1 hn2;have hE':=(ahZ (n:=n) (d:=t.cC) (ts:=t.ci) (z:=t.ct) (r:=t.aq) (r':=[]) (c:=t.cM) (v:=t.cP) (su:=t.dt) (h:=t.cQ) (zs:=vP t lot) (ms:=[⟨⟨#[97,114,101,97]⟩,e1⟩,⟨⟨#[99,111,118,101,114]⟩,e2⟩,⟨⟨#[102,108,111,111,114]⟩,e3⟩,⟨⟨#[102,108,111,111,114,115]⟩,e4⟩,⟨⟨#[104,101,105,103,104,116]⟩,e5⟩,⟨⟨#[104,111,109,101,115]⟩,e6⟩,⟨⟨#[114,117,110,111,102,102]⟩,e7⟩,⟨Dn,Dm (qI lot) (fZ d)⟩,⟨⟨#[116,114,97,102,102,105,99]⟩,e8⟩]) (e:=mC r) ht.plan.defs ht.plan.tabs (by simp) (by omega) hn1 hn2).trans hE;unfold mC at hE';simp[tw,h1',hE',aoZ,h2',hE]
 |false=>
  cases (r.kind==1)with
  |true=>
   simp only[aj,au,show(tw t lot d).k9=lot.area from rfl,show(tw t lot d).bk=kV d from rfl,ac2 (n:=n) lot.area hl (by omega),ai];rw[fO (λ v=>!Ve (Vb lot.area).1 (Yb r) v) (λ v _=>ac7 v _ r (by omega)) (by omega) (by omega)];rfl
  |false=>
   cases (r.kind==2)with
   |true=>
    simp only[aj,au,show(tw t lot d).bk=kV d from rfl];rw[fO (RK r) (λ v hm=>ac8 (hv v hm) r) (by omega) (by omega)];rfl
   |false=>
    cases (r.kind==3)with
    |true=>
     simp only[aj,au,show(tw t lot d).bk=kV d from rfl];rw[fO (SR t.built d.lot r) (λ v _=>adb (s:=tw t lot d) ht.built (by omega)) (by omega) (by omega)];rfl
    |false=>rfl
def addN(out:List ByteArray)(name:ByteArray)(bad:Bool):List ByteArray:=bif bad&&!(out.any (eb name))then out++[name]else out
theorem Yd out (name:ByteArray) bad:(addN out name bad).length<=out.length+1:=by unfold addN;cases (bad&&!(out.any (eb name)))<;>simp
theorem afz{name:ByteArray}{bad:Bool}{out:List ByteArray}(hl:out.length<=1000)(hn:2000<=n):jK n name bad out=some (addN out name bad):=by
 have hmx:maxLen=9223372036854775807:=rfl;have hap:bK out.length out.length (sub [name] 0 1).length 1 16=true:=by simp[bK,sub];omega
 simp[jK,kS (n:=n) (l:=out) (a:=name) (by omega) (by omega),addN,hap];cases bad with
 |false=>rfl
 |true=>cases (out.any (eb name))<;>rfl
def RE(t:dX)(d:aM):Bool:=(kV d).any λv=>!Nm t.cE d.lot (vO v)
def abz:ByteArray:=⟨#[101,97,115,101,109,101,110,116]⟩
def Fe(n:Nat)(t:dX)(lot:fw)(d:aM)(l:List bX):List ByteArray:=l.foldl (λ out r=>addN out r.name (FS n t lot d r)) []
theorem BB(f:bX->Bool):∀(l:List bX) out,(l.foldl (λ out r=>addN out r.name (f r)) out).length<=out.length+l.length
 |[],out=>by simp
 |r::l,out=>by have h1:=BB f l (addN out r.name (f r));have h2:=Yd out r.name (f r);rw[foldl_cons,fq];omega
def applied(t:dX)(lot:fw)(day:Int):List bX:=t.aq.filter (ru (vP t lot) day)
def qQ(t:dX)(d:aM):fw:=(cZ t.land d.lot).1
def iZ(n:Nat)(t:dX)(d:aM)(day:Int):List ByteArray:=bif uX n t d==0 then addN (Fe n t (qQ t d) d (applied t (qQ t d) day)) abz (RE t d)else []
theorem abA{t:dX}{d:aM} day (ht:Hs t) (hd:L5 d) (hn:F0 n):rf n t d day=some (iZ n t d day,uX n t d):=by
 obtain⟨hk,hv⟩:=look_eq (n:=n) ht hd hn;have hn1:=hn.1;have hvl:=J9 hd.1;simp[rf,hk,iZ];by_cases h0:uX n t d=0;have ZS:(uX n t d==0)=true:=by simp[h0]
 have ZD:(uX n t d !=0)=false:=by simp[h0]
 have hw:=QJ ht.lots d.lot;have hz:=Yc ht (qQ t d);have hA:uo n (bL.mk t.cC t.ci t.ct t.aq t.cM t.cP t.dt t.cQ) (vP t (qQ t d)) day=some ((QI t.aq (vP t (qQ t d)) day).map λ(i:Nat)=>(i:Int)):=Tz _ _ _ (λ r hr=>(ht.rule r hr).1) ht.rules hz (by omega);have hal:(QI t.aq (vP t (qQ t d)) day).length<=100:=Nat.le_trans (List.length_filter_le _ _) (by rw[List.length_range];exact ht.rules);have hpick:(QI t.aq (vP t (qQ t d)) day).filterMap (λ i=>t.aq[i]?)=applied t (qQ t d) day:=SK (ru (vP t (qQ t d)) day) t.aq;have hloop:∀A:List Nat,A.length<=100->(∀ i∈A,i<t.aq.length)->iter (nI n t (tw t (qQ t d) d,uX n t d) (A.map λ(i:Nat)=>i)) n (0,[])=some (Fe n t (qQ t d) d (A.filterMap λi=>t.aq[i]?)):=by
  intro A hA hAr
  have key:=eF (l:=A) (step:=nI n t (tw t (qQ t d) d,uX n t d) (A.map λ(i:Nat)=>i)) (λ i s=>(i,s)) (λ i s=>match t.aq[i]? with
   |some r=>addN s r.name (FS n t (qQ t d) d r)
   |none=>s) (λ s=>s) (λ i s=>s.length<=i) (λ i hi s hs=>by have hr:=hAr _ (getElem_mem hi);have hlm:(A.map λ(i:Nat)=>(i:Int)).length=A.length:=(by simp);have hg:bj (A.map λ(i:Nat)=>(i:Int)) ((0:Nat)+i)=some ((A[i]:Nat):Int):=(by rw[bH (by omega)];simp);have hrr:=ht.rule _ (getElem_mem hr);have hb:=akC (n:=n) (t:=t) (lot:=qQ t d) (d:=d) ht hw.1 hd (hv h0) hrr.2 hn;have e:=dm hr;simp only[nI,hlm,bV hi,aj,bA hi,hg,ai,aU hr,hb,aJ,afz (n:=n) (name:=t.aq[A[i]].name) (bad:=FS n t (qQ t d) d t.aq[A[i]]) (out:=s) (by omega) (by omega),aX i,e];exact⟨trivial,Nat.le_trans (Yd _ _ _) (by omega)⟩) (λ s _=>by have hlm:(A.map λ(i:Nat)=>i).length=A.length:=(by simp);simp[nI]) n (by omega) [] (aB _)
  rw[ip]at key;rw[key];congr 1;unfold Fe;generalize []=s0;clear key hA
  induction A generalizing s0 with
  |nil=>rfl
  |cons a A ih=>
   have ha:=hAr a (by simp);rw[foldl_cons,List.filterMap_cons];simp only[dm ha];rw[foldl_cons];exact ih (λ i hi=>hAr i (by simp[hi])) _
 have hlo:=hloop (QI t.aq (vP t (qQ t d)) day) hal (λ i hi=>by have:=(mem_filter.1 hi).1;simpa using this);rw[hpick]at hlo;have hrl:(Fe n t (qQ t d) d (applied t (qQ t d) day)).length<=100:=by have h1:=BB (FS n t (qQ t d) d) (applied t (qQ t d) day) [];have h2:(applied t (qQ t d) day).length<=100:=Nat.le_trans (List.length_filter_le _ _) ht.rules;unfold Fe;simp at h1;omega
 have hany:gM n (tw t (qQ t d) d) (λ (y1:aF×Unit)=>nH n y1.1 t d)=some (RE t d):=by
  have hs:∀v,nH n v t d=some (!Nm t.cE d.lot (vO v)):=by intro v;have hl1:(vO v).length=1:=rfl;have h:=ZH (n:=n) (l:=t.cE) (lot:=d.lot) (s:=vO v) ht.eas.1 ht.eas.2 (by simp[vO]) (by omega);simp[nH,afx,h]
  simp[gM,show(tw t (qQ t d) d).bk=kV d from rfl];rw[fO (λ v=>!Nm t.cE d.lot (vO v)) (λ v _=>hs v) (by omega) (by omega)];rfl
 have hsc:tw t (cZ t.land d.lot).1 d=tw t (qQ t d) d:=rfl;simp only[ZS,ZD,aj,au,hsc,show(tw t (qQ t d) d).zones=vP t (qQ t d)from rfl,hA,ai,length_nil,aJ,hlo,hany,afz (n:=n) (name:=⟨#[101,97,115,101,109,101,110,116]⟩) (bad:=RE t d) (out:=Fe n t (qQ t d) d (applied t (qQ t d) day)) (by omega) (by omega),eU];rw[h0];rfl;have ZS:(uX n t d==0)=false:=by simpa using h0
 have ZD:(uX n t d !=0)=true:=by simpa using h0
 simp[ZS,ZD]
theorem Vf{α:Type}{l:List α}{K n:Nat}{step:Int->Option (Int⊕(Unit⊕Bool))}{good:α->Prop}(h1:∀i (hi:i<l.length),i<K->step i=some (.inr (.inr false))\/(step i=some (.inl (i+1:Nat))/\good l[i]))
 (h2:∀i:Nat,(¬ i<l.length\/¬i<K)->step i=some (.inr (.inl ()))) (hn:K+1<n):iter step n 0=some (.inr false)\/(iter step n 0=some (.inl ())/\(l.length<=K->∀x∈l,good x)):=by obtain⟨o,g1,g2⟩:=eT (step:=step) (λ i v=>v=i/\i<=l.length/\i<=K/\∀x∈l.take i,good x) (λ o=>o= .inr false\/(o= .inl ()/\(l.length<=K->∀x∈l,good x))) K (λ k v h=>h.2.2.1) (by rintro i v ⟨rfl,hi,hK,hall⟩;by_cases hlt:i<l.length/\i<K;rcases h1 i hlt.1 hlt.2 with h |⟨h,hg⟩;exact .inr ⟨_,h,.inl rfl⟩;refine .inl ⟨_,h,rfl,hlt.1,hlt.2,λx hx=>?_⟩;rw[List.take_add_one,dm hlt.1,bM]at hx;rcases hx with hx |hx;exact hall x hx;simp at hx;subst hx;exact hg;refine .inr ⟨_,h2 i (by omega),.inr ⟨rfl,λhl x hx=>hall x ?_⟩⟩;rw[List.take_of_length_le (by omega)];exact hx) n 0 0 ⟨rfl,Nat.zero_le _,Nat.zero_le _,by simp⟩ (by omega);rcases g2 with rfl |⟨rfl,g2⟩;exact .inl g1;exact .inr ⟨g1,g2⟩
def WtR(l:List bX):Prop:=∀r∈l,(toE (mC r)).wt<=4000000
structure ao0(t:dX):Prop where
 defs:ik t.cC
 rules:WtR t.aq
 AH:∀l∈t.land,l.from_.length*8<=140737488355328
structure aqX(t:dX)(d:aM):Prop where
 town:Hs t
 draw:L5 d
 built:t.built.length<=8
 rules:t.aq.length<=6
 zones:∀z∈t.ct,z.corners.length<=12
 caps:∀c∈t.cM,c.corners.length<=12/\t.cM.length<=3
theorem am1(a b:ByteArray):eb a b=eb b a:=by simp[eb];rw[eH,beq_iff_eq,beq_iff_eq];exact⟨Eq.symm,Eq.symm⟩
theorem am2(a:ByteArray):eb a a=true:=by simp[eb]
theorem aqm:F0 5000003:=⟨aB _,by omega⟩
section
variable {R S:Nat->Nat->Prop}
inductive vy(R:Nat->Nat->Prop):Nat->Prop
 |mk (m:Nat) (f:Nat->Nat) (h:∀j,R j m->vy R (f j)) (h2:∀j,R j m->R (f j) j):vy R m
theorem apH{m:Nat}(h:∀j,R j m->∃k,vy R k/\R k j):vy R m:=by
 classical
 refine .mk m (λ j=>if hj:R j m then(h j hj).choose else 0) (λ j hj=>?_) (λ j hj=>?_);simp only[hj,dite_true];exact(h j hj).choose_spec.1;simp only[hj,dite_true];exact(h j hj).choose_spec.2
theorem aoz{P:Nat->Prop}(h:∀m,(∀ j,R j m->∃k,vy R k/\P k/\R k j)->P m){m:Nat}(hm:vy R m):P m:=by
 induction hm with
 |mk m f h1 h2 ih=>exact h m λj hj=>⟨f j,h1 j hj,ih j hj,h2 j hj⟩
end
def atk(B:List (List Nat))(j m:Nat):Prop:=j<B.length/\m∈B.getD j []
def p7(B:List (List Nat))(m:Nat):List Nat:=(List.range B.length).filter λj=>(B.getD j []).contains m
theorem Ka{B:List (List Nat)}{j m:Nat}:j∈p7 B m↔atk B j m:=by simp[p7,atk]
theorem akD(B:List (List Nat))(m:Nat):(p7 B m).Nodup:=List.nodup_range.filter _
theorem QM{L:List Int}{k:Nat}(hk:k<L.length)(i:Nat)(v:Int):(L.set k v).getD i 0=if i=k then v else L.getD i 0:=by
 by_cases h:i=k
 ·subst h;simp[hk]
 ·simp[List.getElem?_set_ne (Ne.symm h),h]
theorem Ye(p:Nat->Bool)(k:Nat):∀{l:List Nat},l.Nodup->l.countP p=l.countP (λ j=>p j&&j !=k)+(bif l.contains k&&p k then 1 else 0)
 |[],_=>rfl
 |x::l,h=>by
  have ih:=Ye p k (List.nodup_cons.1 h).2;have hx:=(List.nodup_cons.1 h).1;simp only[List.countP_cons,List.contains_cons];by_cases e:x=k
  ·subst e;have:l.contains x=false:=(by simpa using hx);rw[this]at ih;simp only[au,Bool.false_and]at ih;rw[ih];cases p x<;>simp
  ·have e1:(k==x)=false:=(by simpa using Ne.symm e);have e2:(x !=k)=true:=(by simpa using e);rw[ih,e1,e2];cases p x<;>simp<;>omega
theorem abB{p q:Nat->Bool}:∀{l:List Nat},(∀ x∈l,q x=true->p x=true)->∀{y:Nat},y∈l->p y=true->q y=false->l.countP q<l.countP p
 |[],_,_,hy,_,_=>by cases hy
 |x::l,h,y,hy,h1,h2=>by
  simp only[List.countP_cons];have hle:l.countP q<=l.countP p:=List.countP_mono_left λx hx=>h x (dS _ hx);rcases aH.1 hy with rfl |hy
  ·rw[h1,h2];simp;omega
  ·have:=abB (λ x hx=>h x (dS _ hx)) hy h1 h2;have:=h x (by simp);cases hq:q x with
   |true=>rw[this hq];simp;omega
   |false=>simp;omega
def xn(v:Int)(s:List Int×List Int)(k:Nat):List Int×List Int:=(s.1.set k 1,s.2.set k v)
def vh(v:Int)(s:List Int×List Int×List Nat)(k:Nat):List Int×List Int×List Nat:=bif s.1.getD k 0==0 then(s.1.set k 2,s.2.1.set k v,s.2.2++[k])else s
def s8(lab:List Int)(s:List Int×List Nat)(k:Nat):List Int×List Nat:=(s.1.set k (s.1.getD k 0 -1),bif(s.1.getD k 0 -1==0)&&(lab.getD k 0==0)then s.2++[k]else s.2)
theorem afA(v:Int):∀(W:List Nat)(s:List Int×List Int),(∀ k∈W,k<s.1.length)->(W.foldl (xn v) s).1.length=s.1.length/\(W.foldl (xn v) s).2.length=s.2.length/\∀i,(W.foldl (xn v) s).1.getD i 0=if i∈W then 1 else s.1.getD i 0
 |[],s,_=>by simp
 |k::W,s,h=>by obtain⟨h1,h2,h3⟩:=afA v W (xn v s k) (λ j hj=>by simpa[xn]using h j (by simp[hj]));refine⟨by simpa[xn]using h1,by simpa[xn]using h2,λi=>?_⟩;rw[foldl_cons,h3 i];simp only[xn];rw[QM (h k (by simp))];by_cases e1:i∈W<;>by_cases e2:i=k<;>simp[e1,e2]
theorem Yf(v:Int):∀(T:List Nat)(s:List Int×List Int×List Nat),(∀ k∈T,k<s.1.length)->s.2.2.Nodup->(∀ i∈s.2.2,s.1.getD i 0≠0)->
 (T.foldl (vh v) s).1.length=s.1.length/\(T.foldl (vh v) s).2.1.length=s.2.1.length/\(∀ i,(T.foldl (vh v) s).1.getD i 0=if s.1.getD i 0=0/\i∈T then 2 else s.1.getD i 0)/\
 (T.foldl (vh v) s).2.2.Nodup/\(∀ i,i∈(T.foldl (vh v) s).2.2↔i∈s.2.2\/(s.1.getD i 0=0/\i∈T))
 |[],s,_,hn,_=>by simp[hn]
 |k::T,s,h,hn,ho=>by
  have hk:=h k (by simp);by_cases e:s.1.getD k 0=0
  ·have es:vh v s k=(s.1.set k 2,s.2.1.set k v,s.2.2++[k]):=(by unfold vh;rw[e];rfl);have hg:=QM hk (v:=2);have hko:k∉s.2.2:=λhm=>ho k hm e
   obtain⟨h1,h2,h3,h4,h5⟩:=Yf v T (vh v s k) (λ j hj=>by rw[es];simpa using h j (by simp[hj]))
    (by rw[es];simp only;rw[List.nodup_append];exact⟨hn,by simp,λa ha c hc=>by simp at hc;subst hc;exact λe=>hko (e ▸ ha)⟩)
    (λ i hi=>by
     rw[es]at hi ⊢;simp only at hi ⊢;rw[hg];by_cases e2:i=k
     ·simp[e2]
     ·simp only[e2,if_false];rw[bM]at hi;rcases hi with hi |hi
      ·exact ho i hi
      ·simp at hi;exact absurd hi e2)
   rw[foldl_cons];rw[es]at h1 h2 h3 h5 ⊢;rw[es]at h4;refine⟨by simpa using h1,by simpa using h2,λi=>?_,h4,λi=>?_⟩
   ·rw[h3 i];simp only;rw[hg];by_cases e2:i=k
    ·subst e2;rw[aS rfl,aR (by simp),aS ⟨e,by simp⟩]
    ·simp[e2]
   ·rw[h5 i];simp only;rw[hg,bM];by_cases e2:i=k
    ·subst e2;exact⟨λ _=> .inr ⟨e,by simp⟩,λ_=> .inl (.inr (by simp))⟩
    ·simp[e2]
  ·have es:vh v s k=s:=(by unfold vh;rw[show (s.1.getD k 0==0)=false by simpa using e];rfl);obtain⟨h1,h2,h3,h4,h5⟩:=Yf v T s (λ j hj=>h j (by simp[hj])) hn ho;rw[foldl_cons,es];refine⟨h1,h2,λi=>?_,h4,λi=>?_⟩
   ·rw[h3 i];by_cases e2:i=k
    ·subst e2;rw[aR (λ h=>e h.1),aR (λ h=>e h.1)]
    ·simp[e2]
   ·rw[h5 i];by_cases e2:i=k
    ·subst e2;exact⟨λ h=>h.elim .inl λh=>absurd h.1 e,λh=>h.elim .inl λh=>absurd h.1 e⟩
    ·simp[e2]
theorem afB(lab:List Int):∀(T:List Nat)(s:List Int×List Nat),(∀ k∈T,k<s.1.length)->T.Nodup->
 (T.foldl (s8 lab) s).1.length=s.1.length/\(∀ i,(T.foldl (s8 lab) s).1.getD i 0=if i∈T then s.1.getD i 0 -1 else s.1.getD i 0)/\
 (T.foldl (s8 lab) s).2=s.2++T.filter λm=>(s.1.getD m 0 -1==0)&&(lab.getD m 0==0)
 |[],s,_,_=>by simp
 |k::T,s,h,hn=>by
  have hk:=h k (by simp);have hkT:=(List.nodup_cons.1 hn).1;obtain⟨h1,h2,h3⟩:=afB lab T (s8 lab s k) (λ j hj=>by simpa[s8]using h j (by simp[hj])) (List.nodup_cons.1 hn).2;rw[foldl_cons];have hg:=QM hk (v:=s.1.getD k 0 -1);refine⟨by simpa[s8]using h1,λi=>?_,?_⟩
  ·rw[h2 i];simp only[s8];rw[hg];by_cases e2:i=k
   ·subst e2;simp[hkT]
   ·simp[e2]
  ·rw[h3];have hf:(T.filter λm=>((s8 lab s k).1.getD m 0 -1==0)&&(lab.getD m 0==0))=T.filter λm=>(s.1.getD m 0 -1==0)&&(lab.getD m 0==0):=(by refine List.filter_congr λm hm=>?_;simp only[s8];rw[hg,aR (λ (e:m=k)=>hkT (e ▸ hm))]);rw[hf,List.filter_cons];simp only[s8];cases (s.1.getD k 0 -1==0)&&(lab.getD k 0==0)<;>simp
theorem afC{B:List (List Nat)}{lab:List Int}(hB:∀k,(B.getD k []).Nodup/\∀m∈B.getD k [],m<B.length)(p0:Nat->Bool):∀(O:List Nat)(p:Nat->Bool)(s:List Int×List Nat),O.Nodup->(∀ k∈O,k<B.length/\p k=true)->s.1.length=B.length->
 (∀ m,m<B.length->s.1.getD m 0=((p7 B m).countP p:Int))->s.2.Nodup->(∀ m,m∈s.2↔m<B.length/\lab.getD m 0=0/\(p7 B m).countP p=0/\(p7 B m).countP p0≠0)->(∀ m,(p7 B m).countP p<=(p7 B m).countP p0)->
 (O.foldl (λ s k=>(B.getD k []).foldl (s8 lab) s) s).1.length=B.length/\(∀ m,m<B.length->(O.foldl (λ s k=>(B.getD k []).foldl (s8 lab) s) s).1.getD m 0=((p7 B m).countP (λ j=>p j&&!O.contains j):Int))/\
 (O.foldl (λ s k=>(B.getD k []).foldl (s8 lab) s) s).2.Nodup/\∀m,m∈(O.foldl (λ s k=>(B.getD k []).foldl (s8 lab) s) s).2↔m<B.length/\lab.getD m 0=0/\(p7 B m).countP (λ j=>p j&&!O.contains j)=0/\(p7 B m).countP p0≠0
 |[],p,s,_,_,h1,h2,h3,h4,_=>by
  have e:(λ j=>p j&&!([]:List Nat).contains j)=p:=by funext j;simp
  rw[e];exact⟨h1,h2,h3,h4⟩
 |k::O,p,s,hn,ho,h1,h2,h3,h4,h5=>by
  obtain⟨hk,hp⟩:=ho k (by simp);obtain⟨hkO,hnO⟩:=List.nodup_cons.1 hn;have⟨n1,b1⟩:=hB k;obtain⟨g1,g2,g3⟩:=afB lab (B.getD k []) s (λ m hm=>by rw[h1];exact b1 m hm) n1;have hc:∀m,(p7 B m).countP p=(p7 B m).countP (λ j=>p j&&j !=k)+if m∈B.getD k []then 1 else 0:=λm=>by rw[Ye p k (akD B m),hp,Bool.and_true];have:(p7 B m).contains k=decide (m∈B.getD k []):=(by rw[eH,List.contains_iff_mem,Ka];simp[atk,hk]);rw[this];by_cases e:m∈B.getD k []<;>simp only[e,decide_true,decide_false,aj,au,if_true,if_false]
  have e:(λ j=>(p j&&j !=k)&&!O.contains j)=λj=>p j&&!(k::O).contains j:=by funext j;simp only[List.contains_cons,Bool.and_assoc,bne,Bool.not_or]
  have:=afC (lab:=lab) hB p0 O (λ j=>p j&&j !=k) ((B.getD k []).foldl (s8 lab) s) hnO (λ j hj=>by
   obtain⟨a,b⟩:=ho j (by simp[hj]);have:j≠k:=λe=>hkO (e ▸ hj);exact⟨a,by simp[b,this]⟩) (by rw[g1,h1])
   (λ m hm=>by
    rw[g2 m,h2 m hm,hc m];by_cases e:m∈B.getD k []
    ·rw[aS e,aS e];omega
    ·rw[aR e,aR e];omega)
   (by rw[g3,List.nodup_append];refine⟨h3,n1.filter _,λa ha c hc'=>?_⟩;rw[mem_filter]at hc';have:=(h4 a).1 ha;intro e;subst e;have:=hc a;rw[aS hc'.1]at this;omega)
   (λ m=>by
    have hm:=hc m;have hm5:=h5 m;rw[g3,bM,h4 m,mem_filter];by_cases e:m∈B.getD k []
    ·have hb:=b1 m e;have:=h2 m hb;rw[aS e]at hm;simp only[e,true_and,aY,beq_iff_eq,hb];constructor
     ·rintro (h |h)
      ·omega
      ·exact⟨h.2,by omega,by omega⟩
     ·rintro⟨a,b,c⟩;exact .inr ⟨by omega,a⟩
    ·rw[aR e]at hm;simp only[e,false_and,or_false];rw[show (p7 B m).countP (λ j=>p j&&j !=k)=(p7 B m).countP p by omega])
   (λ m=>by have:=hc m;have:=h5 m;omega)
  rw[e]at this;exact this
structure GI(B:List (List Nat))(L left:List Int)(W:List Nat):Prop where
 ll:L.length=B.length
 lf:left.length=B.length
 wn:W.Nodup
 wb:∀m∈W,m<B.length
 wo:∀m∈W,L.getD m 0=0/\left.getD m 0=0
 wv:∀m,m<B.length->left.getD m 0=0->L.getD m 0=1\/m∈W
 cn:∀m,m<B.length->left.getD m 0=((p7 B m).countP (λ j=>L.getD j 0 !=2):Int)
 lo:∀j,j<B.length->(L.getD j 0=2↔∃k,L.getD k 0=1/\atk B k j)
 li:∀i,i<B.length->L.getD i 0=1->vy (atk B) i/\left.getD i 0=0
 l3:∀i,L.getD i 0=0\/L.getD i 0=1\/L.getD i 0=2
theorem foldl_flat{α β σ:Type}(f:σ->β->σ)(g:α->List β):∀(l:List α)(s:σ),l.foldl (λ s x=>(g x).foldl f s) s=(l.flatMap g).foldl f s
 |[],_=>rfl
 |x::l,s=>by rw[foldl_cons,foldl_flat f g l,List.flatMap_cons,List.foldl_append]
theorem GI.round{B:List (List Nat)}{L left R:List Int}{W:List Nat}(hB:∀k,(B.getD k []).Nodup/\∀m∈B.getD k [],m<B.length)(h:GI B L left W)(hR:R.length=B.length)(u v:Int):
 ∃L1 R1 L2 R2 O left' X,W.foldl (xn u) (L,R)=(L1,R1)/\W.foldl (λ s k=>(B.getD k []).foldl (vh v) s) (L1,R1,[])=(L2,R2,O)/\O.foldl (λ s k=>(B.getD k []).foldl (s8 L2) s) (left,[])=(left',X)/\
  R2.length=B.length/\O.Nodup/\(∀ k∈O,k<B.length)/\GI B L2 left' X/\(W≠[]->(List.range B.length).countP (λ i=>L2.getD i 0==0)<(List.range B.length).countP (λ i=>L.getD i 0==0)):=by
 have z:∀m,m<B.length->∀j,left.getD m 0=0->atk B j m->L.getD j 0=2:=λm hm j h0 hj=>by
  have h1:=h.cn m hm;rw[h0]at h1;have h2:(p7 B m).countP (λ j=>L.getD j 0 !=2)=0:=by omega
  rw[List.countP_eq_zero]at h2;simpa using h2 j (Ka.2 hj)
 obtain⟨a1,a2,a3⟩:=afA u W (L,R) (λ k hk=>by rw[h.ll];exact h.wb k hk);rcases hs1:W.foldl (xn u) (L,R)with ⟨L1,R1⟩;rw[hs1]at a1 a2 a3;simp only at a1 a2 a3;have hT:∀k,k∈W.flatMap (λ k=>B.getD k [])↔∃j∈W,atk B j k:=λk=>by rw[List.mem_flatMap];exact⟨λ ⟨j,h1,h2⟩=>⟨j,h1,h.wb j h1,h2⟩,λ⟨j,h1,h2⟩=>⟨j,h1,h2.2⟩⟩
 obtain⟨b1,b2,b3,b4,b5⟩:=Yf v (W.flatMap λk=>B.getD k []) (L1,R1,[]) (λ k hk=>by obtain⟨j,_,_,h2⟩:=(hT k).1 hk;simp only;rw[a1,h.ll];exact(hB j).2 k h2) List.nodup_nil (λ i hi=>by cases hi);rcases hs2:(W.flatMap λk=>B.getD k []).foldl (vh v) (L1,R1,[])with ⟨L2,R2,O⟩;rw[hs2]at b1 b2 b3 b4 b5;simp only[bn,false_or]at b1 b2 b3 b4 b5;have hO:∀k∈O,k<B.length:=λk hk=>by have⟨j,_,_,h2⟩:=(hT k).1 ((b5 k).1 hk).2;exact(hB j).2 k h2
 have hL1:∀j,(L1.getD j 0=1↔j∈W\/L.getD j 0=1)/\(L1.getD j 0=2↔L.getD j 0=2)/\(L1.getD j 0=0↔j∉W/\L.getD j 0=0):=λj=>by
  rw[a3 j];by_cases e:j∈W
  ·have:=(h.wo j e).1;rw[aS e];refine⟨⟨λ _=> .inl e,λ_=>rfl⟩,⟨λ h=>absurd h (by decide),λh=>by omega⟩,⟨λ h=>absurd h (by decide),λh=>absurd e h.1⟩⟩
  ·rw[aR e];simp only[e,false_or,not_false_eq_true,true_and,and_self]
 have hL2:∀j,(L2.getD j 0=1↔L1.getD j 0=1)/\(L2.getD j 0=2↔L1.getD j 0=2\/j∈O):=λj=>by
  rw[b3 j,b5 j];by_cases e:L1.getD j 0=0/\j∈W.flatMap (λ k=>B.getD k [])
  ·rw[aS e];exact⟨⟨λ h=>absurd h (by decide),λh=>by omega⟩,⟨λ _=> .inr e,λ_=>rfl⟩⟩
  ·rw[aR e];exact⟨Iff.rfl,⟨.inl,λh=>h.elim id λh=>absurd h e⟩⟩
 have hp:∀m,(p7 B m).countP (λ j=>L1.getD j 0 !=2)=(p7 B m).countP (λ j=>L.getD j 0 !=2):=λm=>List.countP_congr λj _=>by have:=(hL1 j).2.1;rw[bne_iff_ne,bne_iff_ne,Ne,Ne,this]
 obtain⟨c1,c2,c3,c4⟩:=afC (lab:=L2) hB (λ j=>L1.getD j 0 !=2) O (λ j=>L1.getD j 0 !=2) (left,[]) b4 (λ k hk=>⟨hO k hk,by
  have:=((b5 k).1 hk).1;rw[bne_iff_ne,this];decide⟩) h.lf (λ m hm=>by rw[hp m];exact h.cn m hm) List.nodup_nil
  (λ m=>⟨λ h=>absurd h (by simp),λh=>absurd h.2.2.1 h.2.2.2⟩) (λ m=>aB _)
 rcases hs3:O.foldl (λ s k=>(B.getD k []).foldl (s8 L2) s) (left,[])with ⟨left',X⟩;rw[hs3]at c1 c2 c3 c4;simp only at c1 c2 c3 c4;have hq:(λ j=>(L1.getD j 0 !=2)&&!O.contains j)=λj=>L2.getD j 0 !=2:=by funext j;have:=(hL2 j).2;rw[eH,aY,bne_iff_ne,bne_iff_ne,Ne,Ne,this,Bool.not_eq_true',<- Bool.not_eq_true,List.contains_iff_mem,not_or]
 rw[hq]at c2 c4;have lo':∀j,j<B.length->(L2.getD j 0=2↔∃k,L2.getD k 0=1/\atk B k j):=λj hj=>by
  rw[(hL2 j).2,(hL1 j).2.1];constructor
  ·rintro (h1 |h1)
   ·have⟨k,h2,h3⟩:=(h.lo j hj).1 h1;exact⟨k,(hL2 k).1.2 ((hL1 k).1.2 (.inr h2)),h3⟩
   ·have⟨k,h2,h3⟩:=(hT j).1 ((b5 j).1 h1).2;exact⟨k,(hL2 k).1.2 ((hL1 k).1.2 (.inl h2)),h3⟩
  ·rintro⟨k,h1,h2⟩;rcases (hL1 k).1.1 ((hL2 k).1.1 h1)with h3 |h3
   ·have hk0:=(h.wo k h3).1;have no:left.getD j 0≠0:=λh0=>(by have:=z j hj k h0 h2;omega);have n1:L.getD j 0≠1:=λh1=>no (h.li j hj h1).2;have nW:j∉W:=λhw=>no (h.wo j hw).2;rcases h.l3 j with e |e |e
    ·exact .inr ((b5 j).2 ⟨(hL1 j).2.2.2 ⟨nW,e⟩,(hT j).2 ⟨k,h3,h2⟩⟩)
    ·exact absurd e n1
    ·exact .inl e
   ·exact .inl ((h.lo j hj).2 ⟨k,h3,h2⟩)
 have no2:∀m,m<B.length->left'.getD m 0=0->L2.getD m 0≠2:=λm hm h0 h1=>by
  have⟨k,h2,h3⟩:=(lo' m hm).1 h1;have h4:=c2 m hm;rw[h0]at h4;have h5:(p7 B m).countP (λ j=>L2.getD j 0 !=2)=0:=by omega
  rw[List.countP_eq_zero]at h5;have:=h5 k (Ka.2 h3);rw[h2]at this;exact this rfl
 have keep:∀m,m<B.length->left.getD m 0=0->left'.getD m 0=0:=λm hm h0=>by rw[c2 m hm,show(p7 B m).countP (λ j=>L2.getD j 0 !=2)=0 by rw[List.countP_eq_zero];intro j hj;have:=z m hm j h0 (Ka.1 hj);rw[(hL2 j).2.2 (.inl ((hL1 j).2.1.2 this))];decide];rfl
 refine⟨L1,R1,L2,R2,O,left',X,rfl,(foldl_flat (vh v) (λ k=>B.getD k []) W (L1,R1,[])).trans hs2,hs3,by rw[b2,a2];exact hR,b4,hO,⟨by rw[b1,a1];exact h.ll,c1,c3,λm hm=>((c4 m).1 hm).1,λm hm=>?_,λm hm h0=>?_,c2,lo',λi hi h1=>?_,λi=>?_⟩,λhW=>?_⟩
 ·have⟨d1,d2,d3,_⟩:=(c4 m).1 hm;exact⟨d2,by rw[c2 m d1,d3];rfl⟩
 ·by_cases e:left.getD m 0=0
  ·refine .inl ((hL2 m).1.2 ((hL1 m).1.2 ?_));exact(h.wv m hm e).symm
  ·have h2:=no2 m hm h0;have:=b3 m;rcases h.l3 m with e2 |e2 |e2
   ·by_cases ew:m∈W
    ·exact absurd (h.wo m ew).2 e
    ·refine .inr ((c4 m).2 ⟨hm,?_,?_,?_⟩)
     ·have e3:=(hL1 m).2.2.2 ⟨ew,e2⟩;rw[this,e3]at h2 ⊢;by_cases e4:m∈W.flatMap (λ k=>B.getD k [])
      ·rw[aS ⟨rfl,e4⟩]at h2;exact absurd rfl h2
      ·rw[aR (λ h=>e4 h.2)]
     ·have:=c2 m hm;rw[h0]at this;omega
     ·have h6:=h.cn m hm;rw[hp m];intro h7;rw[h7]at h6;exact e h6
   ·exact absurd (h.li m hm e2).2 e
   ·exact absurd ((hL2 m).2.2 (.inl ((hL1 m).2.1.2 e2))) h2
 ·have h2:=(hL1 i).1.1 ((hL2 i).1.1 h1);have h3:left.getD i 0=0:=h2.elim (λ h3=>(h.wo i h3).2) λh3=>(h.li i hi h3).2;refine⟨h2.elim (λ hw=>apH λj hj=>?_) λh3=>(h.li i hi h3).1,keep i hi h3⟩;have⟨k,h4,h5⟩:=(h.lo j hj.1).1 (z i hi j h3 hj);by_cases hk:k<B.length
  ·exact⟨k,(h.li k hk h4).1,h5⟩
  ·exact absurd h5.1 hk
 ·rw[b3 i];split
  ·exact .inr (.inr rfl)
  ·rw[a3 i];split
   ·exact .inr (.inl rfl)
   ·exact h.l3 i
 ·obtain⟨w,hw⟩:=List.exists_mem_of_ne_nil W hW;refine abB (λ i _ hi=>?_) (List.mem_range.2 (h.wb w hw)) (by rw[(h.wo w hw).1];rfl) ?_
  ·have hi:L2.getD i 0=0:=(by simpa using hi);rcases h.l3 i with e |e |e
   ·rw[e];rfl
   ·have:=(hL2 i).1.2 ((hL1 i).1.2 (.inr e));omega
   ·have:=(hL2 i).2.2 (.inl ((hL1 i).2.1.2 e));omega
  ·rw[(hL2 w).1.2 ((hL1 w).1.2 (.inl hw))];rfl
def aqN(B:List (List Nat))(L:List Int):Prop:=L.length=B.length/\∀i,i<B.length->(L.getD i 0=1↔vy (atk B) i)/\(L.getD i 0=2↔∃k,vy (atk B) k/\atk B k i)/\(L.getD i 0=0\/L.getD i 0=1\/L.getD i 0=2)
theorem GI.fin{B:List (List Nat)}{L left:List Int}(h:GI B L left []):aqN B L:=by
 have key:∀i,i<B.length->vy (atk B) i->L.getD i 0=1:=λi hi hg=>by
  refine aoz (P:=λi=>i<B.length->L.getD i 0=1) (λ m ih hm=>?_) hg hi;refine(h.wv m hm ?_).elim id λh=>by cases h
  rw[h.cn m hm,show(p7 B m).countP (λ j=>L.getD j 0 !=2)=0 by rw[List.countP_eq_zero];intro j hj;have⟨k,_,h2,h3⟩:=ih j (Ka.1 hj);rw[(h.lo j (Ka.1 hj).1).2 ⟨k,h2 h3.1,h3⟩];decide];rfl
 refine⟨h.ll,λi hi=>⟨⟨λ h1=>(h.li i hi h1).1,key i hi⟩,?_,h.l3 i⟩⟩;rw[h.lo i hi];exact⟨λ ⟨k,h1,h2⟩=>⟨k,(h.li k h2.1 h1).1,h2⟩,λ⟨k,h1,h2⟩=>⟨k,key k h2.1 h1,h2⟩⟩
def Yg(N:Int):Int->List Int->Bool
 |_,[]=>true
 |last,x::l=>!(decide (x<=last) || decide (x>=N))&&Yg N x l
theorem abC{O:Type}(N:Int)(w o:O):∀(l:List Int)(s:Int),NA (λ x s=>bif decide (x<=s) || decide (x>=N)then .inr o else .inl x) (λ _=>w) l s=bif Yg N s l then w else o
 |[],_=>rfl
 |x::l,s=>by
  simp only[NA,Yg];cases decide (x<=s) || decide (x>=N)with
  |true=>rfl
  |false=>exact abC N w o l x
def cI(W:List Nat):List Int:=W.map λ(k:Nat)=>(k:Int)
@[simp] theorem apP (W:List Nat):(cI W).length=W.length:=by simp[cI]
def aqO(cl:List aL):Prop:=∀c∈cl,Yg (cl.length:Int) (-1) c.attacks=true
section
variable {n:Nat} {cl:List aL} (h:aqO cl) (hl:cl.length<=1000) (ha:∀c∈cl,c.attacks.length<=1000) (hn:1000000<=n)
include h in
include h in
include hl in
include h hl in
end
abbrev wj(a b:dH):Bool:=decide (i64.wrap (a.from_ -b.from_)<0)
abbrev stM:Nat:=12
theorem abD{l:List dH}(hl:l.length<=stM)(_:2000<=n):vH n l (λ y1=>nC y1.1 y1.2.1)=some (jk wj l)/\(jk wj l).length=l.length:=by
 have hl:l.length<=12:=hl;refine⟨?_,yR hl⟩;show NN l _=_;unfold NN;have h1:Nat.ble l.length 1099511627775=true:=Nat.ble_eq_true_of_le (by omega);have h2:Nat.ble l.length 12=true:=Nat.ble_eq_true_of_le hl;rw[h1,h2,Bool.or_true,Bool.and_true,Bool.true_and];have h3:((default::l).all λx=>(default::l).all λy=>((λ y1:dH×dH×Unit=>nC y1.1 y1.2.1) (x,y,())).isSome)=true:=by simp[nC]
 rw[h3];rfl
def fW(x:Int):Bool:=decide (0<=x)&&decide (x<=1073741824)
theorem Yh(x:Int):nD x=some (fW x):=by unfold nD fW;rw[Bu]
def wy(l:List Int):Bool:=decide (l.length<=1000)&&(l.all fW&&(List.range l.length).all λi=>decide (i=0) || decide (l.getD (i -1) 0<l.getD i 0))
theorem afD{l:List Int}(hn:2000<=n):tN n l=some (wy l):=by
 unfold tN wy;by_cases hl:l.length<=1000
 ·have h0:decide ((l.length:Int)>1000)=false:=by simp;omega
  have h1:decide (l.length<=1000)=true:=by simpa using hl
  rw[h0,au,h1,Bool.true_and];have hp:∀i:Nat,i<l.length->lM l (i:Int)=some (bif !fW (l.getD i 0) || (!decide (i=0)&&!decide (l.getD (i -1) 0<l.getD i 0))then .inr (.inr false)else .inl ((i+1:Nat):Int)):=λi hi=>by
   have hi':decide ((i:Int)<(l.length:Int))=true:=(by simpa using hi);have e0:l[i]=l.getD i 0:=(by simp[hi]);simp only[lM,hi',aj,aU hi,ai,Yh,e0];rw[aP (by omega)];cases fW (l.getD i 0)with
   |false=>rfl
   |true=>
    by_cases hz:i=0
    ·subst hz;rfl
    ·have h2:decide ((i:Int)>0)=true:=(by simp;omega);have e1:bj l (i64.wrap ((i:Int) -1))=some (l.getD (i -1) 0):=(by rw[nu (by omega) (by omega),aU (by omega)];simp[show i -1<l.length by omega]);simp only[h2,aj,Bool.not_true,au,e1,ai,Bool.false_or,hz,decide_false,Bool.not_false,Bool.true_and];have e2:decide (l.getD i 0<=l.getD (i -1) 0)=!decide (l.getD (i -1) 0<l.getD i 0):=(by rw[eH];simp);rw[e2];cases decide (l.getD (i -1) 0<l.getD i 0)<;>rfl
  have:=kZ (l:=List.range l.length) (step:=lM l) (λ i=>(i:Int)) (λ i=>!fW (l.getD i 0) || (!decide (i=0)&&!decide (l.getD (i -1) 0<l.getD i 0))) () (λ _=>false) (λ i hi=>?_) ?_ n (by simp;omega)
  ·rw[ip]at this;rw[this];have e:=jO (λ i=>!fW (l.getD i 0) || (!decide (i=0)&&!decide (l.getD (i -1) 0<l.getD i 0))) (List.range l.length);have e2:(l.all fW&&(List.range l.length).all λi=>decide (i=0) || decide (l.getD (i -1) 0<l.getD i 0))=!((List.range l.length).any λi=>!fW (l.getD i 0) || (!decide (i=0)&&!decide (l.getD (i -1) 0<l.getD i 0))):=by
    rw[eH];simp only[aY,all_eq_true,Bool.not_eq_true',any_eq_false,List.mem_range,Bool.or_eq_true,bD];constructor
    ·rintro⟨a,b⟩ i hi hc;rcases hc with hc |hc
     ·have:=a (l.getD i 0) (by simp[hi]);rw[this]at hc;cases hc
     ·simp at hc;have:=b i hi;simp at this;omega
    ·intro h;refine⟨λ x hx=>?_,λi hi=>?_⟩
     ·obtain⟨i,hi,rfl⟩:=List.getElem_of_mem hx;have:=h i hi;simp[hi]at this;exact this.1
     ·have:=h i hi;simp at this ⊢;omega
   rw[e2,<- e];cases mV _ (List.range l.length)<;>rfl
  ·rw[hp i (by simpa using hi),List.getElem_range]
  ·rw[List.length_range];simp[lM]
 ·have h0:decide ((l.length:Int)>1000)=true:=by simp;omega
  have h1:decide (l.length<=1000)=false:=by simpa using hl
  rw[h0,h1];rfl
def xi(hol:List Int)(d:Int):Int:=hol.foldl (λ v h=>bif decide (h<d)&&decide (Int.tmod h 7<5)then i64.wrap (v -1)else v) (i64.wrap (i64.wrap (i64.wrap (Int.tdiv d 7)*5)+min (Int.tmod d 7) 5))
theorem ade{hol:List Int}{d:Int}(hl:hol.length<n)(hn:hol.length<1000000000):kr n hol d=some (xi hol d):=by
 unfold kr;have:=fV (l:=hol) (step:=qo hol d) (λ i (s:Int)=>(s,(i:Int))) (λ h v=>bif decide (h<d)&&decide (Int.tmod h 7<5)then i64.wrap (v -1)else v) (λ s=>s) (λ i hi s=>?_) (λ s=>by simp[qo]) n hl (i64.wrap (i64.wrap (i64.wrap (Int.tdiv d 7)*5)+min (Int.tmod d 7) 5))
 ·rw[ip]at this;rw[show ((7:Nat) !=0)=true from rfl];simp only[aj,this];rfl
 ·have hi':decide ((i:Int)<(hol.length:Int))=true:=by simpa using hi
  simp only[qo,hi',aj,aU hi,ai,show((7:Nat) !=0)=true from rfl,Bu];rw[aP (by omega)];cases decide (hol[i] <d)&&decide (Int.tmod hol[i] 7<5)<;>rfl
def y6(hol:List Int)(C:List dH)(a b:Int):Int:=
 C.foldl (λ v s=>bif decide (max s.from_ (i64.wrap (a+1))<=min s.to b)then i64.wrap (v -i64.wrap (xi hol (i64.wrap (min s.to b+1)) -xi hol (max s.from_ (i64.wrap (a+1)))))else v) (i64.wrap (xi hol (i64.wrap (b+1)) -xi hol (i64.wrap (a+1))))
theorem count_eq{hol:List Int}{C:List dH}{a b:Int}(hl:hol.length<=1000)(hc:C.length<=1000)(hn:2000<=n):tO n hol C a b=some (y6 hol C a b):=by
 unfold tO;have:=fV (l:=C) (step:=pF n hol C a b) (λ i (s:Int)=>(s,(i:Int))) (λ s v=>bif decide (max s.from_ (i64.wrap (a+1))<=min s.to b)then i64.wrap (v -i64.wrap (xi hol (i64.wrap (min s.to b+1)) -xi hol (max s.from_ (i64.wrap (a+1)))))else v) (λ s=>s) (λ i hi s=>?_) (λ s=>by simp[pF]) n (by omega) (i64.wrap (xi hol (i64.wrap (b+1)) -xi hol (i64.wrap (a+1))))
 ·rw[ip]at this;rw[ade (by omega) (by omega),ai,ade (by omega) (by omega),ai,this];rfl
 ·have hi':decide ((i:Int)<(C.length:Int))=true:=by simpa using hi
  have u:∀d,kr n hol d=some (xi hol d):=λd=>ade (by omega) (by omega);simp only[pF,hi',aj,aU hi,ai,u];rw[aP (by omega)];cases decide (max C[i].from_ (i64.wrap (a+1))<=min C[i].to b)<;>rfl
theorem akE{N:Nat}{φ:(Int×Unit)->Option Bool}(f:Int->Bool)(hf:∀x,φ (x,())=some (f x))(hN:N<4294967296)(hn:100<=n):∃k:Nat,sort_Search n (N:Int) φ=some (k:Int)/\k<=N/\(k<N->f (k:Int)=true)/\(0<k->f ((k:Int) -1)=false):=by
 have main:∀(k m i j:Nat),j -i<2 ^ k->k<m->i<=j->j<=N->(j<N->f (j:Int)=true)->(0<i->f ((i:Int) -1)=false)->∃r:Nat,iter (jb φ) m ((i:Int),(j:Int))=some (r:Int)/\r<=N/\(r<N->f (r:Int)=true)/\(0<r->f ((r:Int) -1)=false):=by
  intro k
  induction k with
  |zero=>
   intro m i j h1 h2 h3 h4 h5 h6;obtain⟨m,rfl⟩:∃m',m=m'+1:=⟨m -1,by omega⟩;have:i=j:=(by omega);subst this;exact⟨i,fD (by simp[jb]),h4,h5,h6⟩
  |succ k ih=>
   intro m i j h1 h2 h3 h4 h5 h6;obtain⟨m,rfl⟩:∃m',m=m'+1:=⟨m -1,by omega⟩;by_cases e:i=j
   ·subst e;exact⟨i,fD (by simp[jb]),h4,h5,h6⟩
   ·have hlt:decide ((i:Int)<(j:Int))=true:=(by simp;omega);have w1:i64.wrap ((i:Int)+(j:Int))=((i+j:Nat):Int):=(by rw[dw (by omega) (by omega)];omega);have w2:IntKind.u64.wrap ((i+j:Nat):Int)=((i+j:Nat):Int):=abd (by omega);have w3:((i+j:Nat):Int)/2 ^ (1:Int).toNat=(((i+j)/2:Nat):Int):=(by rw[show (2:Int) ^ (1:Int).toNat=2 from rfl];omega);have w4:i64.wrap (((i+j)/2:Nat):Int)=(((i+j)/2:Nat):Int):=Nz (by omega);have hb:(decide (0<=1)&&decide (1<=IntKind.u64.bits))=true:=rfl;have hp:=Nat.pow_succ 2 k;have w5:i64.wrap ((((i+j)/2:Nat):Int)+1)=(((i+j)/2+1:Nat):Int):=aP (by omega);cases hm:f (((i+j)/2:Nat):Int)with
    |false=>
     have st:jb φ ((i:Int),(j:Int))=some (.inl ((((i+j)/2+1:Nat):Int),(j:Int))):=(by simp only[jb,hlt,aj,w1,w2,w3,w4,hf,hm,ai,Bool.not_false,w5];rfl);rw[jI st];refine ih m ((i+j)/2+1) j (by omega) (by omega) (by omega) h4 h5 λ_=>?_;rw[show (((i+j)/2+1:Nat):Int) -1=(((i+j)/2:Nat):Int)by omega];exact hm
    |true=>
     have st:jb φ ((i:Int),(j:Int))=some (.inl ((i:Int),(((i+j)/2:Nat):Int))):=(by simp only[jb,hlt,aj,w1,w2,w3,w4,hf,hm,ai,Bool.not_true,au];rfl);rw[jI st];exact ih m i ((i+j)/2) (by omega) (by omega) (by omega) (by omega) (λ _=>hm) h6
 unfold sort_Search;obtain⟨r,h1,h2,h3,h4⟩:=main 32 n 0 N (by omega) (by omega) (by omega) (aB _) (λ h=>by omega) (λ h=>by omega);rw[ip]at h1;exact⟨r,by rw[h1];rfl,h2,h3,h4⟩
def HI(s:dH):Bool:=!(decide (s.from_<0) || (decide (s.from_>s.to) || decide (s.to>1073741824)))
def rI(l:List dH):Bool:=decide (l.length<=100)&&l.all HI
def B8(out:List dH)(s:dH):List dH:=match out.getLast? with
 |some t=>bif decide (s.from_<=t.to)then out.dropLast++[⟨t.from_,max t.to s.to⟩]else out++[s]
 |none=>[s]
def oA(l:List dH):List dH:=(jk wj l).foldl B8 []
theorem ajn(out:List dH)(s:dH):(B8 out s).length<=out.length+1:=by
 unfold B8;cases h:out.getLast? with
 |none=>simp
 |some t=>
  show(bif decide (s.from_<=t.to)then out.dropLast++[⟨t.from_,max t.to s.to⟩]else out++[s]:List dH).length<=_;cases decide (s.from_<=t.to)<;>simp<;>omega
theorem Lh:∀(l out:List dH),(l.foldl B8 out).length<=out.length+l.length
 |[],out=>by simp
 |x::l,out=>by have:=Lh l (B8 out x);have:=ajn out x;rw[foldl_cons,fq];omega
theorem ajo{l:List dH}(hlm:l.length<=stM)(hn:2000<=n):vW n l=some (bif rI l then(oA l,true)else([],false)):=by
 have hl:l.length<=100:=Nat.le_trans hlm (by decide);unfold vW rI;have h0:decide ((l.length:Int)>100)=false:=by simp;omega
 have h1:decide (l.length<=100)=true:=by simp;omega
 have hcl:Bp l=some l:=Aj (b:=16) (by omega) (by simp[maxLen];omega);have⟨hst,hsl⟩:=abD (n:=n) hlm hn;rw[h0,au,h1,Bool.true_and,hcl];simp only[ai,aJ,aj,hst];have:=kZ (l:=l) (step:=ql l) (λ i=>(i:Int)) (λ s=>!HI s) () (λ _=>(([]:List dH),false)) (λ i hi=>?_) ?_ n (by omega)
 ·rw[ip]at this;rw[this];have e:=jO (λ s=>!HI s) l;rw[List.all_eq_not_any_not,<- e];cases mV (λ s=>!HI s) l with
  |some i=>rfl
  |none=>
   have:=eF (l:=jk wj l) (step:=qm l (jk wj l)) (λ i (s:List dH)=>((i:Int),s)) (λ x s=>B8 s x) (λ s=>s) (λ i s=>s.length<=i) (λ i hi s hs=>?_) (λ s _=>by simp[qm,hsl]) n (by omega) [] (aB _)
   ·rw[ip]at this;simp only[iy,length_nil,aJ,aj,this,ai,eU,Option.isSome_none,Bool.not_false];rfl
   ·rw[hsl]at hi;have hi':decide ((i:Int)<(l.length:Int))=true:=(by simpa using hi);have his:i<(jk wj l).length:=(by omega);refine⟨?_,by have:=ajn s (jk wj l)[i];omega⟩;simp only[qm,hi',aj,bA hi,ip,Int.zero_add,aU his,ai];unfold B8;rcases List.eq_nil_or_concat s with e |⟨a,t,e⟩
    ·subst e;have ap:bK 0 0 (sub ([(jk wj l)[i]]:List dH) 0 1).length 1 16=true:=dx (n:=1);have hz:decide (i64.wrap ((([]:List dH).length:Int) -1)>=0)=false:=(by simp[IntKind.wrap_i64]);simp only[hz,au,ai,length_nil,ap,fu,aJ,aj,List.getLast?_nil];rw[aP (by omega)];rfl
    ·rw[List.concat_eq_append]at e;subst e;have hla:(a++[t]).length=a.length+1:=(by simp);have hw:i64.wrap (((a++[t]).length:Int) -1)=(a.length:Int):=(by rw[fe];simp only[fq,length_nil];rw[dw (by omega) (by omega)];omega);have hg:decide ((a.length:Int)>=0)=true:=(by simp);have hb:cN (a.length:Int) (a++[t]).length=true:=bA (by simp);have ha:bj (a++[t]) (a.length:Int)=some t:=(by rw[W9];simp);have ap:bK (a++[t]).length (a++[t]).length (sub ([(jk wj l)[i]]:List dH) 0 1).length 1 16=true:=dx (n:=1);have hset:∀v,(a++[t]).set a.length v=a++[v]:=λv=>(by simp);simp only[hw,hg,hb,ha,aj,ai,Int.toNat_natCast,hset,List.getLast?_append,List.getLast?_singleton,Option.some_or];cases decide ((jk wj l)[i].from_<=t.to)with
     |true=>simp only[aj,fe,fq,length_nil,aJ,ai,List.dropLast_concat];rw[aP (by omega)]
     |false=>simp only[au,ap,aj,fu,aJ,ai];rw[aP (by omega)];rfl
 ·have hi':decide ((i:Int)<(l.length:Int))=true:=by simpa using hi
  simp only[ql,hi',aj,aU hi,ai,S4];have:(!HI l[i])=(decide (l[i].from_<0) || (decide (l[i].from_>l[i].to) || decide (l[i].to>1073741824))):=by simp[HI]
  rw[this,aP (by omega)];cases decide (l[i].from_<0) || (decide (l[i].from_>l[i].to) || decide (l[i].to>1073741824))<;>rfl
 ·simp[ql]
structure DLk(hol:List Int)(st:List dH)(day k:Int)(r:Int×Int):Prop where
 code:r.2=0\/r.2=1\/r.2=20
 ok:r.2=0->wy hol=true/\rI st=true/\fW day=true/\fW k=true/\day<=r.1/\r.1<=1073741824
 z:r.2=0->k=0->r.1=day
 up:r.2=0->k≠0->day<r.1/\y6 hol (oA st) day r.1>=k/\(day+1<r.1->y6 hol (oA st) day (r.1 -1)<k)
theorem Yi{hol:List Int}{st:List dH}{day k:Int}(hs:st.length<=stM)(hn:3000<=n):∃r,fU n hol st day k=some r/\DLk hol st day k r:=by
 unfold fU;rw[ajo hs (by omega),afD (by omega),Yh,Yh];have bad:∀e:Int,e=1\/e=20->DLk hol st day k (0,e):=λe he=>⟨.inr he,λh=>absurd h (by simp only;omega),λh=>absurd h (by simp only;omega),λh=>absurd h (by simp only;omega)⟩;cases h1:rI st with
 |false=>exact⟨(0,1),rfl,bad 1 (.inl rfl)⟩
 |true=>
  simp only[aj,ai,eU,aJ,Bool.not_true,au];cases h2:wy hol with
  |false=>exact⟨(0,1),rfl,bad 1 (.inl rfl)⟩
  |true=>
   cases h3:fW day with
   |false=>exact⟨(0,1),rfl,bad 1 (.inl rfl)⟩
   |true=>
    cases h4:fW k with
    |false=>exact⟨(0,1),rfl,bad 1 (.inl rfl)⟩
    |true=>
     simp only[Bool.not_true,au,ai];have d3:0<=day/\day<=1073741824:=(by simpa[fW]using h3);by_cases hk:k=0
     ·subst hk;exact⟨(day,0),rfl,.inl rfl,λ_=>⟨h2,h1,h3,h4,Int.le_refl _,d3.2⟩,λ_ _=>rfl,λ_ h=>absurd rfl h⟩
     ·have e0:(k==0)=false:=(by simpa using hk);have hl:hol.length<=1000:=(by simp[wy]at h2;exact h2.1);have hc:(oA st).length<=1000:=(by have:=Lh (jk wj st) [];have:=(abD (n:=n) hs (by omega)).2;have:st.length<=100:=Nat.le_trans hs (by decide);unfold oA;simp only[length_nil]at*;omega);have w1:i64.wrap (1073741824 -day)=(((1073741824 -day).toNat:Nat):Int):=(by rw[dw (by omega) (by omega)];omega);obtain⟨m,a1,a2,a3,a4⟩:=akE (n:=n) (N:=(1073741824 -day).toNat) (φ:=λy1=>ja n y1.1 hol (oA st) day k) (λ x=>decide (y6 hol (oA st) day (i64.wrap (i64.wrap (day+1)+x))>=k)) (λ x=>by show ja n x hol (oA st) day k=_;unfold ja;rw[count_eq hl hc (by omega)];rfl) (by omega) (by omega);rw[e0,au,w1,a1];simp only[ai];by_cases hm:m=(1073741824 -day).toNat
      ·subst hm;rw[beq_self_eq_true,aj];exact⟨(0,20),rfl,bad 20 (.inr rfl)⟩
      ·have e1:((m:Int)==(((1073741824 -day).toNat:Nat):Int))=false:=(by simp;omega);have wr:∀x:Int,0<=x->x<=1073741824->i64.wrap (i64.wrap (day+1)+x)=day+1+x:=λx h1 h2=>(by rw[dw (show -9223372036854775808<=day+1 by omega) (by omega),dw (by omega) (by omega)]);rw[e1,au,wr _ (by omega) (by omega)];refine⟨_,rfl,.inl rfl,λ_=>⟨h2,h1,h3,h4,by simp only;omega,by simp only;omega⟩,λ_ h=>absurd h hk,λ_ _=>⟨by simp only;omega,?_,λhlt=>?_⟩⟩
       ·have:=a3 (by omega);rw[wr _ (by omega) (by omega)]at this;simpa using this
       ·simp only at hlt ⊢;have:=a4 (by omega);rw[wr _ (by omega) (by omega)]at this;rw[show day+1+(m:Int) -1=day+1+((m:Int) -1)by omega];simpa using this
noncomputable section
def cD(h:aG):dX:=dX.mk h.cj h.aw h.b7 h.aE h.br h.b8 h.cw h.b9 h.df h.cR h.c8 h.cX h.ek
def cH(h:aG):aM:=aM.mk h.cd h.cg
def ZM(h:aG):fw×Bool:=cZ h.df h.cd
structure QN(n:Nat)(h:aG):Prop where
 fuel:F0 n
 town:Hs (cD h)
 draw:L5 (cH h)
 near:XT (cD h)
 dok:XQ (cH h)
 stays:h.stays.length<=12
 cases:h.cases.length<=1000
section
variable {n:Nat} {h:aG}
def y4(n:Nat)(h:aG):Int×Int:=(gJ n h).getD (0,1)
def NO(h:aG):Int:=max 0 (Hk h.aw ⟨#[100,97,121,115]⟩)
theorem Jc(o:QN n h):gJ n h=some (y4 n h)/\fU n h.eV h.stays h.gz (NO h)=some (y4 n h)/\DLk h.eV h.stays h.gz (NO h) (y4 n h):=by
 have hn:=o.fuel.1;obtain⟨r,h1,h2⟩:=Yi (n:=n) (hol:=h.eV) (st:=h.stays) (day:=h.gz) (k:=NO h) (Nat.le_trans o.stays (by decide)) (by omega);have h3:gJ n h=some r:=by have hd:NS n (bL.mk h.cj h.aw h.b7 h.aE h.br h.b8 h.cw h.b9)=some (NO h):=ahE (p:=amG (cD h)) o.near.2.2 (by omega);unfold gJ;rw[hd,ai,h1];rfl
 have e:y4 n h=r:=by unfold y4;rw[h3];rfl
 rw[e];exact⟨h3,h1,h2⟩
def FG(n:Nat)(h:aG)(day:Int):Bool:=((y4 n h).2==0)&&(decide (h.gz<=day)&&decide (day<=(y4 n h).1))
theorem akF(o:QN n h)(day:Int):tQ n h day=some (FG n h day):=by unfold tQ FG;rw[(Jc o).1,ai];simp only[Bu]
def Mo(h:aG)(p:Int):Bool:=(p==h.ix) || PR (cD h) (cH h) p
theorem aoA(o:QN n h)(p:Int):Xu n (cD h) (cH h) p=some (PR (cD h) (cH h) p):=akm o.near o.dok (by have:=o.fuel.1;omega)
theorem am4(o:QN n h)(p:Int):vY n h p=some (Mo h p):=by have:=aoA o p;unfold cD cH at this;unfold vY Mo;rw[this];exact S4 _ _
theorem ah3{l:List Int}{N:Int}(hl:l.length<=1000)(hn:2000<=n):fG n l N=some (Yg N (-1) l):=by
 unfold fG;have:=aj5 (l:=l) (step:=nR l N) (λ i (s:Int)=>(s,(i:Int))) (λ x s=>bif decide (x<=s) || decide (x>=N)then .inr (.inr false)else .inl x) (λ _=> .inl ()) (λ i hi s=>?_) (λ s=>by simp[nR]) n (by omega) (-1)
 ·rw[ip]at this;rw[this,abC];cases Yg N (-1) l<;>rfl
 ·have hi':decide ((i:Int)<(l.length:Int))=true:=by simpa using hi
  simp only[nR,hi',aj,aU hi,ai,S4];cases decide (l[i]<=s) || decide (l[i]>=N)with
  |true=>rfl
  |false=>simp only[au];rw[aP (by omega)]
def mN:List ByteArray:=[⟨#[97,114,101,97]⟩,⟨#[99,111,118,101,114]⟩,⟨#[102,108,111,111,114]⟩,⟨#[102,108,111,111,114,115]⟩,⟨#[104,101,105,103,104,116]⟩,⟨#[104,111,109,101,115]⟩,⟨#[114,117,110,111,102,102]⟩,⟨#[115,101,116,98,97,99,107]⟩,⟨#[116,114,97,102,102,105,99]⟩]
def Mc:ByteArray:=⟨#[103,114,97,110,116,101,100]⟩
def AR:ByteArray:=⟨#[114,101,102,117,115,101,100]⟩
def NL(h:aG)(c:aL):Bool:=bif c.d6==0 then true else bif c.d6==1 then mN.any (eb c.name)else bif c.d6==2 then h.aE.any (λ r=>eb r.name c.name)else(c.d6==3)&&(eb c.name Mc || eb c.name AR)
theorem akG(o:QN n h){c:aL}(hl:c.attacks.length<=1000):nG n h c=some (NL h c&&Yg (h.claims.length:Int) (-1) c.attacks):=by
 have hn:=o.fuel.1;have ha:=ah3 (n:=n) (N:=(h.claims.length:Int)) hl (by omega);have h2:lT n c=some (mN.any (eb c.name)):=by have hm:oJ=some mN:=rfl;unfold lT;rw[hm,ai];simp only[eU,aJ,aj];rw[kS (by simp[mN]) (by simp[mN];omega)];rfl
 have h4:lU n c h=some (h.aE.any λr=>eb r.name c.name):=by have hr:=o.town.rules;have hr:h.aE.length<=100:=hr;unfold lU p9;have:ug n h.aE (λ y1=>jo y1.1 c)=some (qW (λ r=>eb r.name c.name) h.aE):=fF (n:=n) (l:=h.aE) (φ:=λy1=>jo y1.1 c) (λ r=>eb r.name c.name) (λ _ _=>rfl) (by omega) (by omega);rw[this,ai,ai,pE]
 have h6:lV c=some (eb c.name Mc || eb c.name AR):=by unfold lV;rw[S4];rfl
 unfold nG NL;rw[ha,h2,h4,h6];cases c.d6==0<;>cases c.d6==1<;>cases c.d6==2<;>cases c.d6==3<;>cases Yg (h.claims.length:Int) (-1) c.attacks<;>simp<;>rfl
def rz(n:Nat)(h:aG):List aZ:=RR n h.aw (qI (ZM h).1) (fZ (cH h))
theorem afG(o:QN n h):pG n h.df h.cd=some (ZM h):=by have:=o.town.land;have hn:=o.fuel.1;have hl:h.df.length<=1000:=this;exact abw o.town.lots (by omega) (by omega)
theorem afH(o:QN n h):jD n (bL.mk h.cj h.aw h.b7 h.aE h.br h.b8 h.cw h.b9) (ZM h).1 (aM.mk h.cd h.cg)=some (rz n h):=by have hn:=o.fuel.1;have ht:=o.town.plan.tabs;have hw:=QJ o.town.lots h.cd;exact aoY (p:=mL (cD h)) (d:=cH h) ⟨by have:=ht.1;omega,by have:=ht.1;omega,λx hx=>by have:=ht.2 x hx;omega⟩ hw.1 o.draw.1 (by omega) _ _ _ _ _ _ _
def Yj(h:aG)(c:aL):Bool:=match h.cases.find? λx=>x.id==c.n with
 |some x=>(eb c.name Mc&&x.grant) || (eb c.name AR&&!x.grant)
 |none=>false
def Jd(n:Nat)(h:aG)(c:aL):Bool:=bif c.d6==0 then true else bif c.d6==1 then(ZM h).2&&(rz n h).any (λ x=>eb c.name x.name&&(c.n==x.n))else bif c.d6==2 then(uX n (cD h) (cH h)==0)&&(iZ n (cD h) (cH h) h.rule).any (eb c.name)else(c.d6==3)&&Yj h c
theorem SS(o:QN n h):(iZ n (cD h) (cH h) h.rule).length<=200:=by
 unfold iZ;cases uX n (cD h) (cH h)==0 with
 |false=>simp
 |true=>
  have h1:=Yd (Fe n (cD h) (qQ (cD h) (cH h)) (cH h) (applied (cD h) (qQ (cD h) (cH h)) h.rule)) abz (RE (cD h) (cH h));have h2:=BB (FS n (cD h) (qQ (cD h) (cH h)) (cH h)) (applied (cD h) (qQ (cD h) (cH h)) h.rule) [];have h3:(applied (cD h) (qQ (cD h) (cH h)) h.rule).length<=(cD h).aq.length:=List.length_filter_le _ _;have h4:=o.town.rules;unfold Fe at h1;simp only[aj,length_nil]at*;unfold Fe;omega
theorem Vg(o:QN n h)(c:aL):fA n h c=some (Jd n h c):=by
 have hn:=o.fuel.1;have h3:lW n c h=some ((ZM h).2&&(rz n h).any λx=>eb c.name x.name&&(c.n==x.n)):=by
  unfold lW;rw[afG o,ai];cases (ZM h).2 with
  |false=>rfl
  |true=>
   rw[afH o];have e:y5 n (rz n h) (aZ.mk c.name c.n)=some (qW (λ x=>eb c.name x.name&&((c.n==x.n)&&true)) (rz n h)):=Ih (by simp[rz,RR]) (by simp[rz,RR];omega);simp only[aj,ai,eU,aJ,uh,e,pE,Bool.and_true,Bool.true_and]
 have h5:mq n c h=some ((uX n (cD h) (cH h)==0)&&(iZ n (cD h) (cH h) h.rule).any (eb c.name)):=by have hb:=abA h.rule o.town o.draw o.fuel;have hl:=SS o;have hs:=kS (n:=n) (l:=iZ n (cD h) (cH h) h.rule) (a:=c.name) (by omega) (by omega);unfold cD cH at hb hs ⊢;unfold mq;rw[hb];simp only[ai,eU,aJ,aj,hs];exact Bu _ _
 have h7:mD n c h=some (Yj h c):=by
  have hc:=o.cases;unfold mD Yj;have:uD n h.cases (λ y1=>jy y1.1 c)=some (qW (λ x=>x.id==c.n) h.cases):=fF (n:=n) (l:=h.cases) (φ:=λy1=>jy y1.1 c) (λ x=>x.id==c.n) (λ _ _=>rfl) (by omega) (by omega);rw[this,ai,pE];cases ha:h.cases.any λx=>x.id==c.n with
  |false=>
   have:h.cases.find? (λ x=>x.id==c.n)=none:=(by rw[List.find?_eq_none];rw[any_eq_false]at ha;exact ha);rw[this];rfl
  |true=>
   have⟨i,hi,e1,e2⟩:=Xc ha;rw[e1,e2,aU hi];simp only[aj,ai]
   change (bif eb c.name Mc then _ else bif eb c.name AR then _ else _)=_
   cases eb c.name Mc<;>cases hr:eb c.name AR<;>cases h.cases[i].grant<;>first |rfl |(unfold eb AR at hr;rw[hr];rfl)
 unfold fA Jd;rw[h3,h5,h7];cases c.d6==0<;>cases c.d6==1<;>cases c.d6==2<;>cases c.d6==3<;>rfl
def AU:aL:=aL.mk 0 0 ([]) 0 (⟨#[]⟩) 0
def ownB(n:Nat)(h:aG)(c:aL):Bool:=FG n h c.day&&(Mo h c.km&&(NL h c&&Jd n h c))
def P1(N:Nat)(c:aL):Bool:=Yg (N:Int) (-1) c.attacks
def fL(n:Nat)(h:aG)(i:Nat):Bool:=decide (i=0) || (ownB n h (h.claims.getD i AU)&&P1 h.claims.length (h.claims.getD i AU))
def Yk(n:Nat)(h:aG):List Bool:=(List.range h.claims.length).map (fL n h)
def ao1(h:aG):Prop:=1<=h.claims.length/\h.claims.length<=300/\∀c∈h.claims,c.attacks.length<=1000
theorem akH(o:QN n h)(hc:ao1 h):uE n h=some (Yk n h):=by
 obtain⟨c1,c2,c3⟩:=hc;have hn:=o.fuel.1;have hmx:maxLen=9223372036854775807:=rfl;have hj:nE h=some true:=by unfold nE;rw[show decide (1<=(h.claims.length:Int))=true by simp;omega,show decide ((h.claims.length:Int)<=300)=true by simp;omega];rfl
 have mk:(decide ((h.claims.length:Int)<=(h.claims.length:Int))&&(decide (0<=(h.claims.length:Int))&&sQ (h.claims.length:Int) 1))=true:=by simp[sQ];omega
 have key:=iD (step:=pM n h) (λ i=>((i:Int),(List.range h.claims.length).map λk=>decide (k<i)&&fL n h k)) h.claims.length (Yk n h) (λ i hi=>?_) ?_ n (by omega)
 ·have e:((List.range h.claims.length).map λk=>decide (k<0)&&fL n h k)=List.replicate h.claims.length false:=List.ext_getElem (by simp) λm h1 h2=>by simp
  rw[e,ip]at key;unfold uE;simp only[hj,ai,Bool.not_true,au,mk,aj,Int.toNat_natCast,key];have e2:sub (Yk n h) 0 h.claims.length=Yk n h:=by have:=eU (Yk n h);unfold Yk at this ⊢;simpa using this
  rw[e2,show(Yk n h).length=h.claims.length by simp[Yk],aJ];simp only[aj]
 ·have hi':decide ((i:Int)<(h.claims.length:Int))=true:=by simpa using hi
  have hg:bj ((List.range h.claims.length).map λk=>decide (k<i)&&fL n h k) (i:Int)=some (((List.range h.claims.length).map λk=>decide (k<i)&&fL n h k)[i]'(by simpa using hi)):=aU (by simpa using hi);have e4:∀b,b=fL n h i->((List.range h.claims.length).map λk=>decide (k<i)&&fL n h k).set i b=(List.range h.claims.length).map λk=>decide (k<i+1)&&fL n h k:=λb hb=>by
   refine List.ext_getElem (by simp) λm h1 h2=>?_;rw[List.getElem_set];by_cases e:i=m
   ·subst e;simp[hb]
   ·rw[aR e];simp only[List.getElem_map,List.getElem_range];rw[show decide (m<i)=decide (m<i+1)by rw[decide_eq_decide];omega]
  have hgc:h.claims.getD i AU=h.claims[i]:=by simp[hi]
  have ha:=c3 _ (getElem_mem hi);simp only[pM,hi',aj,aU hi,ai,Int.toNat_natCast,bA hi,ip,Int.zero_add,hg,akF o,am4 o,akG o ha,Vg o];rw[aP (by omega)];by_cases h0:i=0
  ·subst h0;rw[show (((0:Nat):Int)==0)=true from rfl,aj,ai,e4 true (by simp[fL])]
  ·rw[show ((i:Int)==0)=false by simp;omega,au];have hcb:fL n h i=(FG n h h.claims[i].day&&(Mo h h.claims[i].km&&(NL h h.claims[i]&&Jd n h h.claims[i]))&&Yg (h.claims.length:Int) (-1) h.claims[i].attacks):=(by unfold fL ownB P1;rw[hgc,show decide (i=0)=false by simpa using h0,Bool.false_or]);cases hA:FG n h h.claims[i].day<;>cases hB:Mo h h.claims[i].km<;>cases hC:NL h h.claims[i]<;>cases hD:Yg (h.claims.length:Int) (-1) h.claims[i].attacks<;>(simp only[aj,au,Bool.and_true,Bool.and_false,ai];rw[e4 _ (by rw[hcb,hA,hB,hC,hD];simp)])
 ·rw[show ((List.range h.claims.length).map λk=>decide (k<h.claims.length)&&fL n h k)=Yk n h from List.map_congr_left λm hm=>by simp[List.mem_range.1 hm]];simp[pM]
def DA(n:Nat)(h:aG)(j m:Nat):Prop:=j<h.claims.length/\m<h.claims.length/\fL n h j=true/\P1 h.claims.length (h.claims.getD j AU)=true/\(m:Int)∈(h.claims.getD j AU).attacks
structure aqZ(n:Nat)(h:aG)(L:List Int):Prop where
 len:L.length=h.claims.length
 inn:∀i,i<h.claims.length->fL n h i=true->(L.getD i 0=1↔vy (DA n h) i)/\(L.getD i 0=2↔∃k,vy (DA n h) k/\DA n h k i)/\(L.getD i 0=0\/L.getD i 0=1\/L.getD i 0=2)
 out:∀i,i<h.claims.length->fL n h i=false->L.getD i 0=2
def ff(n:Nat)(h:aG)(i:Nat):aL:=bif fL n h i&&P1 h.claims.length (h.claims.getD i AU)then aL.mk 0 0 (h.claims.getD i AU).attacks 0 (⟨#[]⟩) 0 else AU
end
end
noncomputable section
structure Rr(h:aG):Prop where
 town:ao0 (cD h)
 caps:h.br.length<=1048576
 phases:h.cg.length<=1048576
theorem Yl(hn:5000003<=n):∀(m:Nat)(e:cu),(toE e).wt<=m->(toE e).wt<=4000000->∃v,vN n m e=some v
 | 0,e,h,_=>absurd (Vd e) (by omega)
 |m+1,e,h,hw=>by
  have hla:=Vd e;obtain⟨o,h1,_⟩:=eT (step:=AL (vN n m) e) (λ i (v:Int×Int)=>v.2=(i:Int)/\i<=e.args.length) (λ _=>True) e.args.length (λ k v h=>h.2) (λ i v hv=>by
   obtain⟨v1,v2⟩:=v;obtain⟨rfl,hi⟩:=hv;by_cases hlt:i<e.args.length
   ·have hwx:=ahQ (getElem_mem hlt);obtain⟨x,hx⟩:=Yl hn m e.args[i] (by omega) (by omega);refine .inl ⟨(i64.wrap (v1+x),((i+1:Nat):Int)),?_,rfl,hlt⟩;simp only[AL,bV hlt,aj,aU hlt,ai,hx];rw[aP (by omega)]
   ·have:i=e.args.length:=(by omega);subst this;exact .inr ⟨v1,by simp[AL],trivial⟩) n 0 (1,0) ⟨rfl,Nat.zero_le _⟩ (by omega)
  exact⟨o,by simp only[vN,LV,h1,ai]⟩
theorem am5{p:bL}(hn:F0 n)(hd:ik p.defs)(hr:WtR p.rules):∃b,U5 n p=some b:=by
 have hn1:=hn.1;unfold U5;simp only[Di,ai];cases hc:(bif decide ((p.defs.length:Int)>20)then true else decide ((p.rules.length:Int)>20))with
 |true=>exact⟨_,rfl⟩
 |false=>
  have hl:p.defs.length<=20/\p.rules.length<=20:=by
   cases h1:decide ((p.defs.length:Int)>20)with
   |true=>rw[h1]at hc;cases hc
   |false=>rw[h1]at hc;simp at h1 hc;omega
  have s1:=Vf (l:=p.defs) (K:=20) (n:=n) (step:=EO n p) (good:=λ_=>True) (λ i hi hK=>by
   have hw:=hd.body (getElem_mem hi);obtain⟨v,hv⟩:=Yl hn1 n _ (by omega) hw;have hv':IJ n (cu.mk p.defs[i].jp p.defs[i].ml p.defs[i].lh p.defs[i].i9 p.defs[i].eQ)=some v:=hv;simp only[EO,bV hi,aj,aU hi,ai,hv',Di,aX i];cases (bif decide (v>60)then true else decide ((p.defs[i].name.size:Int)>100))
   ·exact .inr ⟨rfl,trivial⟩
   ·exact .inl rfl) (λ i h=>by have:¬i<p.defs.length:=(by omega);simp only[EO,show decide ((i:Int)<(p.defs.length:Int))=false by simp;omega,au]) (by omega)
  have s2:=Vf (l:=p.rules) (K:=20) (n:=n) (step:=EP n p) (good:=λ_=>True) (λ i hi hK=>by
   have hw:=hr _ (getElem_mem hi);obtain⟨v,hv⟩:=Yl hn1 n _ (by omega) hw;have hv':IJ n (cu.mk p.rules[i].lv p.rules[i].nj p.rules[i].nh p.rules[i].ke p.rules[i].gh)=some v:=hv;simp only[EP,bV hi,aj,aU hi,ai,hv',aX i];cases decide (v>60)
   ·exact .inr ⟨rfl,trivial⟩
   ·exact .inl rfl) (λ i h=>by have:¬i<p.rules.length:=(by omega);simp only[EP,show decide ((i:Int)<(p.rules.length:Int))=false by simp;omega,au]) (by omega)
  simp only[au];rcases s1 with e1 |⟨e1,_⟩
  ·rw[e1];exact⟨_,rfl⟩
  ·rcases s2 with e2 |⟨e2,_⟩
   ·rw[e1,e2];exact⟨_,rfl⟩
   ·rw[e1,e2];exact⟨_,rfl⟩
structure aqn(h:aG):Prop where
 claims:h.claims.length<=14
 atts:∀c∈h.claims,c.attacks.length<=14
 hol:h.eV.length<=20
 stays:h.stays.length<=8
theorem am6{h:aG}(hn:F0 n)(hz:Rr h):∃b,U6 n h=some b/\(b=true->QN n h/\aqn h):=by
 have hn1:=hn.1;have no:∃b,some false=some b/\(b=true->QN n h/\aqn h):=⟨false,rfl,λh=>(by cases h)⟩;have e1:U4 n (bL.mk [] [] [] [] [] [] [] 0) (Iu.mk 0 0 0 0 0 [cH h] 0 0) []=some (Mb (cH h)):=by
  have s:iter (Xy n []) n 0=some (.inl ()):=by obtain⟨m,rfl⟩:∃m,n=m+1:=⟨n -1,by omega⟩;exact fD rfl
  unfold U4;rw[s];have hp:(cH h).phases.length<=1048576:=hz.phases;simp only[iy,X8 (n:=n) (d:=cH h) (by omega) (by omega) (by omega),ai];rfl
 have e0:=ahK (n:=n) (cD h) (by omega);obtain⟨b16,e16⟩:=am5 (p:=bL.mk h.cj h.aw h.b7 h.aE h.br h.b8 h.cw h.b9) hn hz.town.defs hz.town.rules;unfold cH at e1;unfold cD at e0;unfold U6;rw[e0];cases h0:PM (cD h)with
 |false=>unfold cD at h0;rw[h0];exact no
 |true=>
  have h0':=h0;unfold cD at h0;rw[h0];have sb2:sub [aM.mk h.cd h.cg] 0 1=[aM.mk h.cd h.cg]:=rfl;simp only[ai,Bool.not_true,au,List.length_singleton,aJ,aj,sb2,e1];cases h1:Mb (cH h)with
  |false=>unfold cH at h1;rw[h1];exact no
  |true=>
   have h1':=h1;unfold cH at h1;rw[h1];simp only[Bool.not_true,au];by_cases c1:(h.eV.length:Int)>20
   ·simpa only[c1,decide_true,aj,ai]using no
   by_cases c2:(h.stays.length:Int)>8
   ·simpa only[c1,c2,decide_true,decide_false,aj,au,ai]using no
   by_cases c3:(h.cases.length:Int)>12
   ·simpa only[c1,c2,c3,decide_true,decide_false,aj,au,ai]using no
   by_cases c4:(h.claims.length:Int)>14
   ·simpa only[c1,c2,c3,c4,decide_true,decide_false,aj,au,ai]using no
   simp only[c1,c2,c3,c4,decide_false,au,e16,ai];cases b16 with
   |false=>exact no
   |true=>
    simp only[Bool.not_true,au];have s1:=Vf (l:=h.claims) (K:=14) (n:=n) (step:=EQ h) (good:=λc=>c.attacks.length<=14) (λ i hi hK=>by
     simp only[EQ,bV hi,aj,aU hi,ai,aX i];by_cases c:(h.claims[i].attacks.length:Int)>14
     ·left;simp only[c,decide_true,aj];rfl
     ·right;simp only[c,decide_false,au];exact⟨trivial,by omega⟩) (λ i hh=>by simp only[EQ,show decide ((i:Int)<(h.claims.length:Int))=false by simp;omega,au]) (by omega)
    have h2:=h0';unfold PM at h2;simp only[aY,bD,Bool.not_eq_true',any_eq_false,Bool.or_eq_true,not_or]at h2;obtain⟨⟨a1,a2,a3,a4,a5,a6,a7⟩,g1,g2,g3⟩:=h2;have a4':h.aw.length<=20:=a4;have s2:=Vf (l:=h.aw) (K:=20) (n:=n) (step:=ER h) (good:=λc=>c.rows.length<=10) (λ i hi hK=>by
     simp only[ER,bV hi,aj,aU hi,ai,aX i];by_cases c:(h.aw[i].rows.length:Int)>10
     ·left;simp only[c,decide_true,aj];rfl
     ·right;simp only[c,decide_false,au];exact⟨trivial,by omega⟩) (λ i hh=>by simp only[ER,show decide ((i:Int)<(h.aw.length:Int))=false by simp;omega,au]) (by omega)
    rcases s1 with f1 |⟨f1,hat⟩
    ·rw[f1];exact no
    rcases s2 with f2 |⟨f2,hrow⟩
    ·rw[f1,f2];exact no
    rw[f1,f2];refine⟨true,rfl,λ_=>?_⟩;have hat:=hat (by omega);have hrow:=hrow a4';have hw:∀l∈(cD h).land,A0 l:=λl hl=>⟨by have:=g2 l hl;omega,hz.town.AH l hl⟩;have h3:=h1';simp only[Mb,aY,Bool.not_eq_true',any_eq_false,bD]at h3;have V0:∀p∈(cH h).phases,p.bk.length<=12/\p.gives.length<=6:=λp hp=>(by have:=h3.1 p hp;simp only[Mm,Bool.or_eq_true,bD,not_or]at this;omega)
    exact⟨⟨hn,⟨hw,by omega,⟨by omega,λe he=>by have:=g3 e he;omega⟩,by omega,by omega,by have:(cD h).cM.length<=1048576:=hz.caps;omega,by omega,λr hr=>⟨by have:=g1 r hr;exact⟨by omega,by omega⟩,hz.town.rules r hr⟩,⟨hz.town.defs,⟨Nat.le_trans a4 (by decide),λx hx=>by have:=hrow x hx;omega⟩⟩⟩,
     ⟨⟨by omega,λp hp=>by have:=V0 p hp;omega⟩,λp hp=>by have:=V0 p hp;omega⟩,⟨by omega,hw,by show h.aw.length<=100;omega,λx hx=>by have:=hrow x hx;omega⟩,⟨by omega,λp hp=>by have:=V0 p hp;omega⟩,by omega,by omega⟩,by omega,hat,by omega,by omega⟩
def gb(N day:Int)(more:List aL):aG:=aG.mk [] [bO.mk ⟨#[110,111,116,105,99,101]⟩ [aZ.mk ⟨#[100,97,121,115]⟩ 5] 0] [] [] [] [] [] 0 [fw.mk 1 7 [ax.mk 0 0 9 9] [],fw.mk 2 8 [ax.mk 9 0 12 9] []] [] [] [] [] 1 [kW.mk [aF.mk 2 2 4 4 0 9 2 0 false] []] 0 7 10 [] [] [] ([aL.mk 7 10 [] 0 ⟨#[]⟩ 0,aL.mk 8 day [0] 1 ⟨#[104,101,105,103,104,116]⟩ N]++more)
theorem am7(N day:Int):sH N day=some (gb N day []):=by kernel_rfl
theorem apI(N day:Int)(more:List aL):QN 5000003 (gb N day more) where
 fuel:=aqm
 town:=⟨λ l hl=>by have hl:l∈[fw.mk 1 7 [ax.mk 0 0 9 9] [],fw.mk 2 8 [ax.mk 9 0 12 9] []]:=hl;simp only[aH,bn,or_false]at hl;rcases hl with rfl |rfl<;>exact⟨by decide,by decide⟩,by show 2<=1000;decide,⟨Nat.zero_le _,λe he=>(by cases he)⟩,Nat.zero_le _,Nat.zero_le _,Nat.zero_le _,Nat.zero_le _,λr hr=>(by cases hr),⟨Nat.le_of_ble_eq_true (by kernel_rfl),by show 1<=4000000;decide,λx hx=>by have hx:x∈[bO.mk ⟨#[110,111,116,105,99,101]⟩ [aZ.mk ⟨#[100,97,121,115]⟩ 5] 0]:=hx;simp only[aH,bn,or_false]at hx;subst hx;decide⟩⟩
 draw:=⟨⟨by show 1<=1000;decide,λp hp=>by have hp:p∈[kW.mk [aF.mk 2 2 4 4 0 9 2 0 false] []]:=hp;simp only[aH,bn,or_false]at hp;subst hp;decide⟩,λp hp=>by have hp:p∈[kW.mk [aF.mk 2 2 4 4 0 9 2 0 false] []]:=hp;simp only[aH,bn,or_false]at hp;subst hp;decide⟩
 near:=⟨by show 2<=100;decide,λl hl=>by have hl:l∈[fw.mk 1 7 [ax.mk 0 0 9 9] [],fw.mk 2 8 [ax.mk 9 0 12 9] []]:=hl;simp only[aH,bn,or_false]at hl;rcases hl with rfl |rfl<;>exact⟨by decide,by decide⟩,by show 1<=100;decide,λx hx=>by have hx:x∈[bO.mk ⟨#[110,111,116,105,99,101]⟩ [aZ.mk ⟨#[100,97,121,115]⟩ 5] 0]:=hx;simp only[aH,bn,or_false]at hx;subst hx;decide⟩
 dok:=⟨by show 1<=100;decide,λp hp=>by have hp:p∈[kW.mk [aF.mk 2 2 4 4 0 9 2 0 false] []]:=hp;simp only[aH,bn,or_false]at hp;subst hp;decide⟩
 stays:=Nat.zero_le _
 cases:=Nat.zero_le _
theorem afI{a b:List Int}(hl:a.length<=1000)(hn:2000<=n):xW n a b=some (decide (a=b)):=by
 have e:xW n a b=ND n (λ x1 x2:Int=>x1 !=x2) a b:=by kernel_rfl
 rw[e];exact Ii (λ x y=>by rw[eH];simp[bne]) (by omega) (by omega)
theorem aqo(N day:Int)(more:List aL):y4 5000003 (gb N day more)=(17,0):=by
 have h:=(Jc (apI N day more)).2.1;have e:fU 5000003 [] [] 10 5=some (17,0):=by
  unfold fU;rw[ajo (Nat.zero_le _) (by decide)]
  kernel_rfl
 have hd:NO (gb N day more)=5:=by kernel_rfl
 rw[hd]at h;have h':fU 5000003 [] [] 10 5=some (y4 5000003 (gb N day more)):=h;rw[e]at h';injection h' with h';exact h'.symm
theorem QO(N day:Int)(more:List aL)(d:Int):FG 5000003 (gb N day more) d=(decide (10<=d)&&decide (d<=17)):=by unfold FG;rw[aqo];rfl
theorem apJ(N day:Int)(more:List aL)(hm:more.length<=100)(ha:∀c∈more,c.attacks.length<=1000):ao1 (gb N day more):=by
 refine⟨by simp[gb],by simp[gb];omega,λc hc=>?_⟩;simp only[gb,List.cons_append,fI,aH]at hc;rcases hc with rfl |rfl |hc
 ·exact Nat.zero_le _
 ·show 1<=1000;decide
 ·exact ha c hc
theorem NB{N day:Int}{more:List aL}{want:List Int}{bs:List Bool}{g:Bool}(hm:more.length<=100)(ha:∀c∈more,c.attacks.length<=1000)(hw:want.length<=100)(h1:Yk 5000003 (gb N day more)=bs)
 (h2:(nE (gb N day more)).bind (λ r1=>(bif (!r1)then some (([]:List Int),false)else(some bs).bind λr2=>ck (decide ((r2.length:Int)<=(r2.length:Int))&&(decide (0<=(r2.length:Int))&&sQ (r2.length:Int) 72)) ((iter (zb 5000003 (gb N day more) r2) 5000003 ((0:Int),(List.replicate ((r2.length:Int):Int).toNat (aL.mk 0 0 ([]) 0 (⟨#[]⟩) 0)))).bind λw1=>ck (az (sub w1 0 (((r2.length:Int):Int).toNat)).length (((r2.length:Int):Int).toNat)) ((za 5000003 (sub w1 0 (((r2.length:Int):Int).toNat))).bind λr4=>(iter (ze r2 r4) 5000003 ((0:Int),r4.1)).bind λw2=>ck (cN 0 r4.1.length) ((bj w2 ((0:Nat)+0:Int)).bind λx6=>ck (az (sub w2 0 r4.1.length).length r4.1.length) (some ((sub w2 0 r4.1.length),(x6==(1:Int)))))))))=some (want,g)):uF 5000003 (gb N day more) want g=some true:=by
 have hc:=akH (apI N day more) (apJ N day more hm ha);rw[h1]at hc;have ho:rQ 5000003 (gb N day more)=some (want,g):=by unfold rQ;rw[hc];exact h2
 unfold uF;rw[ho];simp only[ai,eU,aJ,aj,afI (n:=5000003) (a:=want) (b:=want) (by omega) (by decide),decide_true,beq_self_eq_true]
theorem SP(N day:Int)(g:Bool)(h:fL 5000003 (gb N day []) 1=g):Yk 5000003 (gb N day [])=[true,g]:=by show [fL 5000003 (gb N day []) 0,fL 5000003 (gb N day []) 1]=_;rw[h];rfl
theorem aoC:J4 5000003=some true:=by
 have a1:uF 5000003 (gb 9 12 []) [2,1] false=some true:=NB (Nat.zero_le _) (λ _ h=>by cases h) (by decide) (SP 9 12 true (by unfold fL ownB;rw[QO];kernel_rfl)) (by kernel_rfl);have a2:uF 5000003 (gb 8 12 []) [1,2] true=some true:=NB (Nat.zero_le _) (λ _ h=>by cases h) (by decide) (SP 8 12 false (by unfold fL ownB;rw[QO];kernel_rfl)) (by kernel_rfl);have a3:uF 5000003 (gb 9 18 []) [1,2] true=some true:=NB (Nat.zero_le _) (λ _ h=>by cases h) (by decide) (SP 9 18 false (by unfold fL ownB;rw[QO];kernel_rfl)) (by kernel_rfl);have a4:uF 5000003 (gb 9 17 []) [2,1] false=some true:=NB (Nat.zero_le _) (λ _ h=>by cases h) (by decide) (SP 9 17 true (by unfold fL ownB;rw[QO];kernel_rfl)) (by kernel_rfl);have a5:uF 5000003 (gb 9 12 [aL.mk 7 12 [1] 0 ⟨#[]⟩ 0]) [1,2,1] true=some true:=NB (bs:=[true,true,true]) (by decide) (λ c h=>by simp at h;subst h;show 1<=1000;decide) (by decide) (by
  show [fL 5000003 (gb 9 12 [aL.mk 7 12 [1] 0 ⟨#[]⟩ 0]) 0,fL 5000003 (gb 9 12 [aL.mk 7 12 [1] 0 ⟨#[]⟩ 0]) 1,fL 5000003 (gb 9 12 [aL.mk 7 12 [1] 0 ⟨#[]⟩ 0]) 2]=_;have c1:fL 5000003 (gb 9 12 [aL.mk 7 12 [1] 0 ⟨#[]⟩ 0]) 1=true:=by unfold fL ownB;rw[QO];kernel_rfl
  have c2:fL 5000003 (gb 9 12 [aL.mk 7 12 [1] 0 ⟨#[]⟩ 0]) 2=true:=by unfold fL ownB;rw[QO];kernel_rfl
  rw[c1,c2];rfl) (by kernel_rfl)
 have d:gJ 5000003 (gb 9 12 [])=some (17,0):=by rw[(Jc (apI 9 12 [])).1,aqo]
 have k1:(sub ([1]:List Int) 0 1)=[1]:=rfl;have k2:(sub ([2,1]:List Int) 0 2)=[2,1]:=rfl;have k3:(sub ([1,2]:List Int) 0 2)=[1,2]:=rfl;have k4:(sub ([1,2,1]:List Int) 0 3)=[1,2,1]:=rfl;have a5':uF 5000003 (aG.mk (gb 9 12 []).cj (gb 9 12 []).aw (gb 9 12 []).b7 (gb 9 12 []).aE (gb 9 12 []).br (gb 9 12 []).b8 (gb 9 12 []).cw (gb 9 12 []).b9 (gb 9 12 []).df (gb 9 12 []).cR (gb 9 12 []).c8 (gb 9 12 []).cX (gb 9 12 []).ek (gb 9 12 []).cd (gb 9 12 []).cg (gb 9 12 []).rule (gb 9 12 []).ix (gb 9 12 []).gz (gb 9 12 []).eV (gb 9 12 []).stays (gb 9 12 []).cases ((gb 9 12 []).claims++[aL.mk 7 12 [1] 0 ⟨#[]⟩ 0])) [1,2,1] true=some true:=a5;have ap1:bK ([]:List aL).length 0 (gb 9 12 []).claims.length (gb 9 12 []).claims.length 72=true:=by decide
 have ap2:bK ([]++(gb 9 12 []).claims).length ([]++(gb 9 12 []).claims).length (sub ([aL.mk 7 12 [1] 0 ⟨#[]⟩ 0]:List aL) 0 1).length 1 72=true:=by decide
 have k5:sub ([aL.mk 7 12 [1] 0 ⟨#[]⟩ 0]:List aL) 0 1=[aL.mk 7 12 [1] 0 ⟨#[]⟩ 0]:=rfl;unfold J4;rw[am7];simp only[ai,ap1,aj,fu,k1,k2,k3,k4,List.length_singleton,aJ,ap2,k5,d,a1,am7,a2,a3,fI,eU,a5',a4,beq_self_eq_true];rfl
end
mutual
theorem aoD:∀g:cu,(toE g).wt<=gY (rF g)
 |⟨op,n,s,key,args⟩=>by have:=OO args;simp[toE,ET.wt,rF,gY,nb];omega
theorem OO:∀l:List cu,ET.tP (IB l)<=wX (tK l)
 |[]=>by simp[IB,ET.tP]
 |x::xs=>by have h1:=aoD x;have h2:=OO xs;simp[IB,ET.tP,tK,wX];omega
end
theorem abF:∀l:List gH,sB (l.map toD)<=wX (l.map Bo)
 |[]=>by simp[sB]
 |x::xs=>by have h1:=abF xs;have h2:=OO x.eQ;simp[sB]at h1;simp[sB,toD,ET.wt,wX,Bo,gY,nb,<- tL];omega
theorem akI(t:dX):sB (t.cC.map toD)<=gY (Am t):=by have:=abF t.cC;simp[Am,gY,nb];omega
theorem Ym{r:List Tree}:∀{l:List (List Tree)},r∈l->gY r<=wX l
 |x::l,h=>by rw[wX];rcases aH.1 h with rfl |h;omega;have:=Ym h;omega
theorem akJ(r:bX):(toE (mC r)).wt<=gY (vV r):=by have h:=OO r.gh;rw[tL]at h;simp[mC,toE,ET.wt,vV,gY,nb];omega
theorem abG:∀l:List Int,l.length<=wX (l.map λy=>[Tree.sc (.int .i64 y)])
 |[]=>by simp
 |x::l=>by have:=abG l;simp[wX,gY,nb];omega
theorem apK{t:dX}(h:gY (Am t)<=2000000):ao0 t:=by
 have hd:=Nat.le_trans (akI t) h;simp[Am,gY,nb]at h;refine⟨by unfold ik;omega,λr hr=>?_,λl hl=>?_⟩;have h1:=akJ r;have h2:=Ym (mem_map.2 ⟨r,hr,rfl⟩:vV r∈t.aq.map vV);omega;have h1:=abG l.from_;have h2:=Ym (mem_map.2 ⟨l,hl,rfl⟩:Ir l∈t.land.map Ir);have h3:wX (l.from_.map λy=>[Tree.sc (.int .i64 y)])<=gY (Ir l):=by simp[Ir,gY,nb];omega
 omega
theorem Yn{α:Type}(f:α->List Tree)(hf:∀x,1<=gY (f x)):∀l:List α,l.length<=wX (l.map f)
 |[]=>by simp
 |x::l=>by have h:=Yn f hf l;have h1:=hf x;simp[wX];omega
theorem Yo:∀a b:List Tree,gY (a++b)=gY a+gY b
 |[],b=>by simp[gY]
 |x::a,b=>by rw[List.cons_append,gY,gY,Yo a b];omega
theorem apL{h:aG}(hb:gY (jB h)<=1048576):Rr h:=by
 have e:∃r,jB h=Am (cD h)++(vG (cH h)++r):=⟨_,rfl⟩;obtain⟨r,e⟩:=e;rw[e,Yo,Yo]at hb;have a2:=Yn EB (λ x=>by simp only[EB,gY,nb];omega) h.br;have a3:=Yn yS (λ x=>by simp only[yS,gY,nb];omega) h.cg;have b2:wX (h.br.map EB)<=gY (Am (cD h)):=by simp only[Am,cD,gY,nb];omega
 have b3:wX (h.cg.map yS)<=gY (vG (cH h)):=by simp only[vG,cH,gY,nb];omega
 exact⟨apK (by omega),by omega,by omega⟩
theorem apM{cs:List (CT xx.ι)}(q:HL xx.toSE (.st SI.fm::cs))(hb:VX (HL.oa xx.toSE (.st SI.fm::cs) q)<=1048576):Rr q.1:=by have h2:gY (jB q.1)+VX (HL.oa xx.toSE cs q.2)<=1048576:=hb;exact apL (by omega)
noncomputable section
theorem am8{l:List aZ}(hn:∀i j (hi:i<l.length) (hj:j<l.length),eb l[i].name l[j].name=decide (i=j))(i:Nat)(hi:i<l.length)(m:Int):(l.any λx=>eb l[i].name x.name&&(m==x.n))=(m==l[i].n):=by
 rw[eH,List.any_eq_true];constructor
 ·rintro⟨x,hx,h⟩;obtain⟨j,hj,rfl⟩:=List.getElem_of_mem hx;rw[hn i j hi hj,aY,bD]at h;obtain⟨rfl,h⟩:=h;exact h
 ·intro h;exact⟨l[i],getElem_mem hi,by rw[hn i i hi hi,h];simp⟩
theorem ah4{n:Nat}{h:aG}:∀i j (hi:i<(rz n h).length) (hj:j<(rz n h).length),eb (rz n h)[i].name (rz n h)[j].name=decide (i=j):=by
 intro i j hi hj;have hm:(rz n h).map (·.name)=mN:=rfl;have hl:(rz n h).length=9:=rfl;have key:((List.range 9).all λi=>(List.range 9).all λj=>eb (mN.getD i ⟨#[]⟩) (mN.getD j ⟨#[]⟩)==decide (i=j))=true:=by kernel_rfl
 rw[all_eq_true]at key;have k1:=key i (by rw[List.mem_range];omega);rw[all_eq_true]at k1;have k2:=k1 j (by rw[List.mem_range];omega);rw[beq_iff_eq]at k2;have e:∀(k:Nat)(hk:k<(rz n h).length),mN.getD k ⟨#[]⟩=(rz n h)[k].name:=λk hk=>by rw[<- hm];simp[hk]
 rw[e i hi,e j hj]at k2;exact k2
theorem am9{h:aG}{a:Int}(hl:h.cases.length<=1000)(hn:2000<=n):iter (eY h a) n ((-1),0)=some (qW (λ x=>x.id==a) h.cases):=by
 have hq:∀i (hi:i<h.cases.length),eY h a ((-1),(i:Int))=some (.inl (bif h.cases[i].id==a then(i:Int)else -1,((i+1:Nat):Int))):=λi hi=>by simp only[eY,bV hi,aj,show decide ((-1:Int)<0)=true from rfl,ai,aU hi,aX i];cases h.cases[i].id==a<;>rfl
 unfold qW;rcases yQ (λ x:Al=>x.id==a) h.cases with ⟨i,hi,e1,e2,e3⟩ |⟨e1,e2⟩
 ·rw[e1];have:=iD (step:=eY h a) (λ k=>if k<=i then((-1:Int),(k:Int))else((i:Int),(k:Int))) (i+1) (i:Int) (λ k hk=>?_) ?_ n (by omega)
  ·simpa using this
  ·rw[aS (show k<=i by omega),hq k (by omega)];by_cases e:k=i
   ·subst e;rw[e2,aR (by omega)];rfl
   ·rw[e3 k (by omega),aS (show k+1<=i by omega)];rfl
  ·rw[aR (show ¬i+1<=i by omega)];simp only[eY,show decide ((i:Int)<0)=false by simp,Di];cases decide (((i+1:Nat):Int)<(h.cases.length:Int))<;>rfl
 ·rw[e1];have:=iD (step:=eY h a) (λ k=>((-1:Int),(k:Int))) h.cases.length (-1) (λ k hk=>by rw[hq k hk,e2 _ (getElem_mem hk)];rfl) (by simp[eY]) n (by omega);exact this
theorem OQ(h:aG)(s:ByteArray)(a:Int)(hz:Rr h):qD 5000003 h s a=some true:=by
 have⟨b,hf,ho⟩:=am6 (n:=5000003) aqm hz;unfold qD;rw[aoC,hf];cases b with
 |false=>rfl
 |true=>
  obtain⟨o,-⟩:=ho rfl;have hl9:(rz 5000003 h).length=9:=rfl;have hbl:=SS o;have hB:=abA h.rule o.town o.draw o.fuel;unfold cD cH at hB;have hc:=o.cases;have s1:iter (jL 5000003 h a (ZM h) (rz 5000003 h)) 5000003 0=some (.inl ()):=by
   refine iD (step:=jL 5000003 h a (ZM h) (rz 5000003 h)) (λ i=>(i:Int)) 9 _ (λ i hi=>?_) ?_ 5000003 (by decide)
   ·have hi':i<(rz 5000003 h).length:=(by omega);have tr:∀m,Jd 5000003 h (aL.mk 0 0 [] 1 (rz 5000003 h)[i].name m)=((ZM h).2&&(m==(rz 5000003 h)[i].n)):=λm=>(by rw[<- am8 ah4 i hi' m];rfl);simp only[jL,bV hi',aj,bA hi',ip,Int.zero_add,aU hi',ai,Vg o,tr,beq_self_eq_true,Bool.and_true,aX i];cases (ZM h).2<;>simp
   ·simp[jL,hl9]
  have s2:iter (jM 5000003 h s a (iZ 5000003 (cD h) (cH h) h.rule,uX 5000003 (cD h) (cH h))) 5000003 (false,0)=some (.inl ((iZ 5000003 (cD h) (cH h) h.rule).any λx=>eb x s&&(uX 5000003 (cD h) (cH h)==0))):=by
   have:=eF (l:=iZ 5000003 (cD h) (cH h) h.rule) (step:=jM 5000003 h s a (iZ 5000003 (cD h) (cH h) h.rule,uX 5000003 (cD h) (cH h))) (λ i (v:Bool)=>(v,(i:Int))) (λ x v=>v || (eb x s&&(uX 5000003 (cD h) (cH h)==0))) (λ v=>(.inl v:Bool⊕Bool)) (λ _ _=>True) (λ i hi v _=>⟨?_,trivial⟩) (λ v _=>by simp[jM]) 5000003 (by omega) false trivial
   ·rw[ip]at this;rw[this];have gen:∀(l:List ByteArray) (v:Bool),l.foldl (λ v x=>v || (eb x s&&(uX 5000003 (cD h) (cH h)==0))) v=(v || l.any λx=>eb x s&&(uX 5000003 (cD h) (cH h)==0)):=by
     intro l
     induction l with
     |nil=>intro v;simp
     |cons x l ih=>intro v;rw[foldl_cons,ih,List.any_cons,Bool.or_assoc]
    rw[gen,Bool.false_or]
   ·have tr:Jd 5000003 h (aL.mk 0 0 [] 2 (iZ 5000003 (cD h) (cH h) h.rule)[i] a)=(uX 5000003 (cD h) (cH h)==0):=(by have:((iZ 5000003 (cD h) (cH h) h.rule).any (eb (iZ 5000003 (cD h) (cH h) h.rule)[i]))=true:=List.any_eq_true.2 ⟨_,getElem_mem hi,am2 _⟩;show((uX 5000003 (cD h) (cH h)==0)&&(iZ 5000003 (cD h) (cH h) h.rule).any (eb (iZ 5000003 (cD h) (cH h) h.rule)[i]))=_;rw[this,Bool.and_true]);have e:(ByteArray.toList (iZ 5000003 (cD h) (cH h) h.rule)[i]==ByteArray.toList s)=eb (iZ 5000003 (cD h) (cH h) h.rule)[i] s:=rfl;simp only[jM,bV hi,aj,bA hi,ip,Int.zero_add,aU hi,ai,Vg o,tr,e,aX i];cases v<;>cases eb (iZ 5000003 (cD h) (cH h) h.rule)[i] s<;>cases uX 5000003 (cD h) (cH h)==0<;>rfl
  have t9:Jd 5000003 h (aL.mk 0 0 [] 3 ⟨#[103,114,97,110,116,101,100]⟩ a)=match h.cases.find? λx=>x.id==a with |some x=>x.grant |none=>false:=by show Yj h _=_;unfold Yj;have e1:eb ⟨#[103,114,97,110,116,101,100]⟩ Mc=true:=(by kernel_rfl);have e2:eb ⟨#[103,114,97,110,116,101,100]⟩ AR=false:=(by kernel_rfl);simp only[e1,e2,Bool.true_and,Bool.false_and,Bool.or_false]
  have t10:Jd 5000003 h (aL.mk 0 0 [] 3 ⟨#[114,101,102,117,115,101,100]⟩ a)=match h.cases.find? λx=>x.id==a with |some x=>!x.grant |none=>false:=by show Yj h _=_;unfold Yj;have e1:eb ⟨#[114,101,102,117,115,101,100]⟩ Mc=false:=(by kernel_rfl);have e2:eb ⟨#[114,101,102,117,115,101,100]⟩ AR=true:=(by kernel_rfl);simp only[e1,e2,Bool.true_and,Bool.false_and,Bool.false_or]
  have t11:Jd 5000003 h (aL.mk 0 0 [] 2 s 0)=((iZ 5000003 (cD h) (cH h) h.rule).any λx=>eb x s&&(uX 5000003 (cD h) (cH h)==0)):=by
   show((uX 5000003 (cD h) (cH h)==0)&&(iZ 5000003 (cD h) (cH h) h.rule).any (eb s))=_;cases uX 5000003 (cD h) (cH h)==0 with
   |false=>simp
   |true=>
    simp only[Bool.true_and,Bool.and_true];congr 1;funext x;exact am1 s x
  have t12:Jd 5000003 h (aL.mk 0 0 [] 0 s a)=true:=rfl;have t13:Jd 5000003 h (aL.mk 0 0 [] 4 s a)=false:=rfl;unfold cD cH at s2 t11;simp only[ai,Bool.not_true,au,afG o,afH o,s1,iy,hB,s2,am9 (n:=5000003) (h:=h) (a:=a) hc (by decide),Vg o,t9,t10,t11,t12,t13,beq_self_eq_true,aj,Bool.not_false];cases ha:h.cases.any λx=>x.id==a with
  |false=>
   have e1:decide (qW (λ x:Al=>x.id==a) h.cases<0)=true:=(by rw[aeE,ha];rfl);have e2:decide (qW (λ x:Al=>x.id==a) h.cases>=0)=false:=(by rw[pE,ha]);have e3:h.cases.find? (λ x=>x.id==a)=none:=(by rw[List.find?_eq_none];rw[any_eq_false]at ha;exact ha);rw[e1,e2,e3];rfl
  |true=>
   have⟨i,hi,e1,e2⟩:=Xc ha;have e3:decide (qW (λ x:Al=>x.id==a) h.cases<0)=false:=(by rw[aeE,ha];rfl);have e4:decide (qW (λ x:Al=>x.id==a) h.cases>=0)=true:=(by rw[pE,ha]);rw[e3,e4,e2,e1,show max (i:Int) 0=(i:Int)by omega,aU hi];simp only[au,aj,ai];cases h.cases[i].grant<;>rfl
theorem QR(q:HL xx.toSE [.st SI.fm,.str,.int .i64])(hb:VX (HL.oa xx.toSE [.st SI.fm,.str,.int .i64] q)<=1048576):∃k,qD k q.1 q.2.1 q.2.2.1=some true:=⟨5000003,OQ q.1 q.2.1 q.2.2.1 (apM q hb)⟩
end
end Go.Proofs
