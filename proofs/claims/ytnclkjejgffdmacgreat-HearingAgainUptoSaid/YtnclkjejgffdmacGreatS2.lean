import Derived.Test.YtnclkjejgffdmacGreatS1
open Go.IntKind (i64)
open List (mem_map all_eq_true getElem_mem length_map length_nil map_map foldl_cons mem_filter map_congr_left length_singleton filter_append length_filter_le any_eq_false)
namespace Go.Proofs
open Go.Gb Go.RowKit
variable {n:Nat}
theorem all_eq{d:aQ}(h:UF d)(hn:1001<=n):xV n d=some (lH d):=by simp[xV,YT h hn]
theorem aaL(a b:ByteArray)(h:a.size<=4000000):∃r,strings_Contains a b=some r:=by simp only[strings_Contains,Nat.ble_eq_true_of_le h,aj];exact⟨_,rfl⟩
theorem Uf c:∃b,FC c=some b:=fu ⟨_,rfl⟩ ⟨_,rfl⟩
theorem ai5 c:∃b,Rm c=some b:=fu ⟨_,rfl⟩ ⟨_,rfl⟩
theorem alN c:∃b,Bq c=some b:=uq (Uf c) λ_=>fu ⟨_,rfl⟩ (uq (ai5 c) λ_=>⟨_,rfl⟩)
theorem agJ{s:ByteArray}{i:Nat}(h:i<s.size):∃c,Tz s i=some c:=by simp only[Tz,show decide (0<=i)=true from by simp,aj,Int.toNat_natCast];rw[getElem?_pos s i h];exact⟨_,rfl⟩
theorem alO{s:ByteArray}{Z:(Int×Unit)->J Bool}(h:∀c,∃b,Z (c,())=some b)(hs:s.size<=4000000)(hn:4000002<=n):∃r,O8 n s Z=some r:=by
 obtain⟨o,h1,_⟩:=fE (step:=Bp s Z) (λ i v=>v=i/\i<=s.size) (λ _=>True) s.size (λ k v h=>h.2) (by
  rintro i v ⟨rfl,hi⟩;by_cases hlt:i<s.size;have⟨c,hc⟩:=agJ hlt;have⟨b,hb⟩:=h c;simp only[Bp,show decide ((i:Int)<s.size)=true from by simp;omega,aj,hc,ai,hb,aZ i];cases b with
  |true=>exact .inl ⟨_,rfl,rfl,hlt⟩
  |false=>exact .inr ⟨_,rfl,trivial⟩
  simp only[Bp,show decide ((i:Int)<s.size)=false from by simp;omega,au,ai];exact .inr ⟨_,rfl,trivial⟩) n 0 0 ⟨rfl,Nat.zero_le _⟩ (by omega)
 simp only[O8,h1,ai];exact⟨_,rfl⟩
theorem alP(s:ByteArray)(hn:4000002<=n):∃b,O9 n s=some b/\(b=true->s.size<=20):=by
 simp only[O9];cases h0:(ByteArray.toList s==ByteArray.toList (⟨#[]⟩))with
 |true=>exact⟨false,by simp,λh=>(by cases h)⟩
 |false=>
  have hs:0<s.size:=by refine Nat.pos_of_ne_zero λh=>?_;have:s=⟨#[]⟩:=(by obtain⟨⟨l⟩⟩:=s;have:l.length=0:=h;rw[List.eq_nil_of_length_eq_zero this]);rw[this]at h0;simp at h0
  have⟨c,hc⟩:=agJ hs;have hc':Tz s 0=some c:=hc;have⟨b,hb⟩:=Uf c;simp only[au,hc',ai,hb];cases b with
  |false=>exact⟨false,by simp,λh=>(by cases h)⟩
  |true=>
   simp only[Bool.not_true,au,ai];by_cases h20:(s.size:Int)>20;exact⟨false,by simp[h20],λh=>(by cases h)⟩;obtain⟨r,hr⟩:=alO (n:=n) (s:=s) (Z:=λ(y1:Int×Unit)=>Bq y1.1) (λ c=>alN c) (by omega) hn;simp only[h20,decide_false,au,hr,ai];exact⟨_,rfl,λ_=>by omega⟩
theorem alQ(s:ByteArray)(hn:4000002<=n):∃b,xW n s=some b:=by
 have⟨b,hb,h20⟩:=alP (n:=n) s hn;simp only[xW,hb,ai];cases b with
 |false=>exact⟨_,rfl⟩
 |true=>
  have hs:=h20 rfl;have hmx:maxLen=9223372036854775807:=rfl;have c1:Xf (⟨#[32]⟩) s=true:=by have:(⟨#[32]⟩:ByteArray).size=1:=rfl;simp[Xf];omega
  have c2:Xf ((⟨#[32]⟩)++s) (⟨#[32]⟩)=true:=by have h1:(⟨#[32]⟩:ByteArray).size=1:=rfl;simp[Xf];omega
  simp only[aj,c1,c2];refine uq (aaL _ _ (Nat.le_of_ble_eq_true ?_)) λ_=>⟨_,rfl⟩
  kernel_rfl
theorem alR(a b:Hm):∃r,yT a b=some r:=by unfold yT;rw[Ac];exact fu (fu ⟨_,rfl⟩ ⟨_,rfl⟩) ⟨_,rfl⟩
theorem gu{l:Y aG}{Z:(aG×Unit)->J Bool}(p:aG->Bool)(h:∀x∈l,Z (x,())=some (p x))(hl:l.length<1099511627776)(hn:l.length<n):fZ n l Z=some (l.any p):=by have:rW n l Z=some (yP p l):=fU p h hl hn;simp[fZ,this,sS]
theorem zf{l:Y aG}{Z:(aG×Unit)->J Bool}(h:∀x∈l,∃b,Z (x,())=some b)(hl:l.length<1099511627776)(hn:l.length<n):fZ n l Z=some (l.any λx=>(Z (x,())).getD false):=
 gu _ (λ x hx=>by have⟨b,hb⟩:=h x hx;rw[hb];rfl) hl hn
def N6(d:aQ):Prop:=∀p∈d.phases,p.gives.length<=1000
theorem ai6{l:Y aG}(hl:l.length<=1000000)(hn:4000002<=n):iter (lT n l) n 0=some (.inr false)\/(iter (lT n l) n 0=some (.inl ())/\∀v∈l,okV v=true):=by
 obtain⟨o,h1,h2⟩:=fE (step:=lT n l) (λ i v=>v=i/\i<=l.length/\∀x∈l.take i,okV x=true) (λ o=>o=.inr false\/(o=.inl ()/\∀v∈l,okV v=true)) l.length (λ k v h=>h.2.1) (by
  rintro i v ⟨rfl,hi,hall⟩;by_cases hlt:i<l.length;simp only[lT,show decide ((i:Int)<l.length)=true from by simp;omega,aj,aV hlt,bJ hlt,ai,vH,aZ i];cases hv:okV l[i]with
  |false=>exact .inr ⟨_,by simp only[Bool.not_false,aj,ai];rfl,.inl rfl⟩
  |true=>
   have hsub:(sub l 0 i).length=i:=(by simp[sub];omega);have hc:=zf (n:=n) (l:=sub l 0 i) (Z:=λ(y1:aG×Unit)=>sZ y1.1 l[i]) (λ x _=>uq (alR _ _) λ_=>⟨_,rfl⟩) (by omega) (by omega);simp[zo (show 0<=0 by omega) (show (0:Int)<=i by omega) (show (i:Int)<=l.length by omega),Q8 hsub,hc];cases ((sub l 0 i).any λx=>((λ (y1:aG×Unit)=>sZ y1.1 l[i]) (x,())).getD false)with
   |true=>exact .inr ⟨_,rfl,.inl rfl⟩
   |false=>
    refine .inl ⟨_,rfl,rfl,hlt,λx hx=>?_⟩;rw[List.take_add_one,dI hlt,bI]at hx;rcases hx with hx|hx;exact hall x hx;simp at hx;subst hx;exact hv
  refine .inr ⟨.inl (),?_,.inr ⟨rfl,λv hv=>hall v (by rw[List.take_of_length_le (by omega)];exact hv)⟩⟩;simp only[lT,show decide ((i:Int)<l.length)=false from by simp;omega,au]) n 0 0 ⟨rfl,Nat.zero_le _,by simp⟩ (by omega)
 rcases h2 with rfl|⟨rfl,h2⟩;exact .inl h1;exact .inr ⟨h1,h2⟩
theorem ai7{p:lI}(hp:p.gives.length<=1000)(hn:4000002<=n):iter (lU n p) n (0,[])=some (.inl ())\/iter (lU n p) n (0,[])=some (.inr (.inr (.inr false))):=by
 obtain⟨o,h1,h2⟩:=fE (step:=lU n p) (λ i (v:Int×List (ByteArray×Bool))=>∃m,v=((i:Int),m)/\i<=p.gives.length) (λ o=>o=.inl ()\/o=.inr (.inr (.inr false))) p.gives.length (λ k v ⟨_,_,h⟩=>h) (by
  rintro i v ⟨m,rfl,hi⟩;by_cases hlt:i<p.gives.length;have key:∃b,((bif ((gQ Gb.fg p.gives[i].name m).getD false)then some true else(xW n p.gives[i].name).bind λr4=>(bif (!r4)then some true else(bif (decide (p.gives[i].n<0))then some true else some (decide (p.gives[i].n>1073741824))))):J (Bool))=some b:=
   fu ⟨_,rfl⟩ (uq (alQ _ hn) λ_=>fu ⟨_,rfl⟩ (fu ⟨_,rfl⟩ ⟨_,rfl⟩))
  obtain⟨b,hb⟩:=key;simp only[lU,show decide ((i:Int)<p.gives.length)=true from by simp;omega,aj,aO hlt,ai,hb,aZ i];cases b with
  |true=>exact .inr ⟨_,rfl,.inr rfl⟩
  |false=>exact .inl ⟨_,rfl,_,rfl,hlt⟩
  simp only[lU,show decide ((i:Int)<p.gives.length)=false from by simp;omega,au];exact .inr ⟨_,rfl,.inl rfl⟩) n 0 _ ⟨[],rfl,Nat.zero_le _⟩ (by omega)
 rcases h2 with rfl|rfl;exact .inl h1;exact .inr h1
theorem ai8{d:aQ}(hd:UF d)(hg:N6 d)(hn:4000002<=n):iter (lV n d) n 0=some (.inl ())\/iter (lV n d) n 0=some (.inr false):=by
 have hd1:=hd.1;obtain⟨o,h1,h2⟩:=fE (step:=lV n d) (λ i v=>v=i/\i<=d.phases.length) (λ o=>o=.inl ()\/o=.inr false) d.phases.length (λ k v h=>h.2) (by
  rintro i v ⟨rfl,hi⟩;by_cases hlt:i<d.phases.length;simp only[lV,show decide ((i:Int)<d.phases.length)=true from by simp;omega,aj,aO hlt,ai,aZ i];rcases ai7 (n:=n) (hg _ (getElem_mem hlt)) hn with h|h;simp[h];cases decide ((d.phases[i].gives.length:Int)>30)with
  |true=>exact .inr ⟨_,rfl,.inr rfl⟩
  |false=>exact .inl ⟨_,rfl,rfl,hlt⟩
  simp only[h,tZ];exact .inr ⟨_,rfl,.inr rfl⟩;simp only[lV,show decide ((i:Int)<d.phases.length)=false from by simp;omega,au];exact .inr ⟨_,rfl,.inl rfl⟩) n 0 0 ⟨rfl,Nat.zero_le _⟩ (by omega)
 rcases h2 with rfl|rfl;exact .inl h1;exact .inr h1
theorem KS{d:aQ}(hd:UF d):(lH d).length<=1000000:=by have:=fp hd.2;have:=hd.1;unfold lH;omega
theorem apU{d:aQ}(hd:UF d)(hg:N6 d)(hn:4000002<=n):∃b,yU n d=some b/\(b=true->∀v∈lH d,okV v=true):=by
 simp only[yU,all_eq hd (show 1001<=n by omega),ai];have key:∀c1 c2 c3 c4 c5 c6:Bool,∃b,((bif c1 then some true else(bif c2 then some true else(bif c3 then some true else(bif c4 then some true else(bif c5 then some true else some c6))))):J Bool)=some b:=by intro c1 c2 c3 c4 c5 c6;exact fu ⟨_,rfl⟩ (fu ⟨_,rfl⟩ (fu ⟨_,rfl⟩ (fu ⟨_,rfl⟩ (fu ⟨_,rfl⟩ ⟨_,rfl⟩))))
 have⟨b,hb⟩:=key (decide (d.lot<0)) (decide (d.lot>1073741824)) (decide ((d.phases.length:Int)<1)) (decide ((d.phases.length:Int)>8)) (decide (((lH d).length:Int)<1)) (decide (((lH d).length:Int)>40));rw[hb];cases b with
 |true=>exact⟨false,rfl,λh=>(by cases h)⟩
 |false=>
  simp only[ai,au];rcases ai6 (n:=n) (KS hd) hn with h|⟨h,hall⟩;simp only[h,tZ];exact⟨false,rfl,λh=>(by cases h)⟩;simp only[h,gG];rcases ai8 (n:=n) hd hg hn with h2|h2;simp only[h2,gG];exact⟨true,rfl,λ_=>hall⟩;simp only[h2,tZ];exact⟨false,rfl,λh=>(by cases h)⟩
theorem F5{l:Y jI}{Z:(jI×Unit)->J Bool}(p:jI->Bool)(h:∀x∈l,Z (x,())=some (p x))(hl:l.length<1099511627776)(hn:l.length<n):nQ n l Z=some (l.any p):=by have:wO n l Z=some (yP p l):=fU p h hl hn;simp[nQ,this,sS]
theorem aoh{lot:fM}{l:Y aG}(ha:lot.area.length<=900)(hv:∀v∈l,okV v=true)(hl:l.length<=1000000)(hn:4000002<=n):iter (kJ n lot l) n 0=some (.inl ())\/iter (kJ n lot l) n 0=some (.inr false):=by
 obtain⟨o,h1,h2⟩:=fE (step:=kJ n lot l) (λ i v=>v=i/\i<=l.length) (λ o=>o=.inl ()\/o=.inr false) l.length (λ k v h=>h.2) (by
  rintro i v ⟨rfl,hi⟩;by_cases hlt:i<l.length;have hb:=YS (hv _ (getElem_mem hlt));have hcl:=adT (keep:=λp q=>p&&q) lot.area [iC l[i]];have hc:=adS (n:=n) (a:=lot.area) (b:=[iC l[i]]) (by omega) (by simp) (by omega) (by simp;omega) (by omega);have hA:=YD (n:=n) (a:=(vG (λ p q=>p&&q) lot.area [iC l[i]]).1) (by omega) (by omega);have hr:=Ee hb;simp[iC]at hc hA hr;simp only[kJ,show decide ((i:Int)<l.length)=true from by simp;omega,aj,aV hlt,bJ hlt,ai,show ∀r:ax,sub [r] 0 1=[r]from λ_=>rfl,length_singleton,aH,hc,hA,hr,aZ i];have key:∀c x:Bool,∃b,((bif c then some true else some x):J Bool)=some b:=λc x=>fu ⟨_,rfl⟩ ⟨_,rfl⟩;obtain⟨b,hb2⟩:=key ((vG (λ p q=>p&&q) lot.area [⟨l[i].ct,l[i].cH,l[i].co,l[i].cE⟩]).2 !=0) (decide ((bif da (vG (λ p q=>p&&q) lot.area [⟨l[i].ct,l[i].cH,l[i].co,l[i].cE⟩]).1 then M0 (vG (λ p q=>p&&q) lot.area [⟨l[i].ct,l[i].cH,l[i].co,l[i].cE⟩]).1 else 0)<PB ⟨l[i].ct,l[i].cH,l[i].co,l[i].cE⟩));rw[hb2];cases b with
  |true=>exact .inr ⟨_,rfl,.inr rfl⟩
  |false=>exact .inl ⟨_,rfl,rfl,hlt⟩
  simp only[kJ,show decide ((i:Int)<l.length)=false from by simp;omega,au];exact .inr ⟨_,rfl,.inl rfl⟩) n 0 0 ⟨rfl,Nat.zero_le _⟩ (by omega)
 rcases h2 with rfl|rfl;exact .inl h1;exact .inr h1
theorem aoi{p:bO}{ph:lI}(hc:p.caps.length<=4000000)(hp:ph.gives.length<=1000)(hn:4000002<=n):iter (kK n p ph) n 0=some (.inl ())\/iter (kK n p ph) n 0=some (.inr (.inr (.inr false))):=by
 obtain⟨o,h1,h2⟩:=fE (step:=kK n p ph) (λ i v=>v=i/\i<=ph.gives.length) (λ o=>o=.inl ()\/o=.inr (.inr (.inr false))) ph.gives.length (λ k v h=>h.2) (by
  rintro i v ⟨rfl,hi⟩;by_cases hlt:i<ph.gives.length;simp only[kK,show decide ((i:Int)<ph.gives.length)=true from by simp;omega,aj,aO hlt,ai,F5 (n:=n) (l:=p.caps) (Z:=λ(y1:jI×Unit)=>wN y1.1 ph.gives[i]) (λ c=>ByteArray.toList c.name==ByteArray.toList ph.gives[i].name) (λ _ _=>rfl) (by omega) (by omega),aZ i];cases (p.caps.any λc=>ByteArray.toList c.name==ByteArray.toList ph.gives[i].name)with
  |false=>exact .inr ⟨_,rfl,.inr rfl⟩
  |true=>exact .inl ⟨_,rfl,rfl,hlt⟩
  simp only[kK,show decide ((i:Int)<ph.gives.length)=false from by simp;omega,au];exact .inr ⟨_,rfl,.inl rfl⟩) n 0 0 ⟨rfl,Nat.zero_le _⟩ (by omega)
 rcases h2 with rfl|rfl;exact .inl h1;exact .inr h1
theorem aoj{p:bO}{d:aQ}(hc:p.caps.length<=4000000)(hd:UF d)(hg:N6 d)(hn:4000002<=n):iter (kL n p d) n 0=some (.inl ())\/iter (kL n p d) n 0=some (.inr false):=by have hd1:=hd.1;obtain⟨o,h1,h2⟩:=fE (step:=kL n p d) (λ i v=>v=i/\i<=d.phases.length) (λ o=>o=.inl ()\/o=.inr false) d.phases.length (λ k v h=>h.2) (by rintro i v ⟨rfl,hi⟩;by_cases hlt:i<d.phases.length;simp only[kL,show decide ((i:Int)<d.phases.length)=true from by simp;omega,aj,aO hlt,ai,aZ i];rcases aoi (n:=n) hc (hg _ (getElem_mem hlt)) hn with h|h;simp only[h,gG];exact .inl ⟨_,rfl,rfl,hlt⟩;simp only[h,tZ];exact .inr ⟨_,rfl,.inr rfl⟩;simp only[kL,show decide ((i:Int)<d.phases.length)=false from by simp;omega,au];exact .inr ⟨_,rfl,.inl rfl⟩) n 0 0 ⟨rfl,Nat.zero_le _⟩ (by omega);rcases h2 with rfl|rfl;exact .inl h1;exact .inr h1
theorem alS{p:bO}{lot:fM}{d:aQ}(hc:p.caps.length<=4000000)(ha:lot.area.length<=900)(hd:UF d)(hg:N6 d)(hn:4000002<=n):∃b,qa n p lot d=some b/\(b=true->∀v∈lH d,okV v=true):=by
 have⟨b,hb,hv⟩:=apU (n:=n) hd hg hn;simp only[qa,hb,ai];cases b with
 |false=>exact⟨false,by simp,λh=>(by cases h)⟩
 |true=>
  simp only[Bool.not_true,au,jr (n:=n) (l:=lot.area) (by omega) (by omega) (by omega),ai];cases (lot.id !=d.lot)with
  |true=>exact⟨false,by simp,λh=>(by cases h)⟩
  |false=>
   cases da lot.area with
   |false=>exact⟨false,by simp,λh=>(by cases h)⟩
   |true=>
    simp only[Bool.not_true,au,ai,all_eq hd (show 1001<=n by omega)];rcases aoh (n:=n) ha (hv rfl) (KS hd) hn with h|h;simp only[h,gG];rcases aoj (n:=n) hc hd hg hn with h2|h2;simp only[h2,gG];exact⟨true,rfl,λ_=>hv rfl⟩;simp only[h2,tZ];exact⟨false,rfl,λh=>(by cases h)⟩;simp only[h,tZ];exact⟨false,rfl,λh=>(by cases h)⟩
theorem apV{p:bO}{ms:Y bg}{zs:Y ByteArray}{e:dD}(hp:ai4 p)(hm:ms.length<=4000000)(hz:zs.length<=4000000)(he:(toE e).wt<=4000000)(hn:5000003<=n)(hn2:n<=9223372036854775000):∃v,Bw n p ms zs e=some v:=by
 obtain⟨b,hb,hv⟩:=Ue (n:=n) (by omega) hn2 he;simp[Bw,Eh,hb];cases b with
 |false=>exact⟨_,rfl⟩
 |true=>
  have⟨kn,out,h1,_⟩:=M8 (n:=n) hp hm hz hn hn2;obtain⟨v,h2⟩:=YX (n:=n) (a0:=p.defs) (a2:=p.zones) (a3:=p.rules) (a4:=p.caps) (a5:=p.views) (a6:=p.xp) (a7:=p.hours) (by omega) hp.tabs hz n e kn (hv rfl) he;simp only[Bool.not_true,au,h1,ai,gD,h2];exact⟨_,rfl⟩
section
variable {n:Nat} {d:List gW} {ts:List bQ} {z z':List fO} {r r':List dw} {c c':List jI} {v v':List iG} {su tP:List dM} {h h':Int} {zs:List ByteArray}
theorem JP:∀(m:Nat)(e:dD)(kn:Y (ByteArray×Int)),bS n m d ts z r c v su h zs e kn=bS n m d ts z' r' c' v' tP h' zs e kn
 | 0,_,_=>rfl
 |m+1,e,kn=>by
  have ih:=JP m;have hs:fB n (bS n m) d ts z r c v su h zs e=fB n (bS n m) d ts z' r' c' v' tP h' zs e:=by funext ⟨v1,v2,v3⟩;simp[fB,ih]
  have hr:∀w,jG n d ts z r c v su h zs e w=jG n d ts z' r' c' v' tP h' zs e w:=λ_=>rfl;show fH n (bS n m) d ts z r c v su h zs e kn=fH n (bS n m) d ts z' r' c' v' tP h' zs e kn;simp[fH,hs,Eh,hr]
theorem ai9{ms:Y bg}:(nK n (bO.mk d ts z r c v su h) ms zs).map (λ q=>q.2.2.2.2.2.2.2.2.2)=(nK n (bO.mk d ts z' r' c' v' tP h') ms zs).map (λ q=>q.2.2.2.2.2.2.2.2.2):=by
 have hs:∀w2 r1,gZ n (bO.mk d ts z r c v su h) zs w2 r1=gZ n (bO.mk d ts z' r' c' v' tP h') zs w2 r1:=by intro w2 r1;funext ⟨v6,v7,v8⟩;have hv:∀e kn,gD n d ts z r c v su h zs e kn=gD n d ts z' r' c' v' tP h' zs e kn:=λe kn=>JP n e kn;simp[gZ,hv]
 have ho:oU n (bO.mk d ts z r c v su h)=oU n (bO.mk d ts z' r' c' v' tP h'):=rfl;simp only[nK,hs,ho];cases iter (jf n ms) n (0,([]:(List (ByteArray×Int))),([]:(List (ByteArray×Bool))))with
 |none=>rfl
 |some w=>
  obtain⟨w1,w2⟩:=w;simp only[ai];cases (decide ((d.length:Int)<=d.length)&&(decide (0<=(d.length:Int))&&qg d.length 8))with
  |false=>rfl
  |true=>
   simp only[aj];cases oU n (bO.mk d ts z' r' c' v' tP h')with
   |none=>rfl
   |some r1=>
    simp only[ai];cases (r1.2.2 !=0)with
    |true=>
     simp only[aj];cases aE ((d.length:Int).toNat) (List.replicate (d.length:Int).toNat (0:Int)).length<;>rfl
    |false=>
     simp only[au];cases iter (gZ n (bO.mk d ts z' r' c' v' tP h') zs w2 r1) n (0,w1,List.replicate (d.length:Int).toNat 0)with
     |none=>rfl
     |some q=>
      obtain⟨w3,w4⟩:=q;simp only[ai];cases aE ((d.length:Int).toNat) w4.length<;>rfl
theorem aja{ms:Y bg}{e:dD}(hp:iz d)(ht:Tl ts)(hm:ms.length<=4000000)(hz:zs.length<=4000000)(hn:5000003<=n)(hn2:n<=9223372036854775000):Bw n (bO.mk d ts z r c v su h) ms zs e=Bw n (bO.mk d ts z' r' c' v' tP h') ms zs e:=by have⟨kn,out,h1,_⟩:=M8 (n:=n) (p:=bO.mk d ts z r c v su h) ⟨hp,ht⟩ hm hz hn hn2;have⟨kn2,out2,h2,_⟩:=M8 (n:=n) (p:=bO.mk d ts z' r' c' v' tP h') ⟨hp,ht⟩ hm hz hn hn2;have h3:=ai9 (n:=n) (d:=d) (ts:=ts) (z:=z) (z':=z') (r:=r) (r':=r') (c:=c) (c':=c') (v:=v) (v':=v') (su:=su) (tP:=tP) (h:=h) (h':=h') (zs:=zs) (ms:=ms);rw[h1,h2]at h3;simp[Prod.mk.injEq]at h3;obtain⟨rfl,rfl⟩:=h3;simp[Bw,h1,h2,gD,JP (z:=z) (z':=z') (r:=r) (r':=r') (c:=c) (c':=c') (v:=v) (v':=v') (su:=su) (tP:=tP) (h:=h) (h':=h')]
end
theorem UH{b:ax}{l:Y eu}{s:Y gJ}(ha:∀c∈s,c.area.length<=200)(hs:s.length<=1000)(hl:l.length<=1000)(hn:2000<=n):
 y9 n b l s=some (FX b l&&(FY s&&!(s.any λc=>decide (SJ b l c.area<c.z1)))):=by
 unfold y9;rw[YP b l hl hn];simp;cases hv:FX b l with
 |false=>simp
 |true=>
  have⟨v1,v2⟩:=(ags b l).1 hv;simp[Uc (n:=n) (s:=s) (λ x hx=>by have:=ha x hx;omega) (by omega)];cases hr:FY s with
  |false=>simp
  |true=>
   have⟨_,sok,_⟩:=(YR s).1 hr;simp;rw[uo (λ c=>decide (SJ b l c.area<c.z1)) (λ c hc=>by have:=ha c hc;show tF n c b l=_;unfold tF;rw[UE v1 v2 (vE (sok c hc).rt).1 (by omega) hl hn];rfl) (by omega) (by omega)];simp
def wR(v:aG):Y gJ:=[⟨v.fi,v.ez,[iC v]⟩]
theorem agK(v:aG):y5 v=some (wR v):=rfl
def Wj(b:ax)(p:eu)(v:aG):Bool:=FX b [p]&&(FY (wR v)&&!((wR v).any λc=>decide (SJ b [p] c.area<c.z1)))
def YZ(r:dw):eu:=eu.mk r.jj r.jn r.kB r.kO
theorem ad7(v:aG)(b:ax)(r:dw)(hn:2000<=n):ku n v b r=some (!Wj b (YZ r) v):=by have h:=UH (n:=n) (b:=b) (l:=[YZ r]) (s:=wR v) (by simp[wR]) (by simp[wR]) (by simp) hn;unfold YZ at h;have hl:(wR v).length=1:=rfl;simp[ku,agK,show ∀x:eu,sub [x] 0 1=[x]from λ_=>rfl,h,Wj];rfl
def Th(r:dw)(v:aG):Bool:=bits .and .i64 r.uses (i64.wrap (1*2 ^ v.use.toNat))==0
theorem ad8{v:aG}(h:okV v=true)(r:dw):kz v r=some (Th r v):=by
 have hu:0<=v.use/\v.use<6:=by simp[okV]at h;omega
 have hb:i64.bits=64:=rfl;simp[kz,Th,show(decide (0<=v.use)&&decide (v.use<=i64.bits))=true from by simp;omega]
def Wc(lot:Int)(r:dw)(v:aG)(b:jB):Bool:=(dU b (nG.mk [] [] [] [] [] [] [] 0 [] [] [] [] [] 0 0 [] [] lot [] [] []) v r).getD false
theorem agL{b:jB}{s:nG}{v:aG}{r:dw}:dU b s v r=some (Wc s.b8 r v b):=by
 have key:∃x,dU b (nG.mk [] [] [] [] [] [] [] 0 [] [] [] [] [] 0 0 [] [] s.b8 [] [] []) v r=some x:=by simp only[dU,jM,agl,ai];refine uq (fu ⟨_,rfl⟩ (fu ⟨_,rfl⟩ (fu ⟨_,rfl⟩ ⟨_,rfl⟩))) λ_=>fu ⟨_,rfl⟩ (uq (fu (fu ⟨_,rfl⟩ (fu ⟨_,rfl⟩ ⟨_,rfl⟩)) (fu ⟨_,rfl⟩ ⟨_,rfl⟩)) λ_=>fu ⟨_,rfl⟩ ⟨_,rfl⟩)
 have e:dU b s v r=dU b (nG.mk [] [] [] [] [] [] [] 0 [] [] [] [] [] 0 0 [] [] s.b8 [] [] []) v r:=rfl;obtain⟨x,hx⟩:=key;rw[e,Wc,hx];rfl
theorem Az{l:Y jB}{Z:(jB×Unit)->J Bool}(p:jB->Bool)(h:∀x∈l,Z (x,())=some (p x))(hl:l.length<1099511627776)(hn:l.length<n):kC n l Z=some (l.any p):=by have:rY n l Z=some (yP p l):=fU p h hl hn;simp[kC,this,sS]
def UV(built:Y jB)(lot:Int)(r:dw)(v:aG):Bool:=built.any (Wc lot r v)
theorem aeb{s:nG}{v:aG}{r:dw}(hb:s.cN.length<=1000)(hn:2000<=n):kD n v s r=some (UV s.cN s.b8 r v):=by simp[kD,tO,Az (n:=n) (l:=s.cN) (Z:=λ(y1:jB×Unit)=>dU y1.1 s v r) (Wc s.b8 r v) (λ x _=>agL) (by omega) (by omega),UV]
def m9(r:dw):dD:=dD.mk r.l4 r.ov r.ot r.kA r.gO
def nb(t:fq):bO:=bO.mk t.cL t.cw t.cz [] t.cT t.cW t.d6 t.cX
structure H4(t:fq):Prop where
 lots:∀l∈t.land,CI l
 land:t.land.length<=1000
 eas:t.cM.length<=900/\∀e∈t.cM,e.area.length<=900
 built:t.built.length<=1000
 zones:t.cz.length<=100
 caps:t.cT.length<=4000000
 rules:t.az.length<=100
 rule:∀r∈t.az,aiS r/\(toE (m9 r)).wt<=4000000
 plan:ai4 (nb t)
def N5(d:aQ):Prop:=UF d/\N6 d
def Hc(n:Nat):Prop:=5000003<=n/\n<=9223372036854775000
def wS(t:fq)(lot:fM):Y ByteArray:=HN t.cz lot.area
def uc(t:fq)(lot:fM)(d:aQ):nG:=nG.mk t.cL t.cw t.cz t.az t.cT t.cW t.d6 t.cX t.land t.cM t.windows t.built t.base lot.id lot.owner lot.area lot.from_ d.lot d.phases (lH d) (wS t lot)
theorem aol{d:aQ}(h:UF d)(hn:1001<=n):uZ n d=some (lH d):=by obtain⟨h1,h2⟩:=h;unfold uZ;have key:=KR (step:=qo d) (λ i=>(i,(d.phases.take i).flatMap (·.b9))) (s:=(0,[])) d.phases.length (lH d) rfl (λ i hi=>by have hl:=fp (l:=d.phases.take i) λp hp=>h2 p (List.mem_of_mem_take hp);rw[List.length_take]at hl;have hv:=h2 _ (getElem_mem hi);generalize hL:(d.phases.take i).flatMap (·.b9)=L at hl;have hap:bF L.length L.length d.phases[i].b9.length d.phases[i].b9.length 72=true:=bV (by omega) (by simp[maxLen];omega);simp only[qo,cK hi,aj,aO hi,ai,hap,dV,aH,aZ i];rw[iY hi,List.flatMap_append,hL];simp) (by simp[qo,lH]) n (by omega);have hz:aE 0 ([]:Y aG).length=true:=rfl;simp[key]
def aom(n:Nat)(t:fq)(d:aQ):Bool:=(qa n (nb t) (dH t.land d.lot).1 d).getD false
def K6(n:Nat)(t:fq)(d:aQ):Int:=bif(dH t.land d.lot).2 then(bif aom n t d then 0 else 1)else 4
def arX:nG:=nG.mk ([]) ([]) ([]) ([]) ([]) ([]) ([]) 0 ([]) ([]) ([]) ([]) ([]) 0 0 ([]) ([]) 0 ([]) ([]) ([])
theorem look_eq{t:fq}{d:aQ}(ht:H4 t)(hd:N5 d)(hn:Hc n):Br n t d=some (bif K6 n t d==0 then uc t (dH t.land d.lot).1 d else arX,K6 n t d)/\(K6 n t d=0->∀v∈lH d,okV v=true):=by
 obtain⟨hn1,hn2⟩:=hn;have hl:=ht.land;have e1:rf n t.land d.lot=some (dH t.land d.lot):=acy ht.lots (by omega) (by omega);have hw:=RB ht.lots d.lot;obtain⟨b,hb,hv⟩:=alS (n:=n) (p:=nb t) (lot:=(dH t.land d.lot).1) (d:=d) ht.caps hw.1 hd.1 hd.2 (by omega);have e2:qa n (bO.mk t.cL t.cw t.cz t.az t.cT t.cW t.d6 t.cX) (dH t.land d.lot).1 d=some b:=hb;have e3:D8 n (bO.mk t.cL t.cw t.cz t.az t.cT t.cW t.d6 t.cX) (dH t.land d.lot).1.area=some (HN t.cz (dH t.land d.lot).1.area):=adZ _ _ ht.zones hw.1 (by omega);have e4:aom n t d=b:=by unfold aom;rw[hb];rfl
 simp[Br,e1,e2,e3,aol hd.1 (show 1001<=n by omega),K6,e4];cases (dH t.land d.lot).2 with
 |false=>exact⟨rfl,λh=>absurd (show (4:Int)=0 from h) (by decide)⟩
 |true=>
  cases b with
  |false=>exact⟨rfl,λh=>absurd (show (1:Int)=0 from h) (by decide)⟩
  |true=>exact⟨rfl,λ_=>hv rfl⟩
def aqp(n:Nat)(t:fq)(lot:fM)(d:aQ)(r:dw):Bool:=((kT n (nb t) lot d).bind λms=>Bw n (nb t) ms (wS t lot) (m9 r)).getD 1==0
def Hb(n:Nat)(t:fq)(lot:fM)(d:aQ)(r:dw):Bool:=
 bif r.kind==0 then aqp n t lot d r else bif r.kind==1 then(lH d).any (λ v=>!Wj (Wh lot.area).1 (YZ r) v)else bif r.kind==2 then(lH d).any (Th r)else bif r.kind==3 then(lH d).any (UV t.built d.lot r)else false
theorem Y0{t:fq}(ht:H4 t)(lot:fM):(wS t lot).length<=100:=Nat.le_trans (apL _ _) ht.zones
theorem alU{t:fq}{lot:fM}{d:aQ}{r:dw}(ht:H4 t)(hl:lot.area.length<=900)(hd:N5 d)(hv:∀v∈lH d,okV v=true)(hr:(toE (m9 r)).wt<=4000000)(hn:Hc n):nS n (uc t lot d) r=some (Hb n t lot d r):=by
 obtain⟨hn1,hn2⟩:=hn;have hvl:=KS hd.1;have hz:=Y0 ht lot;simp only[nS,ic,Hb];cases (r.kind==0)with
 |true=>
  have htb:=ht.plan.tabs;obtain⟨e1,e2,e3,e4,e5,e6,e7,e8,hOf⟩:=arV (n:=n) (p:=nb t) (lot:=lot) (d:=d) ⟨by have:=htb.1;omega,by have:=htb.1;omega,λx hx=>by have:=htb.2 x hx;omega⟩ hl hd.1 (by omega);have h1:=hOf t.az;have h2:=hOf [];have h2':kT n (nb t) lot d=_:=h2;have h1':kT n (bO.mk t.cL t.cw t.cz t.az t.cT t.cW t.d6 t.cX) (fM.mk lot.id lot.owner lot.area lot.from_) (aQ.mk d.lot d.phases)=_:=h1;obtain⟨v,hE⟩:=apV (n:=n) (p:=nb t) (ms:=[⟨⟨#[97,114,101,97]⟩,e1⟩,⟨⟨#[99,111,118,101,114]⟩,e2⟩,⟨⟨#[102,108,111,111,114]⟩,e3⟩,⟨⟨#[102,108,111,111,114,115]⟩,e4⟩,⟨⟨#[104,101,105,103,104,116]⟩,e5⟩,⟨⟨#[104,111,109,101,115]⟩,e6⟩,⟨⟨#[114,117,110,111,102,102]⟩,e7⟩,⟨Eg,Ef (rQ lot) (gI d)⟩,⟨⟨#[116,114,97,102,102,105,99]⟩,e8⟩]) (zs:=wS t lot) (e:=m9 r) ht.plan (by simp) (by omega) hr hn1 hn2;have hE':=(aja (n:=n) (d:=t.cL) (ts:=t.cw) (z:=t.cz) (r:=t.az) (r':=[]) (c:=t.cT) (v:=t.cW) (su:=t.d6) (h:=t.cX) (zs:=wS t lot) (ms:=[⟨⟨#[97,114,101,97]⟩,e1⟩,⟨⟨#[99,111,118,101,114]⟩,e2⟩,⟨⟨#[102,108,111,111,114]⟩,e3⟩,⟨⟨#[102,108,111,111,114,115]⟩,e4⟩,⟨⟨#[104,101,105,103,104,116]⟩,e5⟩,⟨⟨#[104,111,109,101,115]⟩,e6⟩,⟨⟨#[114,117,110,111,102,102]⟩,e7⟩,⟨Eg,Ef (rQ lot) (gI d)⟩,⟨⟨#[116,114,97,102,102,105,99]⟩,e8⟩]) (e:=m9 r) ht.plan.defs ht.plan.tabs (by simp) (by omega) hn1 hn2).trans hE;unfold m9 at hE';simp[uc,h1',hE',aqp,h2',hE]
 |false=>
  cases (r.kind==1)with
  |true=>
   simp only[aj,au,show(uc t lot d).ly=lot.area from rfl,show(uc t lot d).b9=lH d from rfl,ad2 (n:=n) lot.area hl (by omega),ai];rw[gu (λ v=>!Wj (Wh lot.area).1 (YZ r) v) (λ v _=>ad7 v _ r (by omega)) (by omega) (by omega)];rfl
  |false=>
   cases (r.kind==2)with
   |true=>
    simp only[aj,au,show(uc t lot d).b9=lH d from rfl];rw[gu (Th r) (λ v hm=>ad8 (hv v hm) r) (by omega) (by omega)];rfl
   |false=>
    cases (r.kind==3)with
    |true=>
     simp only[aj,au,show(uc t lot d).b9=lH d from rfl];rw[gu (UV t.built d.lot r) (λ v _=>aeb (s:=uc t lot d) ht.built (by omega)) (by omega) (by omega)];rfl
    |false=>rfl
def addN(out:Y ByteArray)(name:ByteArray)(bad:Bool):Y ByteArray:=bif bad&&!(out.any (fg name))then out++[name]else out
theorem Y1 out (name:ByteArray) bad:(addN out name bad).length<=out.length+1:=by unfold addN;cases (bad&&!(out.any (fg name)))<;>simp
theorem agM{name:ByteArray}{bad:Bool}{out:Y ByteArray}(hl:out.length<=1000)(hn:2000<=n):jR n name bad out=some (addN out name bad):=by
 have hmx:maxLen=9223372036854775807:=rfl;have hap:bF out.length out.length (sub [name] 0 1).length 1 16=true:=by simp[bF,sub];omega
 simp[jR,lD (n:=n) (l:=out) (a:=name) (by omega) (by omega),addN,hap];cases bad with
 |false=>rfl
 |true=>cases (out.any (fg name))<;>rfl
def Tb(t:fq)(d:aQ):Bool:=(lH d).any λv=>!PA t.cM d.lot (wR v)
def acB:ByteArray:=⟨#[101,97,115,101,109,101,110,116]⟩
def F6(n:Nat)(t:fq)(lot:fM)(d:aQ)(l:Y dw):Y ByteArray:=l.foldl (λ out r=>addN out r.name (Hb n t lot d r)) []
theorem Ct(f:dw->Bool):∀(l:Y dw) out,(l.foldl (λ out r=>addN out r.name (f r)) out).length<=out.length+l.length
 |[],out=>by simp
 |r::l,out=>by have h1:=Ct f l (addN out r.name (f r));have h2:=Y1 out r.name (f r);rw[foldl_cons,d9];omega
def applied(t:fq)(lot:fM)(day:Int):Y dw:=t.az.filter (sN (wS t lot) day)
def rZ(t:fq)(d:aQ):fM:=(dH t.land d.lot).1
def F7(n:Nat)(t:fq)(d:aQ)(day:Int):Y ByteArray:=bif K6 n t d==0 then addN (F6 n t (rZ t d) d (applied t (rZ t d) day)) acB (Tb t d)else []
theorem alV{t:fq}{d:aQ} day (ht:H4 t) (hd:N5 d) (hn:Hc n):xD n t d day=some (F7 n t d day,K6 n t d):=by
 obtain⟨hk,hv⟩:=look_eq (n:=n) ht hd hn;have hn1:=hn.1;have hvl:=KS hd.1;simp[xD,hk,F7];by_cases h0:K6 n t d=0;have h0b:(K6 n t d==0)=true:=by simp[h0]
 have h0c:(K6 n t d !=0)=false:=by simp[h0]
 have hw:=RB ht.lots d.lot;have hz:=Y0 ht (rZ t d);have hA:ve n (bO.mk t.cL t.cw t.cz t.az t.cT t.cW t.d6 t.cX) (wS t (rZ t d)) day=some ((RA t.az (wS t (rZ t d)) day).map λ(i:Nat)=>(i:Int)):=UC _ _ _ (λ r hr=>(ht.rule r hr).1) ht.rules hz (by omega);have hal:(RA t.az (wS t (rZ t d)) day).length<=100:=Nat.le_trans (length_filter_le _ _) (by rw[List.length_range];exact ht.rules);have hpick:(RA t.az (wS t (rZ t d)) day).filterMap (λ i=>t.az[i]?)=applied t (rZ t d) day:=Ud (sN (wS t (rZ t d)) day) t.az;have hloop:∀A:Y Nat,A.length<=100->(∀ i∈A,i<t.az.length)->iter (oh n t (uc t (rZ t d) d,K6 n t d) (A.map λ(i:Nat)=>i)) n (0,[])=some (F6 n t (rZ t d) d (A.filterMap λi=>t.az[i]?)):=by
  intro A hA hAr
  have key:=dQ (l:=A) (step:=oh n t (uc t (rZ t d) d,K6 n t d) (A.map λ(i:Nat)=>i)) (λ i s=>(i,s)) (λ i s=>match t.az[i]? with
   |some r=>addN s r.name (Hb n t (rZ t d) d r)
   |none=>s) (λ s=>s) (λ i s=>s.length<=i) (λ i hi s hs=>by have hr:=hAr _ (getElem_mem hi);have hlm:(A.map λ(i:Nat)=>(i:Int)).length=A.length:=(by simp);have hg:bx (A.map λ(i:Nat)=>(i:Int)) ((0:Nat)+i)=some ((A[i]:Nat):Int):=(by rw[bJ (by omega)];simp);have hrr:=ht.rule _ (getElem_mem hr);have hb:=alU (n:=n) (t:=t) (lot:=rZ t d) (d:=d) ht hw.1 hd (hv h0) hrr.2 hn;have e:=dI hr;simp only[oh,hlm,cK hi,aj,aV hi,hg,ai,aO hr,hb,aH,agM (n:=n) (name:=t.az[A[i]].name) (bad:=Hb n t (rZ t d) d t.az[A[i]]) (out:=s) (by omega) (by omega),aZ i,e];exact⟨trivial,Nat.le_trans (Y1 _ _ _) (by omega)⟩) (λ s _=>by have hlm:(A.map λ(i:Nat)=>i).length=A.length:=(by simp);simp[oh]) n (by omega) [] (aB _)
  rw[fm]at key;rw[key];congr 1;unfold F6;generalize []=s0;clear key hA
  induction A generalizing s0 with
  |nil=>rfl
  |cons a A ih=>
   have ha:=hAr a (by simp);rw[foldl_cons,List.filterMap_cons];simp only[dI ha];rw[foldl_cons];exact ih (λ i hi=>hAr i (by simp[hi])) _
 have hlo:=hloop (RA t.az (wS t (rZ t d)) day) hal (λ i hi=>by have:=(mem_filter.1 hi).1;simpa using this);rw[hpick]at hlo;have hrl:(F6 n t (rZ t d) d (applied t (rZ t d) day)).length<=100:=by have h1:=Ct (Hb n t (rZ t d) d) (applied t (rZ t d) day) [];have h2:(applied t (rZ t d) day).length<=100:=Nat.le_trans (length_filter_le _ _) ht.rules;unfold F6;simp at h1;omega
 have hany:ic n (uc t (rZ t d) d) (λ (y1:aG×Unit)=>og n y1.1 t d)=some (Tb t d):=by
  have hs:∀v,og n v t d=some (!PA t.cM d.lot (wR v)):=by intro v;have hl1:(wR v).length=1:=rfl;have h:=aaH (n:=n) (l:=t.cM) (lot:=d.lot) (s:=wR v) ht.eas.1 ht.eas.2 (by simp[wR]) (by omega);simp[og,agK,h]
  simp[ic,show(uc t (rZ t d) d).b9=lH d from rfl];rw[gu (λ v=>!PA t.cM d.lot (wR v)) (λ v _=>hs v) (by omega) (by omega)];rfl
 have hsc:uc t (dH t.land d.lot).1 d=uc t (rZ t d) d:=rfl;simp only[h0b,h0c,aj,au,hsc,show(uc t (rZ t d) d).zones=wS t (rZ t d)from rfl,hA,ai,length_nil,aH,hlo,hany,agM (n:=n) (name:=⟨#[101,97,115,101,109,101,110,116]⟩) (bad:=Tb t d) (out:=F6 n t (rZ t d) d (applied t (rZ t d) day)) (by omega) (by omega),dP];rw[h0];rfl;have h0b:(K6 n t d==0)=false:=by simpa using h0
 have h0c:(K6 n t d !=0)=true:=by simpa using h0
 simp[h0b,h0c]
theorem Wl{α:Type}{l:Y α}{K n:Nat}{step:Int->J (Int⊕(Unit⊕Bool))}{good:α->Prop}(h1:∀i (hi:i<l.length),i<K->step i=some (.inr (.inr false))\/(step i=some (.inl (i+1:Nat))/\good l[i]))
 (h2:∀i:Nat,(¬ i<l.length\/¬i<K)->step i=some (.inr (.inl ()))) (hn:K+1<n):iter step n 0=some (.inr false)\/(iter step n 0=some (.inl ())/\(l.length<=K->∀x∈l,good x)):=by obtain⟨o,g1,g2⟩:=fE (step:=step) (λ i v=>v=i/\i<=l.length/\i<=K/\∀x∈l.take i,good x) (λ o=>o=.inr false\/(o=.inl ()/\(l.length<=K->∀x∈l,good x))) K (λ k v h=>h.2.2.1) (by rintro i v ⟨rfl,hi,hK,hall⟩;by_cases hlt:i<l.length/\i<K;rcases h1 i hlt.1 hlt.2 with h|⟨h,hg⟩;exact .inr ⟨_,h,.inl rfl⟩;refine .inl ⟨_,h,rfl,hlt.1,hlt.2,λx hx=>?_⟩;rw[List.take_add_one,dI hlt.1,bI]at hx;rcases hx with hx|hx;exact hall x hx;simp at hx;subst hx;exact hg;refine .inr ⟨_,h2 i (by omega),.inr ⟨rfl,λhl x hx=>hall x ?_⟩⟩;rw[List.take_of_length_le (by omega)];exact hx) n 0 0 ⟨rfl,Nat.zero_le _,Nat.zero_le _,by simp⟩ (by omega);rcases g2 with rfl|⟨rfl,g2⟩;exact .inl g1;exact .inr ⟨g1,g2⟩
def WtR(l:Y dw):Prop:=∀r∈l,(toE (m9 r)).wt<=4000000
structure aqr(t:fq):Prop where
 defs:iz t.cL
 rules:WtR t.az
 Cd:∀l∈t.land,l.from_.length*8<=140737488355328
structure asD(t:fq)(d:aQ):Prop where
 town:H4 t
 draw:N5 d
 built:t.built.length<=8
 rules:t.az.length<=6
 zones:∀z∈t.cz,z.corners.length<=12
 caps:∀c∈t.cT,c.corners.length<=12/\t.cT.length<=3
theorem arY:Hc 5000003:=⟨aB _,by omega⟩
section
variable {R Φ:Nat->Nat->Prop}
inductive rm(R:Nat->Nat->Prop):Nat->Prop
 |mk (m:Nat) (f:Nat->Nat) (h:∀j,R j m->rm R (f j)) (h2:∀j,R j m->R (f j) j):rm R m
theorem ajd{m:Nat}(h:∀j,R j m->∃k,rm R k/\R k j):rm R m:=by
 classical
 refine .mk m (λ j=>if hj:R j m then(h j hj).choose else 0) (λ j hj=>?_) (λ j hj=>?_);simp[hj];exact(h j hj).choose_spec.1;simp[hj];exact(h j hj).choose_spec.2
theorem aec{P:Ψ}(h:∀m,(∀ j,R j m->∃k,rm R k/\P k/\R k j)->P m){m:Nat}(hm:rm R m):P m:=by
 induction hm with
 |mk m f h1 h2 ih=>exact h m λj hj=>⟨f j,h1 j hj,ih j hj,h2 j hj⟩
theorem aed(e:Nat->Nat)(V:Ψ)(h1:∀i,V i->∀j,R j (e i)->∃k,V k/\e k=j/\Φ k i)(h2:∀i,V i->∀j,Φ j i->V j/\R (e j) (e i)){i:Nat}(hi:V i):rm R (e i)↔rm Φ i:=by
 constructor
 .intro h;refine aec (P:=λm=>∀i,V i->e i=m->rm Φ i) (λ m ih i hi hm=>ajd λj hj=>?_) h i hi rfl;subst hm;have⟨hv,hr⟩:=h2 i hi j hj;have⟨k,_,hk,hkj⟩:=ih (e j) hr;obtain⟨a,ha,rfl,hs⟩:=h1 j hv k hkj;exact⟨a,hk a ha rfl,hs⟩
 .intro h;refine aec (R:=Φ) (P:=λi=>V i->rm R (e i)) (λ i ih hi=>ajd λj hj=>?_) h hi;obtain⟨a,ha,rfl,hs⟩:=h1 i hi j hj;have⟨k,_,hk,hka⟩:=ih a hs;have⟨hv,hr⟩:=h2 a ha k hka;exact⟨e k,hk hv,hr⟩
end
def atk(B:Y (List Nat))(j m:Nat):Prop:=j<B.length/\m∈B.getD j []
def gb(B:Y (List Nat))(m:Nat):Y Nat:=(List.range B.length).filter λj=>(B.getD j []).contains m
theorem KT{B:Y (List Nat)}{j m:Nat}:j∈gb B m↔atk B j m:=by simp[gb,atk]
theorem alW(B:Y (List Nat))(m:Nat):(gb B m).Nodup:=List.nodup_range.filter _
theorem KU{L:Y Int}{k:Nat}(hk:k<L.length)(i:Nat)(v:Int):(L.set k v).getD i 0=if i=k then v else L.getD i 0:=by
 by_cases h:i=k
 .subst h;simp[hk]
 .simp[List.getElem?_set_ne (Ne.symm h),h]
theorem Y2(p:Nat->Bool)(k:Nat):∀{l:Y Nat},l.Nodup->l.countP p=l.countP (λ j=>p j&&j !=k)+(bif l.contains k&&p k then 1 else 0)
 |[],_=>rfl
 |x::l,h=>by
  have ih:=Y2 p k (List.nodup_cons.1 h).2;have hx:=(List.nodup_cons.1 h).1;simp only[List.countP_cons,List.contains_cons];by_cases e:x=k
  .subst e;have:l.contains x=false:=(by simpa using hx);rw[this]at ih;simp[Bool.false_and]at ih;rw[ih];cases p x<;>simp
  .have e1:(k==x)=false:=(by simpa using Ne.symm e);have e2:(x !=k)=true:=(by simpa using e);rw[ih,e1,e2];cases p x<;>simp<;>omega
theorem acC{p q:Nat->Bool}:∀{l:Y Nat},(∀ x∈l,q x=true->p x=true)->∀{y:Nat},y∈l->p y=true->q y=false->l.countP q<l.countP p
 |[],_,_,hy,_,_=>by cases hy
 |x::l,h,y,hy,h1,h2=>by
  simp[List.countP_cons];have hle:l.countP q<=l.countP p:=List.countP_mono_left λx hx=>h x (eG _ hx);rcases aI.1 hy with rfl|hy
  .rw[h1,h2];simp;omega
  .have:=acC (λ x hx=>h x (eG _ hx)) hy h1 h2;have:=h x (by simp);cases hq:q x with
   |true=>rw[this hq];simp;omega
   |false=>simp;omega
def vq(v:Int)(s:Y Int×List Int)(k:Nat):Y Int×List Int:=(s.1.set k 1,s.2.set k v)
def oE(v:Int)(s:Y Int×List Int×List Nat)(k:Nat):Y Int×List Int×List Nat:=bif s.1.getD k 0==0 then(s.1.set k 2,s.2.1.set k v,s.2.2++[k])else s
def lE(lab:Y Int)(s:Y Int×List Nat)(k:Nat):Y Int×List Nat:=(s.1.set k (s.1.getD k 0-1),bif(s.1.getD k 0-1==0)&&(lab.getD k 0==0)then s.2++[k]else s.2)
theorem Y3(v:Int):∀(W:Y Nat)(s:Y Int×List Int),(∀ k∈W,k<s.1.length)->(W.foldl (vq v) s).1.length=s.1.length/\(W.foldl (vq v) s).2.length=s.2.length/\∀i,(W.foldl (vq v) s).1.getD i 0=if i∈W then 1 else s.1.getD i 0
 |[],s,_=>by simp
 |k::W,s,h=>by obtain⟨h1,h2,h3⟩:=Y3 v W (vq v s k) (λ j hj=>by simpa[vq]using h j (by simp[hj]));refine⟨by simpa[vq]using h1,by simpa[vq]using h2,λi=>?_⟩;rw[foldl_cons,h3 i];simp only[vq];rw[KU (h k (by simp))];by_cases e1:i∈W<;>by_cases e2:i=k<;>simp[e2]
theorem Y4(v:Int):∀(T:Y Nat)(s:Y Int×List Int×List Nat),(∀ k∈T,k<s.1.length)->s.2.2.Nodup->(∀ i∈s.2.2,s.1.getD i 0≠0)->
 (T.foldl (oE v) s).1.length=s.1.length/\(T.foldl (oE v) s).2.1.length=s.2.1.length/\(∀ i,(T.foldl (oE v) s).1.getD i 0=if s.1.getD i 0=0/\i∈T then 2 else s.1.getD i 0)/\
 (T.foldl (oE v) s).2.2.Nodup/\(∀ i,i∈(T.foldl (oE v) s).2.2↔i∈s.2.2\/(s.1.getD i 0=0/\i∈T))
 |[],s,_,hn,_=>by simp[hn]
 |k::T,s,h,hn,ho=>by
  have hk:=h k (by simp);by_cases e:s.1.getD k 0=0
  .have es:oE v s k=(s.1.set k 2,s.2.1.set k v,s.2.2++[k]):=(by unfold oE;rw[e];rfl);have hg:=KU hk (v:=2);have hko:k∉s.2.2:=λhm=>ho k hm e
   obtain⟨h1,h2,h3,h4,h5⟩:=Y4 v T (oE v s k) (λ j hj=>by rw[es];simpa using h j (by simp[hj]))
    (by rw[es];simp;rw[List.nodup_append];exact⟨hn,by simp,λa ha c hc=>by simp at hc;subst hc;exact λe=>hko (e ▸ ha)⟩)
    (λ i hi=>by
     rw[es]at hi |-;simp only at hi |-;rw[hg];by_cases e2:i=k
     .simp[e2]
     .simp[e2];rw[bI]at hi;rcases hi with hi|hi
      .exact ho i hi
      .simp at hi;exact absurd hi e2)
   rw[foldl_cons];rw[es]at h1 h2 h3 h5 |-;rw[es]at h4;refine⟨by simpa using h1,by simpa using h2,λi=>?_,h4,λi=>?_⟩
   .rw[h3 i];simp only;rw[hg];by_cases e2:i=k
    .subst e2;rw[aP rfl,aM (by simp),aP ⟨e,by simp⟩]
    .simp[e2]
   .rw[h5 i];simp only;rw[hg,bI];by_cases e2:i=k
    .subst e2;exact⟨λ _=>.inr ⟨e,by simp⟩,λ_=>.inl (.inr (by simp))⟩
    .simp[e2]
  .have es:oE v s k=s:=(by unfold oE;rw[show (s.1.getD k 0==0)=false by simpa using e];rfl);obtain⟨h1,h2,h3,h4,h5⟩:=Y4 v T s (λ j hj=>h j (by simp[hj])) hn ho;rw[foldl_cons,es];refine⟨h1,h2,λi=>?_,h4,λi=>?_⟩
   .rw[h3 i];by_cases e2:i=k
    .subst e2;rw[aM (λ h=>e h.1),aM (λ h=>e h.1)]
    .simp[e2]
   .rw[h5 i];by_cases e2:i=k
    .subst e2;exact⟨λ h=>h.elim .inl λh=>absurd h.1 e,λh=>h.elim .inl λh=>absurd h.1 e⟩
    .simp[e2]
theorem agN(lab:Y Int):∀(T:Y Nat)(s:Y Int×List Nat),(∀ k∈T,k<s.1.length)->T.Nodup->
 (T.foldl (lE lab) s).1.length=s.1.length/\(∀ i,(T.foldl (lE lab) s).1.getD i 0=if i∈T then s.1.getD i 0-1 else s.1.getD i 0)/\
 (T.foldl (lE lab) s).2=s.2++T.filter λm=>(s.1.getD m 0-1==0)&&(lab.getD m 0==0)
 |[],s,_,_=>by simp
 |k::T,s,h,hn=>by
  have hk:=h k (by simp);have hkT:=(List.nodup_cons.1 hn).1;obtain⟨h1,h2,h3⟩:=agN lab T (lE lab s k) (λ j hj=>by simpa[lE]using h j (by simp[hj])) (List.nodup_cons.1 hn).2;rw[foldl_cons];have hg:=KU hk (v:=s.1.getD k 0-1);refine⟨by simpa[lE]using h1,λi=>?_,?_⟩
  .rw[h2 i];simp only[lE];rw[hg];by_cases e2:i=k
   .subst e2;simp[hkT]
   .simp[e2]
  .rw[h3];have hf:(T.filter λm=>((lE lab s k).1.getD m 0-1==0)&&(lab.getD m 0==0))=T.filter λm=>(s.1.getD m 0-1==0)&&(lab.getD m 0==0):=(by refine List.filter_congr λm hm=>?_;simp only[lE];rw[hg,aM (λ (e:m=k)=>hkT (e ▸ hm))]);rw[hf,List.filter_cons];simp only[lE];cases (s.1.getD k 0-1==0)&&(lab.getD k 0==0)<;>simp
theorem agO{B:Y (List Nat)}{lab:Y Int}(hB:∀k,(B.getD k []).Nodup/\∀m∈B.getD k [],m<B.length)(p0:Nat->Bool):∀(O:Y Nat)(p:Nat->Bool)(s:Y Int×List Nat),O.Nodup->(∀ k∈O,k<B.length/\p k=true)->s.1.length=B.length->
 (∀ m,m<B.length->s.1.getD m 0=((gb B m).countP p:Int))->s.2.Nodup->(∀ m,m∈s.2↔m<B.length/\lab.getD m 0=0/\(gb B m).countP p=0/\(gb B m).countP p0≠0)->(∀ m,(gb B m).countP p<=(gb B m).countP p0)->
 (O.foldl (λ s k=>(B.getD k []).foldl (lE lab) s) s).1.length=B.length/\(∀ m,m<B.length->(O.foldl (λ s k=>(B.getD k []).foldl (lE lab) s) s).1.getD m 0=((gb B m).countP (λ j=>p j&&!O.contains j):Int))/\
 (O.foldl (λ s k=>(B.getD k []).foldl (lE lab) s) s).2.Nodup/\∀m,m∈(O.foldl (λ s k=>(B.getD k []).foldl (lE lab) s) s).2↔m<B.length/\lab.getD m 0=0/\(gb B m).countP (λ j=>p j&&!O.contains j)=0/\(gb B m).countP p0≠0
 |[],p,s,_,_,h1,h2,h3,h4,_=>by
  have e:(λ j=>p j&&!([]:Y Nat).contains j)=p:=by funext j;simp
  rw[e];exact⟨h1,h2,h3,h4⟩
 |k::O,p,s,hn,ho,h1,h2,h3,h4,h5=>by
  obtain⟨hk,hp⟩:=ho k (by simp);obtain⟨hkO,hnO⟩:=List.nodup_cons.1 hn;have⟨n1,b1⟩:=hB k;obtain⟨g1,g2,g3⟩:=agN lab (B.getD k []) s (λ m hm=>by rw[h1];exact b1 m hm) n1;have hc:∀m,(gb B m).countP p=(gb B m).countP (λ j=>p j&&j !=k)+if m∈B.getD k []then 1 else 0:=λm=>by rw[Y2 p k (alW B m),hp,Bool.and_true];have:(gb B m).contains k=decide (m∈B.getD k []):=(by rw[eZ,List.contains_iff_mem,KT];simp[atk,hk]);rw[this];by_cases e:m∈B.getD k []<;>simp
  have e:(λ j=>(p j&&j !=k)&&!O.contains j)=λj=>p j&&!(k::O).contains j:=by funext j;simp only[List.contains_cons,Bool.and_assoc,bne,Bool.not_or]
  have:=agO (lab:=lab) hB p0 O (λ j=>p j&&j !=k) ((B.getD k []).foldl (lE lab) s) hnO (λ j hj=>by
   obtain⟨a,b⟩:=ho j (by simp[hj]);have:j≠k:=λe=>hkO (e ▸ hj);exact⟨a,by simp[b,this]⟩) (by rw[g1,h1])
   (λ m hm=>by
    rw[g2 m,h2 m hm,hc m];by_cases e:m∈B.getD k []
    .rw[aP e,aP e];omega
    .rw[aM e,aM e];omega)
   (by rw[g3,List.nodup_append];refine⟨h3,n1.filter _,λa ha c hc'=>?_⟩;rw[mem_filter]at hc';have:=(h4 a).1 ha;intro e;subst e;have:=hc a;rw[aP hc'.1]at this;omega)
   (λ m=>by
    have hm:=hc m;have hm5:=h5 m;rw[g3,bI,h4 m,mem_filter];by_cases e:m∈B.getD k []
    .have hb:=b1 m e;have:=h2 m hb;rw[aP e]at hm;simp only[e,true_and,aT,beq_iff_eq,hb];constructor
     .rintro (h|h)
      .omega
      .exact⟨h.2,by omega,by omega⟩
     .rintro⟨a,b,c⟩;exact .inr ⟨by omega,a⟩
    .rw[aM e]at hm;simp only[e,false_and,or_false];rw[show (gb B m).countP (λ j=>p j&&j !=k)=(gb B m).countP p by omega])
   (λ m=>by have:=hc m;have:=h5 m;omega)
  rw[e]at this;exact this
structure GI(B:List (List Nat))(L left:List Int)(W:List Nat):Prop where
 ll:L.length=B.length
 lf:left.length=B.length
 wn:W.Nodup
 wb:∀m∈W,m<B.length
 wo:∀m∈W,L.getD m 0=0/\left.getD m 0=0
 wv:∀m,m<B.length->left.getD m 0=0->L.getD m 0=1\/m∈W
 cn:∀m,m<B.length->left.getD m 0=((gb B m).countP (λ j=>L.getD j 0 !=2):Int)
 lo:∀j,j<B.length->(L.getD j 0=2↔∃k,L.getD k 0=1/\atk B k j)
 li:∀i,i<B.length->L.getD i 0=1->rm (atk B) i/\left.getD i 0=0
 l3:∀i,L.getD i 0=0\/L.getD i 0=1\/L.getD i 0=2
theorem foldl_flat{α G U:Type}(f:U->G->U)(g:α->Y G):∀(l:Y α)(s:U),l.foldl (λ s x=>(g x).foldl f s) s=(l.flatMap g).foldl f s
 |[],_=>rfl
 |x::l,s=>by rw[foldl_cons,foldl_flat f g l,List.flatMap_cons,List.foldl_append]
theorem GI.round{B:Y (List Nat)}{L left R:Y Int}{W:Y Nat}(hB:∀k,(B.getD k []).Nodup/\∀m∈B.getD k [],m<B.length)(h:GI B L left W)(hR:R.length=B.length)(u v:Int):
 ∃L1 R1 L2 R2 O left' X,W.foldl (vq u) (L,R)=(L1,R1)/\W.foldl (λ s k=>(B.getD k []).foldl (oE v) s) (L1,R1,[])=(L2,R2,O)/\O.foldl (λ s k=>(B.getD k []).foldl (lE L2) s) (left,[])=(left',X)/\
  R2.length=B.length/\O.Nodup/\(∀ k∈O,k<B.length)/\GI B L2 left' X/\(W≠[]->(List.range B.length).countP (λ i=>L2.getD i 0==0)<(List.range B.length).countP (λ i=>L.getD i 0==0)):=by
 have z:∀m,m<B.length->∀j,left.getD m 0=0->atk B j m->L.getD j 0=2:=λm hm j h0 hj=>by
  have h1:=h.cn m hm;rw[h0]at h1;have h2:(gb B m).countP (λ j=>L.getD j 0 !=2)=0:=by omega
  rw[List.countP_eq_zero]at h2;simpa using h2 j (KT.2 hj)
 obtain⟨a1,a2,a3⟩:=Y3 u W (L,R) (λ k hk=>by rw[h.ll];exact h.wb k hk);rcases hs1:W.foldl (vq u) (L,R)with ⟨L1,R1⟩;rw[hs1]at a1 a2 a3;simp only at a1 a2 a3;have hT:∀k,k∈W.flatMap (λ k=>B.getD k [])↔∃j∈W,atk B j k:=λk=>by rw[List.mem_flatMap];exact⟨λ ⟨j,h1,h2⟩=>⟨j,h1,h.wb j h1,h2⟩,λ⟨j,h1,h2⟩=>⟨j,h1,h2.2⟩⟩
 obtain⟨b1,b2,b3,b4,b5⟩:=Y4 v (W.flatMap λk=>B.getD k []) (L1,R1,[]) (λ k hk=>by obtain⟨j,_,_,h2⟩:=(hT k).1 hk;simp;rw[a1,h.ll];exact(hB j).2 k h2) List.nodup_nil (λ i hi=>by cases hi);rcases hs2:(W.flatMap λk=>B.getD k []).foldl (oE v) (L1,R1,[])with ⟨L2,R2,O⟩;rw[hs2]at b1 b2 b3 b4 b5;simp only[bB,false_or]at b1 b2 b3 b4 b5;have hO:∀k∈O,k<B.length:=λk hk=>by have⟨j,_,_,h2⟩:=(hT k).1 ((b5 k).1 hk).2;exact(hB j).2 k h2
 have hL1:∀j,(L1.getD j 0=1↔j∈W\/L.getD j 0=1)/\(L1.getD j 0=2↔L.getD j 0=2)/\(L1.getD j 0=0↔j∉W/\L.getD j 0=0):=λj=>by
  rw[a3 j];by_cases e:j∈W
  .have:=(h.wo j e).1;rw[aP e];refine⟨⟨λ _=>.inl e,λ_=>rfl⟩,⟨λ h=>absurd h (by decide),λh=>by omega⟩,⟨λ h=>absurd h (by decide),λh=>absurd e h.1⟩⟩
  .rw[aM e];simp[e]
 have hL2:∀j,(L2.getD j 0=1↔L1.getD j 0=1)/\(L2.getD j 0=2↔L1.getD j 0=2\/j∈O):=λj=>by
  rw[b3 j,b5 j];by_cases e:L1.getD j 0=0/\j∈W.flatMap (λ k=>B.getD k [])
  .rw[aP e];exact⟨⟨λ h=>absurd h (by decide),λh=>by omega⟩,⟨λ _=>.inr e,λ_=>rfl⟩⟩
  .rw[aM e];exact⟨Iff.rfl,⟨.inl,λh=>h.elim id λh=>absurd h e⟩⟩
 have hp:∀m,(gb B m).countP (λ j=>L1.getD j 0 !=2)=(gb B m).countP (λ j=>L.getD j 0 !=2):=λm=>List.countP_congr λj _=>by have:=(hL1 j).2.1;rw[bne_iff_ne,bne_iff_ne,Ne,Ne,this]
 obtain⟨c1,c2,c3,c4⟩:=agO (lab:=L2) hB (λ j=>L1.getD j 0 !=2) O (λ j=>L1.getD j 0 !=2) (left,[]) b4 (λ k hk=>⟨hO k hk,by
  have:=((b5 k).1 hk).1;rw[bne_iff_ne,this];decide⟩) h.lf (λ m hm=>by rw[hp m];exact h.cn m hm) List.nodup_nil
  (λ m=>⟨λ h=>absurd h (by simp),λh=>absurd h.2.2.1 h.2.2.2⟩) (λ m=>aB _)
 rcases hs3:O.foldl (λ s k=>(B.getD k []).foldl (lE L2) s) (left,[])with ⟨left',X⟩;rw[hs3]at c1 c2 c3 c4;simp only at c1 c2 c3 c4;have hq:(λ j=>(L1.getD j 0 !=2)&&!O.contains j)=λj=>L2.getD j 0 !=2:=by funext j;have:=(hL2 j).2;rw[eZ,aT,bne_iff_ne,bne_iff_ne,Ne,Ne,this,Bool.not_eq_true',<- Bool.not_eq_true,List.contains_iff_mem,not_or]
 rw[hq]at c2 c4;have lo':∀j,j<B.length->(L2.getD j 0=2↔∃k,L2.getD k 0=1/\atk B k j):=λj hj=>by
  rw[(hL2 j).2,(hL1 j).2.1];constructor
  .rintro (h1|h1)
   .have⟨k,h2,h3⟩:=(h.lo j hj).1 h1;exact⟨k,(hL2 k).1.2 ((hL1 k).1.2 (.inr h2)),h3⟩
   .have⟨k,h2,h3⟩:=(hT j).1 ((b5 j).1 h1).2;exact⟨k,(hL2 k).1.2 ((hL1 k).1.2 (.inl h2)),h3⟩
  .rintro⟨k,h1,h2⟩;rcases (hL1 k).1.1 ((hL2 k).1.1 h1)with h3|h3
   .have hk0:=(h.wo k h3).1;have no:left.getD j 0≠0:=λh0=>(by have:=z j hj k h0 h2;omega);have n1:L.getD j 0≠1:=λh1=>no (h.li j hj h1).2;have nW:j∉W:=λhw=>no (h.wo j hw).2;rcases h.l3 j with e|e|e
    .exact .inr ((b5 j).2 ⟨(hL1 j).2.2.2 ⟨nW,e⟩,(hT j).2 ⟨k,h3,h2⟩⟩)
    .exact absurd e n1
    .exact .inl e
   .exact .inl ((h.lo j hj).2 ⟨k,h3,h2⟩)
 have no2:∀m,m<B.length->left'.getD m 0=0->L2.getD m 0≠2:=λm hm h0 h1=>by
  have⟨k,h2,h3⟩:=(lo' m hm).1 h1;have h4:=c2 m hm;rw[h0]at h4;have h5:(gb B m).countP (λ j=>L2.getD j 0 !=2)=0:=by omega
  rw[List.countP_eq_zero]at h5;have:=h5 k (KT.2 h3);rw[h2]at this;exact this rfl
 have keep:∀m,m<B.length->left.getD m 0=0->left'.getD m 0=0:=λm hm h0=>by rw[c2 m hm,show(gb B m).countP (λ j=>L2.getD j 0 !=2)=0 by rw[List.countP_eq_zero];intro j hj;have:=z m hm j h0 (KT.1 hj);rw[(hL2 j).2.2 (.inl ((hL1 j).2.1.2 this))];decide];rfl
 refine⟨L1,R1,L2,R2,O,left',X,rfl,(foldl_flat (oE v) (λ k=>B.getD k []) W (L1,R1,[])).trans hs2,hs3,by rw[b2,a2];exact hR,b4,hO,⟨by rw[b1,a1];exact h.ll,c1,c3,λm hm=>((c4 m).1 hm).1,λm hm=>?_,λm hm h0=>?_,c2,lo',λi hi h1=>?_,λi=>?_⟩,λhW=>?_⟩
 .have⟨d1,d2,d3,_⟩:=(c4 m).1 hm;exact⟨d2,by rw[c2 m d1,d3];rfl⟩
 .by_cases e:left.getD m 0=0
  .refine .inl ((hL2 m).1.2 ((hL1 m).1.2 ?_));exact(h.wv m hm e).symm
  .have h2:=no2 m hm h0;have:=b3 m;rcases h.l3 m with e2|e2|e2
   .by_cases ew:m∈W
    .exact absurd (h.wo m ew).2 e
    .refine .inr ((c4 m).2 ⟨hm,?_,?_,?_⟩)
     .have e3:=(hL1 m).2.2.2 ⟨ew,e2⟩;rw[this,e3]at h2 |-;by_cases e4:m∈W.flatMap (λ k=>B.getD k [])
      .rw[aP ⟨rfl,e4⟩]at h2;exact absurd rfl h2
      .rw[aM (λ h=>e4 h.2)]
     .have:=c2 m hm;rw[h0]at this;omega
     .have h6:=h.cn m hm;rw[hp m];intro h7;rw[h7]at h6;exact e h6
   .exact absurd (h.li m hm e2).2 e
   .exact absurd ((hL2 m).2.2 (.inl ((hL1 m).2.1.2 e2))) h2
 .have h2:=(hL1 i).1.1 ((hL2 i).1.1 h1);have h3:left.getD i 0=0:=h2.elim (λ h3=>(h.wo i h3).2) λh3=>(h.li i hi h3).2;refine⟨h2.elim (λ hw=>ajd λj hj=>?_) λh3=>(h.li i hi h3).1,keep i hi h3⟩;have⟨k,h4,h5⟩:=(h.lo j hj.1).1 (z i hi j h3 hj);by_cases hk:k<B.length
  .exact⟨k,(h.li k hk h4).1,h5⟩
  .exact absurd h5.1 hk
 .rw[b3 i];split
  .exact .inr (.inr rfl)
  .rw[a3 i];split
   .exact .inr (.inl rfl)
   .exact h.l3 i
 .obtain⟨w,hw⟩:=List.exists_mem_of_ne_nil W hW;refine acC (λ i _ hi=>?_) (List.mem_range.2 (h.wb w hw)) (by rw[(h.wo w hw).1];rfl) ?_
  .have hi:L2.getD i 0=0:=(by simpa using hi);rcases h.l3 i with e|e|e
   .rw[e];rfl
   .have:=(hL2 i).1.2 ((hL1 i).1.2 (.inr e));omega
   .have:=(hL2 i).2.2 (.inl ((hL1 i).2.1.2 e));omega
  .rw[(hL2 w).1.2 ((hL1 w).1.2 (.inl hw))];rfl
def aq4(B:Y (List Nat))(L:Y Int):Prop:=L.length=B.length/\∀i,i<B.length->(L.getD i 0=1↔rm (atk B) i)/\(L.getD i 0=2↔∃k,rm (atk B) k/\atk B k i)/\(L.getD i 0=0\/L.getD i 0=1\/L.getD i 0=2)
theorem GI.fin{B:Y (List Nat)}{L left:Y Int}(h:GI B L left []):aq4 B L:=by
 have key:∀i,i<B.length->rm (atk B) i->L.getD i 0=1:=λi hi hg=>by
  refine aec (P:=λi=>i<B.length->L.getD i 0=1) (λ m ih hm=>?_) hg hi;refine(h.wv m hm ?_).elim id λh=>by cases h
  rw[h.cn m hm,show(gb B m).countP (λ j=>L.getD j 0 !=2)=0 by rw[List.countP_eq_zero];intro j hj;have⟨k,_,h2,h3⟩:=ih j (KT.1 hj);rw[(h.lo j (KT.1 hj).1).2 ⟨k,h2 h3.1,h3⟩];decide];rfl
 refine⟨h.ll,λi hi=>⟨⟨λ h1=>(h.li i hi h1).1,key i hi⟩,?_,h.l3 i⟩⟩;rw[h.lo i hi];exact⟨λ ⟨k,h1,h2⟩=>⟨k,(h.li k h2.1 h1).1,h2⟩,λ⟨k,h1,h2⟩=>⟨k,key k h2.1 h1,h2⟩⟩
def sO(N:Int):Int->Y Int->Bool
 |_,[]=>true
 |last,x::l=>!(decide (x<=last) || decide (x>=N))&&sO N x l
theorem RG{O:Type}(N:Int)(w o:O):∀(l:Y Int)(s:Int),Oz (λ x s=>bif decide (x<=s) || decide (x>=N)then .inr o else .inl x) (λ _=>w) l s=bif sO N s l then w else o
 |[],_=>rfl
 |x::l,s=>by
  simp only[Oz,sO];cases decide (x<=s) || decide (x>=N)with
  |true=>rfl
  |false=>exact RG N w o l x
theorem Ad{N:Int}:∀{l:Y Int}{s:Int},sO N s l=true->(∀ x∈l,s<x/\x<N)/\l.Nodup
 |[],_,_=>⟨by simp,List.nodup_nil⟩
 |x::l,s,h=>by
  simp[sO]at h;have⟨h1,h2⟩:=Ad h.2;refine⟨λ y hy=>?_,List.nodup_cons.2 ⟨λ hx=>by have:=(h1 x hx).1;omega,h2⟩⟩;rcases aI.1 hy with rfl|hy
  .omega
  .have:=h1 y hy;omega
def cI(W:Y Nat):Y Int:=W.map λ(k:Nat)=>(k:Int)
@[simp] theorem Ei (W:Y Nat):(cI W).length=W.length:=by simp[cI]
theorem aq5(W:Y Nat)(i:Nat):(cI W)[i]? =W[i]?.map λ(k:Nat)=>(k:Int):=by simp[cI]
theorem PM{W:Y Nat}{i:Nat}(h:i<W.length):bx (cI W) (i:Int)=some (W[i]:Int):=by rw[Fh,aq5];simp[h]
theorem UT(W X:Y Nat):cI (W++X)=cI W++cI X:=by simp[cI]
def fJ(cl:Y aK):Y (List Nat):=cl.map λc=>c.attacks.map Int.toNat
def H3(cl:Y aK):Prop:=∀c∈cl,sO (cl.length:Int) (-1) c.attacks=true
theorem PG{cl:Y aK}{i:Nat}(hi:i<cl.length):(fJ cl).getD i []=cl[i].attacks.map Int.toNat:=by simp[fJ,hi]
theorem vI(cl:Y aK):(fJ cl).length=cl.length:=by simp[fJ]
theorem aky{N:Nat}{l:Y Int}(h:sO (N:Int) (-1) l=true):l=cI (l.map Int.toNat)/\(l.map Int.toNat).Nodup/\∀k∈l.map Int.toNat,k<N:=by
 have⟨h1,h2⟩:=Ad h;refine⟨?_,?_,λk hk=>?_⟩
 .unfold cI;rw[map_map]
  conv=>lhs;rw[<- List.map_id l]
  refine map_congr_left λx hx=>?_;have:=h1 x hx;simp;omega
 .unfold List.Nodup at h2 |-;rw[List.pairwise_map];exact h2.imp_of_mem λ{a b} ha hb hab e=>hab (by have:=h1 a ha;have:=h1 b hb;omega)
 .obtain⟨x,hx,rfl⟩:=mem_map.1 hk;have:=h1 x hx;omega
theorem PI{cl:Y aK}(h:H3 cl)(k:Nat):((fJ cl).getD k []).Nodup/\∀m∈(fJ cl).getD k [],m<(fJ cl).length:=by
 rw[vI];by_cases hk:k<cl.length
 .rw[PG hk];exact(aky (h _ (getElem_mem hk))).2
 .have:(fJ cl).getD k []=[]:=by simp[fJ,List.getElem?_eq_none (Nat.not_lt.1 hk)]
  rw[this];exact⟨List.nodup_nil,λ_ h=>by cases h⟩
theorem S8{cl:Y aK}(h:H3 cl){i:Nat}(hi:i<cl.length):cl[i].attacks=cI ((fJ cl).getD i []):=by rw[PG hi];exact(aky (h _ (getElem_mem hi))).1
theorem Y5{cl:Y aK}(hl:cl.length<=1000)(ha:∀c∈cl,c.attacks.length<=1000)(hn:2000<=n):yg n cl=some ((cl.all λc=>sO (cl.length:Int) (-1) c.attacks)&&decide ((cl.length:Int)<=300)):=by
 have r2:∀c∈cl,iter (qN cl c) n (((-1):Int),(0:Int))=some (bif sO (cl.length:Int) (-1) c.attacks then .inl ()else .inr (.inr (.inr false))):=λc hc=>by
  have hc:=ha c hc;have:=ab7 (l:=c.attacks) (step:=qN cl c) (λ i (s:Int)=>(s,(i:Int))) (λ x s=>bif decide (x<=s) || decide (x>=(cl.length:Int))then .inr (.inr (.inr (.inr false)))else .inl x) (λ _=>.inl ()) (λ i hi s=>?_) (λ s=>by simp[qN]) n (by omega) (-1)
  .rw[fm]at this;rw[this,RG]
  .have hi':decide ((i:Int)<(c.attacks.length:Int))=true:=(by simpa using hi);simp only[qN,hi',aj,aO hi,ai,Yr];cases decide (c.attacks[i]<=s) || decide (c.attacks[i]>=(cl.length:Int))with
   |true=>rfl
   |false=>simp only[au];rw[aL (by omega)]
 unfold yg;have:=kI (l:=cl) (step:=vz n cl) (λ i=>(i:Int)) (λ c=>!sO (cl.length:Int) (-1) c.attacks) () (λ _=>false) (λ i hi=>?_) ?_ n (by omega)
 .rw[fm]at this;rw[this];have e:=jW (λ c:aK=>!sO (cl.length:Int) (-1) c.attacks) cl;have e2:(cl.all λc=>sO (cl.length:Int) (-1) c.attacks)=!(cl.any λc=>!sO (cl.length:Int) (-1) c.attacks):=List.all_eq_not_any_not;rw[e2,<- e];cases nM (λ c:aK=>!sO (cl.length:Int) (-1) c.attacks) cl<;>rfl
 .have hi':decide ((i:Int)<(cl.length:Int))=true:=by simpa using hi
  simp only[vz,hi',aj,aO hi,ai,r2 _ (getElem_mem hi)];cases sO (cl.length:Int) (-1) cl[i].attacks with
  |true=>simp only[aj,gG,Bool.not_true,au];rw[aL (by omega)]
  |false=>rfl
 .simp[vz]
theorem acD(i:Nat):∀(T:Y Nat)(g:Y (List Int)),T.Nodup->(∀ k∈T,k<g.length)->∀m,((cI T).foldl (OL i) g).getD m []=g.getD m []++if m∈T then [(i:Int)]else []
 |[],g,_,_,m=>by simp[cI]
 |k::T,g,hn,hb,m=>by
  obtain⟨hk,hn⟩:=List.nodup_cons.1 hn;have ih:=acD i T (OL i g (k:Int)) hn (λ j hj=>by rw[afT];exact hb j (by simp[hj])) m;have e:cI (k::T)=(k:Int)::cI T:=rfl;rw[e,foldl_cons,ih];have hkl:=hb k (by simp);unfold OL;by_cases em:m=k
  .subst em;simp[hk,hkl]
  .simp[em,List.getElem?_set_ne (Ne.symm em)]
theorem akA{cl:Y aK}(h:H3 cl){m:Nat}(hm:m<cl.length):∀i,i<=cl.length->(nh (cl.map (·.attacks)) i).getD m []=cI ((List.range i).filter λj=>((fJ cl).getD j []).contains m)
 | 0,_=>by simp[nh,cI,hm]
 |i+1,hi=>by
  have hi':i<cl.length:=hi;have e:(cl.map (·.attacks)).getD i []=cI ((fJ cl).getD i []):=by rw[<- S8 h hi'];simp[hi']
  have⟨n1,b1⟩:=PI h i;rw[nh,e,acD i _ _ n1 (λ k hk=>by rw[OM,length_map,<- vI cl];exact b1 k hk),akA h hm i (by omega),List.range_succ,filter_append,UT];congr 1;by_cases em:m∈(fJ cl).getD i []
  .rw[aP em,List.filter_cons,aP (by simpa using em)];rfl
  .rw[aM em,List.filter_cons,aM (by simpa using em)];rfl
theorem aje{cl:Y aK}(h:H3 cl)(hl:cl.length<=1000)(ha:∀c∈cl,c.attacks.length<=1000):qb cl=some ((List.range cl.length).map λm=>cI (gb (fJ cl) m)):=by
 unfold qb;have hc:(decide (cl.length<=1000000)&&(cl.all λc=>decide (c.attacks.length<=1000000)&&c.attacks.all λk=>decide (0<=k)&&decide (k<(cl.length:Int))))=true:=by simp;refine⟨by omega,λc hc=>⟨by have:=ha c hc;omega,λk hk=>?_⟩⟩;have:=(Ad (h c hc)).1 k hk;omega
 rw[hc];simp;congr 1;have hlen:(nh (cl.map (·.attacks)) cl.length).length=cl.length:=by rw[OM,length_map]
 refine List.ext_getElem (by simp[hlen]) λm h1 h2=>?_;rw[hlen]at h1;have:=akA h h1 cl.length (aB _);rw[List.getElem_map,List.getElem_range];unfold gb;rw[vI,<- this];simp[hlen,h1]
section
variable {n:Nat} {cl:List aK} (h:H3 cl) (hl:cl.length<=1000) (ha:∀c∈cl,c.attacks.length<=1000) (hn:1000000<=n)
theorem aq6(u:Int){W:Y Nat}{L R:Y Int}(hW:∀k∈W,k<cl.length)(hw:W.length<=1000)(h1:L.length=cl.length)(h2:R.length=cl.length)(hn:1000000<=n):iter (mW cl u (cI W)) n ((0:Int),L,R)=some (W.foldl (vq u) (L,R)):=by
 have:=dQ (l:=W) (step:=mW cl u (cI W)) (λ i (s:List Int×List Int)=>((i:Int),s.1,s.2)) (λ k s=>vq u s k) (λ s=>(s.1,s.2)) (λ _ s=>s.1.length=cl.length/\s.2.length=cl.length) (λ i hi s hs=>?_) (λ s _=>by simp[mW]) n (by omega) (L,R) ⟨h1,h2⟩
 .rw[fm]at this;exact this
 .have hi':decide ((i:Int)<(((cI W).length:Nat):Int))=true:=by simpa using hi
  have hk:=hW _ (getElem_mem hi);have e1:bx s.1 (W[i]:Int)=some s.1[W[i]]:=aO (by omega);have e2:bx s.2 (W[i]:Int)=some s.2[W[i]]:=aO (by omega);refine⟨?_,by simp[vq,hs.1],by simp[vq,hs.2]⟩;simp only[mW,hi',aj,Int.toNat_natCast,aV (show i<(cI W).length by simpa using hi),PM hi,ai,aV hk,fm,Int.zero_add,e1,e2];rw[aL (by omega)];rfl
theorem aef(v:Int):∀(T:Y Nat)(s:Y Int×List Int×List Nat),(T.foldl (oE v) s).1.length=s.1.length/\(T.foldl (oE v) s).2.1.length=s.2.1.length/\(T.foldl (oE v) s).2.2.length<=s.2.2.length+T.length
 |[],s=>by simp
 |k::T,s=>by
  have⟨h1,h2,h3⟩:=aef v T (oE v s k);rw[foldl_cons,h1,h2];simp only[oE]at h3 |-;cases hc:s.1.getD k 0==0
  all_goals
   rw[hc]at h3;simp at h3 |-;omega
theorem aq7(v:Int){T:Y Nat}{c:aK}(hc:c.attacks=cI T){L R:Y Int}{O:Y Nat}(hT:∀k∈T,k<cl.length)(hw:T.length<=1000)(h1:L.length=cl.length)(h2:R.length=cl.length)(ho:O.length<=1000000000)(hn:1000000<=n):
 iter (mX cl v c) n ((0:Int),L,R,cI O)=some ((T.foldl (oE (i64.wrap (v+1))) (L,R,O)).1,(T.foldl (oE (i64.wrap (v+1))) (L,R,O)).2.1,cI (T.foldl (oE (i64.wrap (v+1))) (L,R,O)).2.2):=by
 have:=dQ (l:=T) (step:=mX cl v c) (λ i (s:List Int×List Int×List Nat)=>((i:Int),s.1,s.2.1,cI s.2.2)) (λ k s=>oE (i64.wrap (v+1)) s k) (λ s=>(s.1,s.2.1,cI s.2.2)) (λ i s=>s.1.length=cl.length/\s.2.1.length=cl.length/\s.2.2.length<=1000000000+i) (λ i hi s hs=>?_) (λ s _=>by simp[mX,hc]) n (by omega) (L,R,O) ⟨h1,h2,ho⟩
 .rw[fm]at this;exact this
 .obtain⟨a1,a2,a3⟩:=hs;have hi':decide ((i:Int)<(((cI T).length:Nat):Int))=true:=by simpa using hi
  have hk:=hT _ (getElem_mem hi);have e1:bx s.1 (T[i]:Int)=some s.1[T[i]]:=aO (by omega);have e2:bx s.2.1 (T[i]:Int)=some s.2.1[T[i]]:=aO (by omega);have e3:s.1.getD T[i] 0=s.1[T[i]]:=by simp[show T[i] <s.1.length by omega]
  have ap:bF (cI s.2.2).length (cI s.2.2).length (sub ([(T[i]:Int)]:Y Int) 0 1).length 1 8=true:=by rw[Ei];exact bV (n:=1)
  have hg:=aef (i64.wrap (v+1)) [T[i]] s;simp[length_nil]at hg;refine⟨?_,by rw[hg.1,a1],by rw[hg.2.1,a2],by omega⟩;simp only[mX,hc,hi',aj,Int.toNat_natCast,PM hi,ai,aV hk,fm,Int.zero_add,e1,e2,oE,e3];cases s.1[T[i]]==0 with
  |true=>
   simp only[aj,ap,dV,aH,ai,bK,Sum.inl.injEq];rw[aL (by omega),UT];rfl
  |false=>
   simp only[au,aH,aj,ai];rw[aL (by omega)]
include h in
theorem aq8(u v:Int){W:Y Nat}{L R:Y Int}(hW:∀k∈W,k<cl.length)(hw:W.length<=1000)(h1:L.length=cl.length)(h2:R.length=cl.length)(ha:∀c∈cl,c.attacks.length<=1000)(hn:1000000<=n)(hv:i64.wrap (u+1)=v):
 iter (mY n cl u (cI W)) n ((0:Int),L,R,([]:Y Int))=some ((W.foldl (λ s k=>((fJ cl).getD k []).foldl (oE v) s) (L,R,[])).1,(W.foldl (λ s k=>((fJ cl).getD k []).foldl (oE v) s) (L,R,[])).2.1,cI (W.foldl (λ s k=>((fJ cl).getD k []).foldl (oE v) s) (L,R,[])).2.2):=by
 have hb:=PI h;have hbl:∀k,k<cl.length->((fJ cl).getD k []).length<=1000:=λk hk=>by rw[PG hk,length_map];exact ha _ (getElem_mem hk)
 have:=dQ (l:=W) (step:=mY n cl u (cI W)) (λ i (s:List Int×List Int×List Nat)=>((i:Int),s.1,s.2.1,cI s.2.2)) (λ k s=>((fJ cl).getD k []).foldl (oE v) s) (λ s=>(s.1,s.2.1,cI s.2.2)) (λ i s=>s.1.length=cl.length/\s.2.1.length=cl.length/\s.2.2.length<=1000*i) (λ i hi s hs=>?_) (λ s _=>by simp[mY]) n (by omega) (L,R,[]) ⟨h1,h2,by simp⟩
 .rw[fm]at this;exact this
 .obtain⟨a1,a2,a3⟩:=hs;have hi':decide ((i:Int)<(((cI W).length:Nat):Int))=true:=by simpa using hi
  have hk:=hW _ (getElem_mem hi);have hg:=aef v ((fJ cl).getD W[i] []) s;have:=hbl _ hk;refine⟨?_,by rw[hg.1,a1],by rw[hg.2.1,a2],by omega⟩;have r5:=aq7 (n:=n) u (S8 h hk) (L:=s.1) (R:=s.2.1) (O:=s.2.2) (λ k hk'=>by rw[<- vI];exact(hb W[i]).2 k hk') this a1 a2 (by omega) hn;rw[hv]at r5;simp only[mY,hi',aj,aV (show i<(cI W).length by simpa using hi),PM hi,ai,fm,Int.zero_add,aO hk,aH,r5];rw[aL (by omega)]
theorem aeg(lab:Y Int):∀(T:Y Nat)(s:Y Int×List Nat),(T.foldl (lE lab) s).1.length=s.1.length/\(T.foldl (lE lab) s).2.length<=s.2.length+T.length
 |[],s=>by simp
 |k::T,s=>by
  have⟨h1,h2⟩:=aeg lab T (lE lab s k);rw[foldl_cons,h1];simp only[lE]at h2 |-;cases hc:(s.1.getD k 0-1==0)&&(lab.getD k 0==0)
  all_goals
   rw[hc]at h2;simp at h2 |-;omega
def Y6(l:Y Int)(c:Int):Prop:=∀k,-c<=l.getD k 0/\l.getD k 0<=1000000000
theorem akB{lab:Y Int}{s:Y Int×List Nat}{k:Nat}{c:Int}(hk:k<s.1.length)(h:Y6 s.1 c):Y6 (lE lab s k).1 (c+1):=λj=>by simp only[lE];rw[KU hk];have:=h k;have:=h j;split<;>omega
theorem aq9{T:Y Nat}{c:aK}(hc:c.attacks=cI T){lab left:Y Int}{X:Y Nat}{d:Int}(hT:∀k∈T,k<cl.length)(hw:T.length<=1000)(h0:lab.length=cl.length)(h1:left.length=cl.length)(hd:0<=d)(hd2:d<=1000000000)(hlow:Y6 left d)(ho:X.length<=1000000000)(hn:1000000<=n):
 iter (mZ cl lab c) n ((0:Int),left,cI X)=some ((T.foldl (lE lab) (left,X)).1,cI (T.foldl (lE lab) (left,X)).2)/\Y6 (T.foldl (lE lab) (left,X)).1 (d+1000):=by
 have low:∀(T:Y Nat)(s:Y Int×List Nat)(d:Int),0<=d->(∀ k∈T,k<s.1.length)->Y6 s.1 d->Y6 (T.foldl (lE lab) s).1 (d+T.length):=by
  intro T
  induction T with
  |nil=>intro s d _ _ h;simpa using h
  |cons k T ih=>
   intro s d hd hT h;have:=ih (lE lab s k) (d+1) (by omega) (λ j hj=>by simpa[lE]using hT j (by simp[hj])) (akB (hT k (by simp)) h);rw[foldl_cons,d9];intro j;have:=this j;omega
 refine⟨?_,λk=>by have:=low T (left,X) d hd (λ k hk=>by rw[h1];exact hT k hk) hlow k;omega⟩;have:=dQ (l:=T) (step:=mZ cl lab c) (λ i (s:List Int×List Nat)=>((i:Int),s.1,cI s.2)) (λ k s=>lE lab s k) (λ s=>(s.1,cI s.2)) (λ i s=>s.1.length=cl.length/\s.2.length<=1000000000+i/\Y6 s.1 (d+i)) (λ i hi s hs=>?_) (λ s _=>by simp[mZ,hc]) n (by omega) (left,X) ⟨h1,ho,by simpa using hlow⟩
 .rw[fm]at this;exact this
 .obtain⟨a1,a3,a4⟩:=hs;have hi':decide ((i:Int)<(((cI T).length:Nat):Int))=true:=by simpa using hi
  have hk:=hT _ (getElem_mem hi);have e1:bx s.1 (T[i]:Int)=some (s.1.getD T[i] 0):=by rw[aO (by omega)];simp[show T[i] <s.1.length by omega]
  have e2:bx lab (T[i]:Int)=some (lab.getD T[i] 0):=by rw[aO (by omega)];simp[show T[i] <lab.length by omega]
  have e3:∀v,bx (s.1.set T[i] v) (T[i]:Int)=some v:=λv=>by rw[Fh];simp[show T[i] <s.1.length by omega]
  have b4:=a4 T[i];have ew:i64.wrap (s.1.getD T[i] 0-1)=s.1.getD T[i] 0-1:=bP (by omega) (by omega);have ap:bF (cI s.2).length (cI s.2).length (sub ([(T[i]:Int)]:Y Int) 0 1).length 1 8=true:=by rw[Ei];exact bV (n:=1)
  have hg:=aeg lab [T[i]] s;have hlo:=akB (lab:=lab) (show T[i] <s.1.length by omega) a4;simp[length_nil]at hg;refine⟨?_,by rw[hg.1,a1],by omega,λk=>by have:=hlo k;omega⟩;simp only[mZ,hc,hi',aj,Int.toNat_natCast,PM hi,ai,aV hk,fm,Int.zero_add,e1,e2,e3,ew,lE,zZ];cases (s.1.getD T[i] 0-1==0)&&(lab.getD T[i] 0==0)with
  |true=>
   simp only[aj,ap,dV,aH,ai];rw[aL (by omega),UT];rfl
  |false=>
   simp only[au,aH,aj,ai];rw[aL (by omega)]
include h in
theorem ara{W:Y Nat}{lab left:Y Int}(hW:∀k∈W,k<cl.length)(hw:W.length<=1000)(h0:lab.length=cl.length)(h1:left.length=cl.length)(hlow:Y6 left 0)(ha:∀c∈cl,c.attacks.length<=1000)(hn:1000000<=n):
 iter (ng n cl lab (cI W)) n ((0:Int),left,([]:Y Int))=some ((W.foldl (λ s k=>((fJ cl).getD k []).foldl (lE lab) s) (left,[])).1,cI (W.foldl (λ s k=>((fJ cl).getD k []).foldl (lE lab) s) (left,[])).2):=by
 have hb:=PI h;have hbl:∀k,k<cl.length->((fJ cl).getD k []).length<=1000:=λk hk=>by rw[PG hk,length_map];exact ha _ (getElem_mem hk)
 have:=dQ (l:=W) (step:=ng n cl lab (cI W)) (λ i (s:List Int×List Nat)=>((i:Int),s.1,cI s.2)) (λ k s=>((fJ cl).getD k []).foldl (lE lab) s) (λ s=>(s.1,cI s.2)) (λ i s=>s.1.length=cl.length/\s.2.length<=1000*i/\Y6 s.1 (1000*i)) (λ i hi s hs=>?_) (λ s _=>by simp[ng]) n (by omega) (left,[]) ⟨h1,by simp,by simpa using hlow⟩
 .rw[fm]at this;exact this
 .obtain⟨a1,a3,a4⟩:=hs;have hi':decide ((i:Int)<(((cI W).length:Nat):Int))=true:=by simpa using hi
  have hk:=hW _ (getElem_mem hi);have hg:=aeg lab ((fJ cl).getD W[i] []) s;have:=hbl _ hk;obtain⟨r7,r8⟩:=aq9 (n:=n) (S8 h hk) (lab:=lab) (left:=s.1) (X:=s.2) (λ k hk'=>by rw[<- vI];exact(hb W[i]).2 k hk') this h0 a1 (by omega) (by omega) a4 (by omega) hn
  change Y6 (List.foldl (lE lab) s _).1 _ at r8
  refine⟨?_,by rw[hg.1,a1],by omega,λk=>by have:=r8 k;omega⟩;simp only[ng,hi',aj,aV (show i<(cI W).length by simpa using hi),PM hi,ai,fm,Int.zero_add,aO hk,aH,r7];rw[aL (by omega)]
include hl in
theorem arb(hn:1000000<=n):iter (mV cl ((List.range cl.length).map λm=>cI (gb (fJ cl) m))) n ((0:Int),List.replicate cl.length (0:Int),([]:Y Int))=
 some ((List.range cl.length).map λm=>((gb (fJ cl) m).length:Int),cI ((List.range cl.length).filter λm=>(gb (fJ cl) m).length==0)):=by
 have:=fV (step:=mV cl ((List.range cl.length).map λm=>cI (gb (fJ cl) m))) (λ i=>((i:Int),(List.range cl.length).map λm=>(if m<i then((gb (fJ cl) m).length:Int)else 0),cI ((List.range i).filter λm=>(gb (fJ cl) m).length==0))) cl.length
  ((List.range cl.length).map λm=>((gb (fJ cl) m).length:Int),cI ((List.range cl.length).filter λm=>(gb (fJ cl) m).length==0)) (λ i hi=>?_) ?_ n (by omega)
 .have e:((List.range cl.length).map λm=>(if m<0 then((gb (fJ cl) m).length:Int)else 0))=List.replicate cl.length (0:Int):=by refine List.ext_getElem (by simp) λm h1 h2=>by simp
  rw[e]at this;exact this
 .have hi':decide ((i:Int)<(cl.length:Int))=true:=by simpa using hi
  have e1:bx ((List.range cl.length).map λm=>cI (gb (fJ cl) m)) (i:Int)=some (cI (gb (fJ cl) i)):=by rw[Fh];simp[hi]
  have e2:∀l:Y Int,l.length=cl.length->∃x,bx l (i:Int)=some x:=λl h=>⟨_,aO (by omega)⟩;obtain⟨x,hx⟩:=e2 ((List.range cl.length).map λm=>(if m<i then((gb (fJ cl) m).length:Int)else 0)) (by simp);have e3:∀(l:Y Int) v,l.length=cl.length->bx (l.set i v) (i:Int)=some v:=λl v h=>by rw[Fh];simp[show i<l.length by omega]
  have e4:(((List.range cl.length).map λm=>(if m<i then((gb (fJ cl) m).length:Int)else 0)).set i ((gb (fJ cl) i).length:Int))=(List.range cl.length).map λm=>(if m<i+1 then((gb (fJ cl) m).length:Int)else 0):=by
   refine List.ext_getElem (by simp) λm h1 h2=>?_;rw[List.getElem_set];by_cases e:i=m
   .subst e;simp
   .rw[aM e];simp;by_cases e2:m<i
    .rw[aP e2,aP (by omega)]
    .rw[aM e2,aM (by omega)]
  have hfl:((List.range i).filter λm=>(gb (fJ cl) m).length==0).length<=i:=by have:=length_filter_le (λ m=>(gb (fJ cl) m).length==0) (List.range i);simpa using this
  have ap:bF (cI ((List.range i).filter λm=>(gb (fJ cl) m).length==0)).length (cI ((List.range i).filter λm=>(gb (fJ cl) m).length==0)).length (sub ([(i:Int)]:Y Int) 0 1).length 1 8=true:=by rw[Ei];exact bV (n:=1)
  simp only[mV,hi',aj,Int.toNat_natCast,e1,ai,aV hi,fm,Int.zero_add,hx,e3 _ _ (show ((List.range cl.length).map λm=>(if m<i then((gb (fJ cl) m).length:Int)else 0)).length=cl.length by simp),Ei];rw[List.range_succ,filter_append,UT,List.filter_cons];have eb:(((gb (fJ cl) i).length:Int)==0)=((gb (fJ cl) i).length==0):=by rw[eZ];simp
  rw[eb];cases hz:(gb (fJ cl) i).length==0 with
  |true=>
   simp[Ei]at ap;simp only[aj,ap,dV,aH,ai,e4,if_true];rw[aL (by omega)];rfl
  |false=>
   simp[e4];rw[aL (by omega)];simp[cI]
 .have e:((List.range cl.length).map λm=>(if m<cl.length then((gb (fJ cl) m).length:Int)else 0))=(List.range cl.length).map λm=>((gb (fJ cl) m).length:Int):=by refine map_congr_left λm hm=>aP (List.mem_range.1 hm)
  simp[mV,e]
include h hl in
theorem agQ(ha:∀c∈cl,c.attacks.length<=1000)(h3:cl.length<=300)(hn:1000000<=n):∃L R,qO n cl=some (L,R,0)/\L.length=cl.length/\aq4 (fJ cl) L:=by
 have hb:=PI h;have nl:=vI cl;have hr:yg n cl=some true:=by
  rw[Y5 hl ha (by omega)];have h1:(cl.all λc=>sO (cl.length:Int) (-1) c.attacks)=true:=by rw[all_eq_true];exact h
  have h2:decide ((cl.length:Int)<=300)=true:=by simp;omega
  rw[h1,h2];rfl
 have i0:GI (fJ cl) (List.replicate cl.length (0:Int)) ((List.range cl.length).map λm=>((gb (fJ cl) m).length:Int)) ((List.range cl.length).filter λm=>(gb (fJ cl) m).length==0):=by
  have z:∀j,(List.replicate cl.length (0:Int)).getD j 0=0:=λj=>by by_cases e:j<cl.length<;>simp[e]
  have g:∀m,m<cl.length->((List.range cl.length).map λm=>((gb (fJ cl) m).length:Int)).getD m 0=((gb (fJ cl) m).length:Int):=λm hm=>by simp[hm]
  refine⟨by simp[nl],by simp[nl],List.nodup_range.filter _,λm hm=>?_,λm hm=>?_,λm hm h0=>?_,λm hm=>?_,λj hj=>?_,λi hi h1=>?_,λi=>.inl (z i)⟩
  .rw[mem_filter,List.mem_range]at hm;rw[nl];exact hm.1
  .rw[mem_filter,List.mem_range]at hm;refine⟨z m,?_⟩;rw[g m hm.1];have:=hm.2;simp at this;simp[this]
  .rw[nl]at hm;rw[g m hm]at h0;refine .inr (mem_filter.2 ⟨List.mem_range.2 hm,?_⟩);have:(gb (fJ cl) m).length=0:=(by omega);rw[this];rfl
  .rw[nl]at hm;rw[g m hm];have:(gb (fJ cl) m).countP (λ j=>(List.replicate cl.length (0:Int)).getD j 0 !=2)=(gb (fJ cl) m).length:=(by rw[List.countP_eq_length];intro j _;rw[z j];rfl);rw[this]
  .rw[z j];exact⟨λ h=>absurd h (by decide),λ⟨k,h1,_⟩=>by rw[z k]at h1;exact absurd h1 (by decide)⟩
  .rw[z i]at h1;exact absurd h1 (by decide)
 obtain⟨⟨L,R⟩,h5,h6⟩:=adM (step:=qx n cl) (λ v=>∃W,v.2.2.2.2=cI W/\GI (fJ cl) v.2.1 v.2.2.2.1 W/\v.2.2.1.length=cl.length)
  (λ o=>o.1.length=cl.length/\o.2.length=cl.length/\aq4 (fJ cl) o.1) (λ v=>(List.range (fJ cl).length).countP (λ i=>v.2.1.getD i 0==0)) (λ v hv=>by
   obtain⟨u,L,R,left,w⟩:=v;obtain⟨W,h1,h2,h3⟩:=hv;simp at h1 h2 h3;subst h1;have hW:∀k∈W,k<cl.length:=λk hk=>(by rw[<- nl];exact h2.wb k hk);have hWl:W.length<=cl.length:=yh _ W h2.wn hW;by_cases e:W=[]
   .subst e;refine .inr ⟨(L,R),by simp[qx],by rw[h2.ll,nl],h3,h2.fin⟩
   .obtain⟨L1,R1,L2,R2,O,left',X,e1,e2,e3,e4,e5,e6,e7,e8⟩:=h2.round hb (R:=R) (by rw[h3,nl]) u (i64.wrap (u+1));have l1:L1.length=cl.length/\R1.length=cl.length:=(by have:=Y3 u W (L,R) (λ k hk=>by rw[h2.ll];exact h2.wb k hk);rw[e1]at this;exact⟨by rw[this.1,h2.ll,nl],by rw[this.2.1,h3]⟩);have hO:∀k∈O,k<cl.length:=λk hk=>(by rw[<- nl];exact e6 k hk);have hOl:O.length<=cl.length:=yh _ O e5 hO;have low:Y6 left 0:=λk=>by
     by_cases hk:k<cl.length
     .rw[h2.cn k (by rw[nl];exact hk)];have:=List.countP_le_length (p:=λj=>L.getD j 0 !=2) (l:=gb (fJ cl) k);have h9:(gb (fJ cl) k).length<=cl.length:=(by have:=length_filter_le (λ j=>((fJ cl).getD j []).contains k) (List.range (fJ cl).length);unfold gb;rw[List.length_range,nl]at this;rwa [nl]);omega
     .have:left.getD k 0=0:=(by simp[List.getElem?_eq_none (show left.length<=k by rw[h2.lf,nl];omega)]);rw[this];omega
    have r3:=aq6 (n:=n) u hW (by omega) (by rw[h2.ll,nl]) h3 hn;have r4:=aq8 (n:=n) h u _ hW (by omega) l1.1 l1.2 ha hn rfl;have r6:=ara (n:=n) h hO (by omega) (by rw[e7.ll,nl]) (by rw[h2.lf,nl]) low ha hn;rw[e1]at r3;rw[e2]at r4;rw[e3]at r6;refine .inl ⟨(i64.wrap (u+2),L2,R2,left',cI X),?_,⟨X,rfl,e7,by rw[e4,nl]⟩,e8 e⟩;have hw:decide (((cI W).length:Int)>0)=true:=(by have:=List.length_pos_iff.2 e;simp;omega);simp only[qx,hw,aj,r3,ai,length_nil,aH,r4,r6])
  n (1,List.replicate cl.length (0:Int),List.replicate cl.length (0:Int),(List.range cl.length).map (λ m=>((gb (fJ cl) m).length:Int)),cI ((List.range cl.length).filter λm=>(gb (fJ cl) m).length==0)) ⟨_,rfl,i0,by simp⟩ (by have:=List.countP_le_length (p:=λi=>(List.replicate cl.length (0:Int)).getD i 0==0) (l:=List.range (fJ cl).length);rw[List.length_range,nl]at this;simp only;rw[nl];omega)
 obtain⟨h7,h8,h9⟩:=h6;simp at h7 h8 h9;refine⟨L,R,?_,h7,h9⟩;have mk:(decide ((cl.length:Int)<=(cl.length:Int))&&(decide (0<=(cl.length:Int))&&qg (cl.length:Int) 8))=true:=by have hmx:maxLen=9223372036854775807:=rfl;simp[qg];omega
 unfold qO;have sL:sub L 0 cl.length=L:=by rw[<- h7];exact dP L
 have sR:sub R 0 cl.length=R:=by rw[<- h8];exact dP R
 simp only[hr,ai,Bool.not_true,au,aje h hl ha,mk,aj,length_nil,aH,Int.toNat_natCast,arb hl hn,h5,sL,sR,h7,h8]
end
abbrev tg(a b:bM):Bool:=decide (i64.wrap (a.from_-b.from_)<0)
abbrev stM:Nat:=12
theorem RH{l:Y bM}(hl:l.length<=stM)(_:2000<=n):wK n l (λ y1=>nX y1.1 y1.2.1)=some (iP tg l)/\(iP tg l).length=l.length:=by
 have hl:l.length<=12:=hl;refine⟨?_,zM hl⟩;show OT l _=_;unfold OT;have h1:Nat.ble l.length 1099511627775=true:=Nat.ble_eq_true_of_le (by omega);have h2:Nat.ble l.length 12=true:=Nat.ble_eq_true_of_le hl;rw[h1,h2,Bool.or_true,Bool.and_true,Bool.true_and];have h3:((default::l).all λx=>(default::l).all λy=>((λ y1:bM×bM×Unit=>nX y1.1 y1.2.1) (x,y,())).isSome)=true:=by simp[nX]
 rw[h3];rfl
def fx(x:Int):Bool:=decide (0<=x)&&decide (x<=1073741824)
theorem Y7(x:Int):nY x=some (fx x):=by unfold nY fx;rw[zZ]
def oB(l:Y Int):Bool:=decide (l.length<=1000)&&(l.all fx&&(List.range l.length).all λi=>decide (i=0) || decide (l.getD (i-1) 0<l.getD i 0))
theorem agR{l:Y Int}(hn:2000<=n):uO n l=some (oB l):=by
 unfold uO oB;by_cases hl:l.length<=1000
 .have h0:decide ((l.length:Int)>1000)=false:=by simp;omega
  have h1:decide (l.length<=1000)=true:=by simpa using hl
  rw[h0,au,h1,Bool.true_and];have hp:∀i:Nat,i<l.length->l7 l (i:Int)=some (bif !fx (l.getD i 0) || (!decide (i=0)&&!decide (l.getD (i-1) 0<l.getD i 0))then .inr (.inr false)else .inl ((i+1:Nat):Int)):=λi hi=>by
   have hi':decide ((i:Int)<(l.length:Int))=true:=(by simpa using hi);have e0:l[i]=l.getD i 0:=(by simp[hi]);simp only[l7,hi',aj,aO hi,ai,Y7,e0];rw[aL (by omega)];cases fx (l.getD i 0)with
   |false=>rfl
   |true=>
    by_cases hz:i=0
    .subst hz;rfl
    .have h2:decide ((i:Int)>0)=true:=(by simp;omega);have e1:bx l (i64.wrap ((i:Int)-1))=some (l.getD (i-1) 0):=(by rw[nU (by omega) (by omega),aO (by omega)];simp[show i-1<l.length by omega]);simp only[h2,aj,Bool.not_true,au,e1,ai,Bool.false_or,hz,decide_false,Bool.not_false,Bool.true_and];have e2:decide (l.getD i 0<=l.getD (i-1) 0)=!decide (l.getD (i-1) 0<l.getD i 0):=(by rw[eZ];simp);rw[e2];cases decide (l.getD (i-1) 0<l.getD i 0)<;>rfl
  have:=kI (l:=List.range l.length) (step:=l7 l) (λ i=>(i:Int)) (λ i=>!fx (l.getD i 0) || (!decide (i=0)&&!decide (l.getD (i-1) 0<l.getD i 0))) () (λ _=>false) (λ i hi=>?_) ?_ n (by simp;omega)
  .rw[fm]at this;rw[this];have e:=jW (λ i=>!fx (l.getD i 0) || (!decide (i=0)&&!decide (l.getD (i-1) 0<l.getD i 0))) (List.range l.length);have e2:(l.all fx&&(List.range l.length).all λi=>decide (i=0) || decide (l.getD (i-1) 0<l.getD i 0))=!((List.range l.length).any λi=>!fx (l.getD i 0) || (!decide (i=0)&&!decide (l.getD (i-1) 0<l.getD i 0))):=by
    rw[eZ];simp only[aT,all_eq_true,Bool.not_eq_true',any_eq_false,List.mem_range,Bool.or_eq_true,bf];constructor
    .rintro⟨a,b⟩ i hi hc;rcases hc with hc|hc
     .have:=a (l.getD i 0) (by simp[hi]);rw[this]at hc;cases hc
     .simp at hc;have:=b i hi;simp at this;omega
    .intro h;refine⟨λ x hx=>?_,λi hi=>?_⟩
     .obtain⟨i,hi,rfl⟩:=List.getElem_of_mem hx;have:=h i hi;simp[hi]at this;exact this.1
     .have:=h i hi;simp at this |-;omega
   rw[e2,<- e];cases nM _ (List.range l.length)<;>rfl
  .rw[hp i (by simpa using hi),List.getElem_range]
  .rw[List.length_range];simp[l7]
 .have h0:decide ((l.length:Int)>1000)=true:=by simp;omega
  have h1:decide (l.length<=1000)=false:=by simpa using hl
  rw[h0,h1];rfl
def vd(hol:Y Int)(d:Int):Int:=hol.foldl (λ v h=>bif decide (h<d)&&decide (Int.tmod h 7<5)then i64.wrap (v-1)else v) (i64.wrap (i64.wrap (i64.wrap (Int.tdiv d 7)*5)+min (Int.tmod d 7) 5))
theorem aeh{hol:Y Int}{d:Int}(hl:hol.length<n)(hn:hol.length<1000000000):kH n hol d=some (vd hol d):=by
 unfold kH;have:=gH (l:=hol) (step:=q8 hol d) (λ i (s:Int)=>(s,(i:Int))) (λ h v=>bif decide (h<d)&&decide (Int.tmod h 7<5)then i64.wrap (v-1)else v) (λ s=>s) (λ i hi s=>?_) (λ s=>by simp[q8]) n hl (i64.wrap (i64.wrap (i64.wrap (Int.tdiv d 7)*5)+min (Int.tmod d 7) 5))
 .rw[fm]at this;rw[show ((7:Nat) !=0)=true from rfl];simp[this];rfl
 .have hi':decide ((i:Int)<(hol.length:Int))=true:=by simpa using hi
  simp only[q8,hi',aj,aO hi,ai,show((7:Nat) !=0)=true from rfl,zZ];rw[aL (by omega)];cases decide (hol[i] <d)&&decide (Int.tmod hol[i] 7<5)<;>rfl
def uu(hol:Y Int)(C:Y bM)(a b:Int):Int:=
 C.foldl (λ v s=>bif decide (max s.from_ (i64.wrap (a+1))<=min s.to b)then i64.wrap (v-i64.wrap (vd hol (i64.wrap (min s.to b+1))-vd hol (max s.from_ (i64.wrap (a+1)))))else v) (i64.wrap (vd hol (i64.wrap (b+1))-vd hol (i64.wrap (a+1))))
theorem count_eq{hol:Y Int}{C:Y bM}{a b:Int}(hl:hol.length<=1000)(hc:C.length<=1000)(hn:2000<=n):uP n hol C a b=some (uu hol C a b):=by
 unfold uP;have:=gH (l:=C) (step:=ql n hol C a b) (λ i (s:Int)=>(s,(i:Int))) (λ s v=>bif decide (max s.from_ (i64.wrap (a+1))<=min s.to b)then i64.wrap (v-i64.wrap (vd hol (i64.wrap (min s.to b+1))-vd hol (max s.from_ (i64.wrap (a+1)))))else v) (λ s=>s) (λ i hi s=>?_) (λ s=>by simp[ql]) n (by omega) (i64.wrap (vd hol (i64.wrap (b+1))-vd hol (i64.wrap (a+1))))
 .rw[fm]at this;rw[aeh (by omega) (by omega),ai,aeh (by omega) (by omega),ai,this];rfl
 .have hi':decide ((i:Int)<(C.length:Int))=true:=by simpa using hi
  have u:∀d,kH n hol d=some (vd hol d):=λd=>aeh (by omega) (by omega);simp only[ql,hi',aj,aO hi,ai,u];rw[aL (by omega)];cases decide (max C[i].from_ (i64.wrap (a+1))<=min C[i].to b)<;>rfl
theorem alY{N:Nat}{Z:(Int×Unit)->J Bool}(f:Int->Bool)(hf:∀x,Z (x,())=some (f x))(hN:N<4294967296)(hn:100<=n):∃k:Nat,sort_Search n (N:Int) Z=some (k:Int)/\k<=N/\(k<N->f (k:Int)=true)/\(0<k->f ((k:Int)-1)=false):=by
 have main:∀(k m i j:Nat),j-i<2 ^ k->k<m->i<=j->j<=N->(j<N->f (j:Int)=true)->(0<i->f ((i:Int)-1)=false)->∃r:Nat,iter (jl Z) m ((i:Int),(j:Int))=some (r:Int)/\r<=N/\(r<N->f (r:Int)=true)/\(0<r->f ((r:Int)-1)=false):=by
  intro k
  induction k with
  |zero=>
   intro m i j h1 h2 h3 h4 h5 h6;obtain⟨m,rfl⟩:∃m',m=m'+1:=⟨m-1,by omega⟩;have:i=j:=(by omega);subst this;exact⟨i,fP (by simp[jl]),h4,h5,h6⟩
  |succ k ih=>
   intro m i j h1 h2 h3 h4 h5 h6;obtain⟨m,rfl⟩:∃m',m=m'+1:=⟨m-1,by omega⟩;by_cases e:i=j
   .subst e;exact⟨i,fP (by simp[jl]),h4,h5,h6⟩
   .have hlt:decide ((i:Int)<(j:Int))=true:=(by simp;omega);have w1:i64.wrap ((i:Int)+(j:Int))=((i+j:Nat):Int):=(by rw[bP (by omega) (by omega)];omega);have w2:IntKind.u64.wrap ((i+j:Nat):Int)=((i+j:Nat):Int):=ab9 (by omega);have w3:((i+j:Nat):Int)/2 ^ (1:Int).toNat=(((i+j)/2:Nat):Int):=(by rw[show (2:Int) ^ (1:Int).toNat=2 from rfl];omega);have w4:i64.wrap (((i+j)/2:Nat):Int)=(((i+j)/2:Nat):Int):=Oy (by omega);have hb:(decide (0<=1)&&decide (1<=IntKind.u64.bits))=true:=rfl;have hp:=Nat.pow_succ 2 k;have w5:i64.wrap ((((i+j)/2:Nat):Int)+1)=(((i+j)/2+1:Nat):Int):=aL (by omega);cases hm:f (((i+j)/2:Nat):Int)with
    |false=>
     have st:jl Z ((i:Int),(j:Int))=some (.inl ((((i+j)/2+1:Nat):Int),(j:Int))):=(by simp only[jl,hlt,aj,w1,w2,w3,w4,hf,hm,ai,Bool.not_false,w5];rfl);rw[jP st];refine ih m ((i+j)/2+1) j (by omega) (by omega) (by omega) h4 h5 λ_=>?_;rw[show (((i+j)/2+1:Nat):Int)-1=(((i+j)/2:Nat):Int)by omega];exact hm
    |true=>
     have st:jl Z ((i:Int),(j:Int))=some (.inl ((i:Int),(((i+j)/2:Nat):Int))):=(by simp only[jl,hlt,aj,w1,w2,w3,w4,hf,hm,ai,Bool.not_true,au];rfl);rw[jP st];exact ih m i ((i+j)/2) (by omega) (by omega) (by omega) (by omega) (λ _=>hm) h6
 unfold sort_Search;obtain⟨r,h1,h2,h3,h4⟩:=main 32 n 0 N (by omega) (by omega) (by omega) (aB _) (λ h=>by omega) (λ h=>by omega);rw[fm]at h1;exact⟨r,by rw[h1];rfl,h2,h3,h4⟩
def JQ(s:bM):Bool:=!(decide (s.from_<0) || (decide (s.from_>s.to) || decide (s.to>1073741824)))
def ox(l:Y bM):Bool:=decide (l.length<=100)&&l.all JQ
def vj(out:Y bM)(s:bM):Y bM:=match out.getLast? with
 |some t=>bif decide (s.from_<=t.to)then out.dropLast++[⟨t.from_,max t.to s.to⟩]else out++[s]
 |none=>[s]
def k9(l:Y bM):Y bM:=(iP tg l).foldl vj []
theorem akC(out:Y bM)(s:bM):(vj out s).length<=out.length+1:=by
 unfold vj;cases h:out.getLast? with
 |none=>simp
 |some t=>
  show(bif decide (s.from_<=t.to)then out.dropLast++[⟨t.from_,max t.to s.to⟩]else out++[s]:Y bM).length<=_;cases decide (s.from_<=t.to)<;>simp<;>omega
theorem Cu:∀(l out:Y bM),(l.foldl vj out).length<=out.length+l.length
 |[],out=>by simp
 |x::l,out=>by have:=Cu l (vj out x);have:=akC out x;rw[foldl_cons,d9];omega
theorem akD{l:Y bM}(hlm:l.length<=stM)(hn:2000<=n):xh n l=some (bif ox l then(k9 l,true)else([],false)):=by
 have hl:l.length<=100:=Nat.le_trans hlm (by decide);unfold xh ox;have h0:decide ((l.length:Int)>100)=false:=by simp;omega
 have h1:decide (l.length<=100)=true:=by simp;omega
 have hcl:sF l=some l:=qH (b:=16) (by omega) (by simp[maxLen];omega);have⟨hst,hsl⟩:=RH (n:=n) hlm hn;rw[h0,au,h1,Bool.true_and,hcl];simp[hst];have:=kI (l:=l) (step:=qY l) (λ i=>(i:Int)) (λ s=>!JQ s) () (λ _=>(([]:Y bM),false)) (λ i hi=>?_) ?_ n (by omega)
 .rw[fm]at this;rw[this];have e:=jW (λ s=>!JQ s) l;rw[List.all_eq_not_any_not,<- e];cases nM (λ s=>!JQ s) l with
  |some i=>rfl
  |none=>
   have:=dQ (l:=iP tg l) (step:=qZ l (iP tg l)) (λ i (s:List bM)=>((i:Int),s)) (λ x s=>vj s x) (λ s=>s) (λ i s=>s.length<=i) (λ i hi s hs=>?_) (λ s _=>by simp[qZ,hsl]) n (by omega) [] (aB _)
   .rw[fm]at this;simp[this];rfl
   .rw[hsl]at hi;have hi':decide ((i:Int)<(l.length:Int))=true:=(by simpa using hi);have his:i<(iP tg l).length:=(by omega);refine⟨?_,by have:=akC s (iP tg l)[i];omega⟩;simp only[qZ,hi',aj,aV hi,fm,Int.zero_add,aO his,ai];unfold vj;rcases List.eq_nil_or_concat s with e|⟨a,t,e⟩
    .subst e;have ap:bF 0 0 (sub ([(iP tg l)[i]]:Y bM) 0 1).length 1 16=true:=bV (n:=1);have hz:decide (i64.wrap ((([]:Y bM).length:Int)-1)>=0)=false:=(by simp[IntKind.wrap_i64]);simp;rw[aL (by omega)];rfl
    .rw[List.concat_eq_append]at e;subst e;have hla:(a++[t]).length=a.length+1:=(by simp);have hw:i64.wrap (((a++[t]).length:Int)-1)=(a.length:Int):=(by rw[eU];simp only[d9,length_nil];rw[bP (by omega) (by omega)];omega);have hg:decide ((a.length:Int)>=0)=true:=(by simp);have hb:cV (a.length:Int) (a++[t]).length=true:=aV (by simp);have ha:bx (a++[t]) (a.length:Int)=some t:=(by rw[Fh];simp);have ap:bF (a++[t]).length (a++[t]).length (sub ([(iP tg l)[i]]:Y bM) 0 1).length 1 16=true:=bV (n:=1);have hset:∀v,(a++[t]).set a.length v=a++[v]:=λv=>(by simp);simp only[hw,hg,hb,ha,aj,ai,Int.toNat_natCast,hset,List.getLast?_append,List.getLast?_singleton,Option.some_or];cases decide ((iP tg l)[i].from_<=t.to)with
     |true=>simp only[aj,eU,d9,length_nil,aH,ai,List.dropLast_concat];rw[aL (by omega)]
     |false=>simp only[au,ap,aj,dV,aH,ai];rw[aL (by omega)];rfl
 .have hi':decide ((i:Int)<(l.length:Int))=true:=by simpa using hi
  simp only[qY,hi',aj,aO hi,ai,Yr];have:(!JQ l[i])=(decide (l[i].from_<0) || (decide (l[i].from_>l[i].to) || decide (l[i].to>1073741824))):=by simp[JQ]
  rw[this,aL (by omega)];cases decide (l[i].from_<0) || (decide (l[i].from_>l[i].to) || decide (l[i].to>1073741824))<;>rfl
 .simp[qY]
structure QP(hol:List Int)(st:List bM)(day k:Int)(r:Int×Int):Prop where
 code:r.2=0\/r.2=1\/r.2=20
 ok:r.2=0->oB hol=true/\ox st=true/\fx day=true/\fx k=true/\day<=r.1/\r.1<=1073741824
 z:r.2=0->k=0->r.1=day
 up:r.2=0->k≠0->day<r.1/\uu hol (k9 st) day r.1>=k/\(day+1<r.1->uu hol (k9 st) day (r.1-1)<k)
theorem Y8{hol:Y Int}{st:Y bM}{day k:Int}(hs:st.length<=stM)(hn:3000<=n):∃r,eY n hol st day k=some r/\QP hol st day k r:=by
 unfold eY;rw[akD hs (by omega),agR (by omega),Y7,Y7];have bad:∀e:Int,e=1\/e=20->QP hol st day k (0,e):=λe he=>⟨.inr he,λh=>absurd h (by simp;omega),λh=>absurd h (by simp;omega),λh=>absurd h (by simp;omega)⟩;cases h1:ox st with
 |false=>exact⟨(0,1),rfl,bad 1 (.inl rfl)⟩
 |true=>
  simp only[aj,ai,dP,aH,Bool.not_true,au];cases h2:oB hol with
  |false=>exact⟨(0,1),rfl,bad 1 (.inl rfl)⟩
  |true=>
   cases h3:fx day with
   |false=>exact⟨(0,1),rfl,bad 1 (.inl rfl)⟩
   |true=>
    cases h4:fx k with
    |false=>exact⟨(0,1),rfl,bad 1 (.inl rfl)⟩
    |true=>
     simp only[Bool.not_true,au,ai];have d3:0<=day/\day<=1073741824:=(by simpa[fx]using h3);by_cases hk:k=0
     .subst hk;exact⟨(day,0),rfl,.inl rfl,λ_=>⟨h2,h1,h3,h4,Int.le_refl _,d3.2⟩,λ_ _=>rfl,λ_ h=>absurd rfl h⟩
     .have e0:(k==0)=false:=(by simpa using hk);have hl:hol.length<=1000:=(by simp[oB]at h2;exact h2.1);have hc:(k9 st).length<=1000:=(by have:=Cu (iP tg st) [];have:=(RH (n:=n) hs (by omega)).2;have:st.length<=100:=Nat.le_trans hs (by decide);unfold k9;simp[length_nil]at*;omega);have w1:i64.wrap (1073741824-day)=(((1073741824-day).toNat:Nat):Int):=(by rw[bP (by omega) (by omega)];omega);obtain⟨m,a1,a2,a3,a4⟩:=alY (n:=n) (N:=(1073741824-day).toNat) (Z:=λy1=>jk n y1.1 hol (k9 st) day k) (λ x=>decide (uu hol (k9 st) day (i64.wrap (i64.wrap (day+1)+x))>=k)) (λ x=>by show jk n x hol (k9 st) day k=_;unfold jk;rw[count_eq hl hc (by omega)];rfl) (by omega) (by omega);rw[e0,au,w1,a1];simp only[ai];by_cases hm:m=(1073741824-day).toNat
      .subst hm;rw[beq_self_eq_true,aj];exact⟨(0,20),rfl,bad 20 (.inr rfl)⟩
      .have e1:((m:Int)==(((1073741824-day).toNat:Nat):Int))=false:=(by simp;omega);have wr:∀x:Int,0<=x->x<=1073741824->i64.wrap (i64.wrap (day+1)+x)=day+1+x:=λx h1 h2=>(by rw[bP (show -9223372036854775808<=day+1 by omega) (by omega),bP (by omega) (by omega)]);rw[e1,au,wr _ (by omega) (by omega)];refine⟨_,rfl,.inl rfl,λ_=>⟨h2,h1,h3,h4,by simp;omega,by simp;omega⟩,λ_ h=>absurd h hk,λ_ _=>⟨by simp;omega,?_,λhlt=>?_⟩⟩
       .have:=a3 (by omega);rw[wr _ (by omega) (by omega)]at this;simpa using this
       .simp at hlt |-;have:=a4 (by omega);rw[wr _ (by omega) (by omega)]at this;rw[show day+1+(m:Int)-1=day+1+((m:Int)-1)by omega];simpa using this
noncomputable section
def dE(h:aC):fq:=fq.mk h.bp h.aq h.bj h.aw h.be h.bk h.b7 h.bm h.cQ h.cC h.cJ h.cN h.c8
def ee(h:aC):aQ:=aQ.mk h.b8 h.bu
def H2(h:aC):fM×Bool:=dH h.cQ h.b8
structure zh(n:Nat)(h:aC):Prop where
 fuel:Hc n
 town:H4 (dE h)
 draw:N5 (ee h)
 near:YK (dE h)
 NB:YH (ee h)
 stays:h.stays.length<=12
 cases:h.cases.length<=1000
section
variable {n:Nat} {h:aC}
def j0(n:Nat)(h:aC):Int×Int:=(dS n h).getD (0,1)
def Y9(h:aC):Int:=max 0 (In h.aq ⟨#[100,97,121,115]⟩)
theorem nu(o:zh n h):dS n h=some (j0 n h)/\eY n h.c7 h.stays h.eo (Y9 h)=some (j0 n h)/\QP h.c7 h.stays h.eo (Y9 h) (j0 n h):=by
 have hn:=o.fuel.1;obtain⟨r,h1,h2⟩:=Y8 (n:=n) (hol:=h.c7) (st:=h.stays) (day:=h.eo) (k:=Y9 h) (Nat.le_trans o.stays (by decide)) (by omega);have h3:dS n h=some r:=by have hd:Fx n (bO.mk h.bp h.aq h.bj h.aw h.be h.bk h.b7 h.bm)=some (Y9 h):=YJ (p:=aiP (dE h)) o.near.2.2 (by omega);unfold dS;rw[hd,ai,h1];rfl
 have e:j0 n h=r:=by unfold j0;rw[h3];rfl
 rw[e];exact⟨h3,h1,h2⟩
def Za(n:Nat)(h:aC)(day:Int):Bool:=((j0 n h).2==0)&&(decide (h.eo<=day)&&decide (day<=(j0 n h).1))
theorem al0(o:zh n h)(day:Int):uQ n h day=some (Za n h day):=by unfold uQ Za;rw[(nu o).1,ai];simp[zZ]
def Is(h:aC)(p:Int):Bool:=(p==h.ed) || SO (dE h) (ee h) p
theorem apW(o:zh n h)(p:Int):Ym n (dE h) (ee h) p=some (SO (dE h) (ee h) p):=alE o.near o.NB (by have:=o.fuel.1;omega)
theorem aon(o:zh n h)(p:Int):xq n h p=some (Is h p):=by have:=apW o p;unfold dE ee at this;unfold xq Is;rw[this];exact Yr _ _
theorem M9{l:Y Int}{N:Int}(hl:l.length<=1000)(hn:2000<=n):fD n l N=some (sO N (-1) l):=by
 unfold fD;have:=ab7 (l:=l) (step:=oL l N) (λ i (s:Int)=>(s,(i:Int))) (λ x s=>bif decide (x<=s) || decide (x>=N)then .inr (.inr false)else .inl x) (λ _=>.inl ()) (λ i hi s=>?_) (λ s=>by simp[oL]) n (by omega) (-1)
 .rw[fm]at this;rw[this,RG];cases sO N (-1) l<;>rfl
 .have hi':decide ((i:Int)<(l.length:Int))=true:=by simpa using hi
  simp only[oL,hi',aj,aO hi,ai,Yr];cases decide (l[i]<=s) || decide (l[i]>=N)with
  |true=>rfl
  |false=>simp only[au];rw[aL (by omega)]
def tA:Y ByteArray:=[⟨#[97,114,101,97]⟩,⟨#[99,111,118,101,114]⟩,⟨#[102,108,111,111,114]⟩,⟨#[102,108,111,111,114,115]⟩,⟨#[104,101,105,103,104,116]⟩,⟨#[104,111,109,101,115]⟩,⟨#[114,117,110,111,102,102]⟩,⟨#[115,101,116,98,97,99,107]⟩,⟨#[116,114,97,102,102,105,99]⟩]
def Zb:ByteArray:=⟨#[103,114,97,110,116,101,100]⟩
def KV:ByteArray:=⟨#[114,101,102,117,115,101,100]⟩
def IN(h:aC)(c:aK):Bool:=bif c.ec==0 then true else bif c.ec==1 then tA.any (fg c.name)else bif c.ec==2 then h.aw.any (λ r=>fg r.name c.name)else(c.ec==3)&&(fg c.name Zb || fg c.name KV)
theorem al2(o:zh n h){c:aK}(hl:c.attacks.length<=1000):nZ n h c=some (IN h c&&sO (h.claims.length:Int) (-1) c.attacks):=by
 have hn:=o.fuel.1;have ha:=M9 (n:=n) (N:=(h.claims.length:Int)) hl (by omega);have h2:mh n c=some (tA.any (fg c.name)):=by have hm:pJ=some tA:=rfl;unfold mh;rw[hm,ai];simp only[dP,aH,aj];rw[lD (by simp[tA]) (by simp[tA];omega)];rfl
 have h4:mq n c h=some (h.aw.any λr=>fg r.name c.name):=by have hr:=o.town.rules;have hr:h.aw.length<=100:=hr;unfold mq qL;have:uX n h.aw (λ y1=>jC y1.1 c)=some (yP (λ r=>fg r.name c.name) h.aw):=fU (n:=n) (l:=h.aw) (Z:=λy1=>jC y1.1 c) (λ r=>fg r.name c.name) (λ _ _=>rfl) (by omega) (by omega);rw[this,ai,ai,sS]
 have h6:mD c=some (fg c.name Zb || fg c.name KV):=by unfold mD;rw[Yr];rfl
 unfold nZ IN;rw[ha,h2,h4,h6];cases c.ec==0<;>cases c.ec==1<;>cases c.ec==2<;>cases c.ec==3<;>cases sO (h.claims.length:Int) (-1) c.attacks<;>simp<;>rfl
def Zc(n:Nat)(h:aC):Y bg:=To n h.aq (rQ (H2 h).1) (gI (ee h))
theorem aoo(o:zh n h):rf n h.cQ h.b8=some (H2 h):=by have:=o.town.land;have hn:=o.fuel.1;have hl:h.cQ.length<=1000:=this;exact acy o.town.lots (by omega) (by omega)
theorem aop(o:zh n h):kT n (bO.mk h.bp h.aq h.bj h.aw h.be h.bk h.b7 h.bm) (H2 h).1 (aQ.mk h.b8 h.bu)=some (Zc n h):=by have hn:=o.fuel.1;have ht:=o.town.plan.tabs;have hw:=RB o.town.lots h.b8;exact aqo (p:=nb (dE h)) (d:=ee h) ⟨by have:=ht.1;omega,by have:=ht.1;omega,λx hx=>by have:=ht.2 x hx;omega⟩ hw.1 o.draw.1 (by omega) _ _ _ _ _ _ _
def aoq(h:aC)(c:aK):Bool:=match h.cases.find? λx=>x.id==c.n with
 |some x=>(fg c.name Zb&&x.grant) || (fg c.name KV&&!x.grant)
 |none=>false
def PJ(n:Nat)(h:aC)(c:aK):Bool:=bif c.ec==0 then true else bif c.ec==1 then(H2 h).2&&(Zc n h).any (λ x=>fg c.name x.name&&(c.n==x.n))else bif c.ec==2 then(K6 n (dE h) (ee h)==0)&&(F7 n (dE h) (ee h) h.rule).any (fg c.name)else(c.ec==3)&&aoq h c
theorem agT(o:zh n h):(F7 n (dE h) (ee h) h.rule).length<=200:=by
 unfold F7;cases K6 n (dE h) (ee h)==0 with
 |false=>simp
 |true=>
  have h1:=Y1 (F6 n (dE h) (rZ (dE h) (ee h)) (ee h) (applied (dE h) (rZ (dE h) (ee h)) h.rule)) acB (Tb (dE h) (ee h));have h2:=Ct (Hb n (dE h) (rZ (dE h) (ee h)) (ee h)) (applied (dE h) (rZ (dE h) (ee h)) h.rule) [];have h3:(applied (dE h) (rZ (dE h) (ee h)) h.rule).length<=(dE h).az.length:=length_filter_le _ _;have h4:=o.town.rules;unfold F6 at h1;simp[length_nil]at*;unfold F6;omega
theorem apX(o:zh n h)(c:aK):rF n h c=some (PJ n h c):=by
 have hn:=o.fuel.1;have h3:mE n c h=some ((H2 h).2&&(Zc n h).any λx=>fg c.name x.name&&(c.n==x.n)):=by
  unfold mE;rw[aoo o,ai];cases (H2 h).2 with
  |false=>rfl
  |true=>
   rw[aop o];have e:zU n (Zc n h) (bg.mk c.name c.n)=some (yP (λ x=>fg c.name x.name&&((c.n==x.n)&&true)) (Zc n h)):=Jd (by simp[Zc,To]) (by simp[Zc,To];omega);simp[uY,e,sS]
 have h5:mR n c h=some ((K6 n (dE h) (ee h)==0)&&(F7 n (dE h) (ee h) h.rule).any (fg c.name)):=by have hb:=alV h.rule o.town o.draw o.fuel;have hl:=agT o;have hs:=lD (n:=n) (l:=F7 n (dE h) (ee h) h.rule) (a:=c.name) (by omega) (by omega);unfold dE ee at hb hs |-;unfold mR;rw[hb];simp[hs];exact zZ _ _
 have h7:mU n c h=some (aoq h c):=by
  have hc:=o.cases;unfold mU aoq;have:vw n h.cases (λ y1=>jH y1.1 c)=some (yP (λ x=>x.id==c.n) h.cases):=fU (n:=n) (l:=h.cases) (Z:=λy1=>jH y1.1 c) (λ x=>x.id==c.n) (λ _ _=>rfl) (by omega) (by omega);rw[this,ai,sS];cases ha:h.cases.any λx=>x.id==c.n with
  |false=>
   have:h.cases.find? (λ x=>x.id==c.n)=none:=(by rw[List.find?_eq_none];rw[any_eq_false]at ha;exact ha);rw[this];rfl
  |true=>
   have⟨i,hi,e1,e2⟩:=afJ ha;rw[e1,e2,aO hi];simp only[aj,ai]
   change (bif fg c.name Zb then _ else bif fg c.name KV then _ else _)=_
   cases fg c.name Zb<;>cases hr:fg c.name KV<;>cases h.cases[i].grant<;>first|rfl|(unfold fg KV at hr;rw[hr];rfl)
 unfold rF PJ;rw[h3,h5,h7];cases c.ec==0<;>cases c.ec==1<;>cases c.ec==2<;>cases c.ec==3<;>rfl
def bZ:aK:=aK.mk 0 0 ([]) 0 (⟨#[]⟩) 0
def ownB(n:Nat)(h:aC)(c:aK):Bool:=Za n h c.day&&(Is h c.gz&&(IN h c&&PJ n h c))
def Cv(N:Nat)(c:aK):Bool:=sO (N:Int) (-1) c.attacks
def bz(n:Nat)(h:aC)(i:Nat):Bool:=decide (i=0) || (ownB n h (h.claims.getD i bZ)&&Cv h.claims.length (h.claims.getD i bZ))
def fT(n:Nat)(h:aC):Y Bool:=(List.range h.claims.length).map (bz n h)
def Mq(h:aC):Prop:=1<=h.claims.length/\h.claims.length<=300/\∀c∈h.claims,c.attacks.length<=1000
theorem zu(o:zh n h)(hc:Mq h):iK n h=some (fT n h):=by
 obtain⟨c1,c2,c3⟩:=hc;have hn:=o.fuel.1;have hmx:maxLen=9223372036854775807:=rfl;have hj:fQ h=some true:=by unfold fQ;rw[show decide (1<=(h.claims.length:Int))=true by simp;omega,show decide ((h.claims.length:Int)<=300)=true by simp;omega];rfl
 have mk:(decide ((h.claims.length:Int)<=(h.claims.length:Int))&&(decide (0<=(h.claims.length:Int))&&qg (h.claims.length:Int) 1))=true:=by simp[qg];omega
 have key:=fV (step:=qw n h) (λ i=>((i:Int),(List.range h.claims.length).map λk=>decide (k<i)&&bz n h k)) h.claims.length (fT n h) (λ i hi=>?_) ?_ n (by omega)
 .have e:((List.range h.claims.length).map λk=>decide (k<0)&&bz n h k)=List.replicate h.claims.length false:=List.ext_getElem (by simp) λm h1 h2=>by simp
  rw[e,fm]at key;unfold iK;simp only[hj,ai,Bool.not_true,au,mk,aj,Int.toNat_natCast,key];have e2:sub (fT n h) 0 h.claims.length=fT n h:=by have:=dP (fT n h);unfold fT at this |-;simpa using this
  rw[e2,show(fT n h).length=h.claims.length by simp[fT],aH];simp
 .have hi':decide ((i:Int)<(h.claims.length:Int))=true:=by simpa using hi
  have hg:bx ((List.range h.claims.length).map λk=>decide (k<i)&&bz n h k) (i:Int)=some (((List.range h.claims.length).map λk=>decide (k<i)&&bz n h k)[i]'(by simpa using hi)):=aO (by simpa using hi);have e4:∀b,b=bz n h i->((List.range h.claims.length).map λk=>decide (k<i)&&bz n h k).set i b=(List.range h.claims.length).map λk=>decide (k<i+1)&&bz n h k:=λb hb=>by
   refine List.ext_getElem (by simp) λm h1 h2=>?_;rw[List.getElem_set];by_cases e:i=m
   .subst e;simp[hb]
   .rw[aM e];simp;rw[show decide (m<i)=decide (m<i+1)by rw[decide_eq_decide];omega]
  have hgc:h.claims.getD i bZ=h.claims[i]:=by simp[hi]
  have ha:=c3 _ (getElem_mem hi);simp only[qw,hi',aj,aO hi,ai,Int.toNat_natCast,aV hi,fm,Int.zero_add,hg,al0 o,aon o,al2 o ha,apX o];rw[aL (by omega)];by_cases h0:i=0
  .subst h0;rw[show (((0:Nat):Int)==0)=true from rfl,aj,ai,e4 true (by simp[bz])]
  .rw[show ((i:Int)==0)=false by simp;omega,au];have hcb:bz n h i=(Za n h h.claims[i].day&&(Is h h.claims[i].gz&&(IN h h.claims[i]&&PJ n h h.claims[i]))&&sO (h.claims.length:Int) (-1) h.claims[i].attacks):=(by unfold bz ownB Cv;rw[hgc,show decide (i=0)=false by simpa using h0,Bool.false_or]);cases hA:Za n h h.claims[i].day<;>cases hB:Is h h.claims[i].gz<;>cases hC:IN h h.claims[i]<;>cases hD:sO (h.claims.length:Int) (-1) h.claims[i].attacks<;>(simp;rw[e4 _ (by rw[hcb,hA,hB,hC,hD];simp)])
 .rw[show ((List.range h.claims.length).map λk=>decide (k<h.claims.length)&&bz n h k)=fT n h from map_congr_left λm hm=>by simp[List.mem_range.1 hm]];simp[qw]
def js(n:Nat)(h:aC)(j m:Nat):Prop:=j<h.claims.length/\m<h.claims.length/\bz n h j=true/\Cv h.claims.length (h.claims.getD j bZ)=true/\(m:Int)∈(h.claims.getD j bZ).attacks
structure xf(n:Nat)(h:aC)(L:List Int):Prop where
 len:L.length=h.claims.length
 inn:∀i,i<h.claims.length->bz n h i=true->(L.getD i 0=1↔rm (js n h) i)/\(L.getD i 0=2↔∃k,rm (js n h) k/\js n h k i)/\(L.getD i 0=0\/L.getD i 0=1\/L.getD i 0=2)
 out:∀i,i<h.claims.length->bz n h i=false->L.getD i 0=2
def de(n:Nat)(h:aC)(i:Nat):aK:=bif bz n h i&&Cv h.claims.length (h.claims.getD i bZ)then aK.mk 0 0 (h.claims.getD i bZ).attacks 0 (⟨#[]⟩) 0 else bZ
theorem ard{α:Type}{p q:Prop}[Decidable p][Decidable q](h:p↔q)(a b:α):(if p then a else b)=if q then a else b:=by
 by_cases hp:p
 .rw[aP hp,aP (h.1 hp)]
 .rw[aM hp,aM λx=>hp (h.2 x)]
theorem Zd(o:zh n h)(hc:Mq h):∃L,iQ n h=some (L,L.getD 0 0==1)/\xf n h L:=by
 have hcnt:=zu o hc;obtain⟨c1,c2,c3⟩:=hc;have hn:=o.fuel.1;have hmx:maxLen=9223372036854775807:=rfl;have hj:fQ h=some true:=by unfold fQ;rw[show decide (1<=(h.claims.length:Int))=true by simp;omega,show decide ((h.claims.length:Int)<=300)=true by simp;omega];rfl
 have cl:(fT n h).length=h.claims.length:=by simp[fT]
 have cg:∀i,i<h.claims.length->bx (fT n h) (i:Int)=some (bz n h i):=λi hi=>by rw[aO (by omega)];simp[fT]
 have mk:(decide ((h.claims.length:Int)<=(h.claims.length:Int))&&(decide (0<=(h.claims.length:Int))&&qg (h.claims.length:Int) 72))=true:=by simp[qg];omega
 have k1:=fV (step:=kU n h (fT n h)) (λ i=>((i:Int),(List.range h.claims.length).map λk=>if k<i then de n h k else bZ)) h.claims.length ((List.range h.claims.length).map (de n h)) (λ i hi=>?_) ?_ n (by omega)
 .have e:((List.range h.claims.length).map λk=>if k<0 then de n h k else bZ)=List.replicate h.claims.length (aK.mk 0 0 ([]) 0 (⟨#[]⟩) 0):=List.ext_getElem (by simp) λm h1 h2=>by simp[bZ]
  rw[e,fm]at k1;have hlen:((List.range h.claims.length).map (de n h)).length=h.claims.length:=by simp
  have hget:∀i (hi:i<((List.range h.claims.length).map (de n h)).length),((List.range h.claims.length).map (de n h))[i]=de n h i:=λi hi=>by simp
  have hok:H3 ((List.range h.claims.length).map (de n h)):=λc hm=>by
   rw[hlen];obtain⟨i,_,rfl⟩:=mem_map.1 hm;unfold de;cases hb:bz n h i&&Cv h.claims.length (h.claims.getD i bZ)with
   |true=>simp[aT]at hb;exact hb.2
   |false=>rfl
  have hat:∀c∈(List.range h.claims.length).map (de n h),c.attacks.length<=1000:=λc hm=>by
   obtain⟨i,hi,rfl⟩:=mem_map.1 hm;unfold de;cases hb:bz n h i&&Cv h.claims.length (h.claims.getD i bZ)with
   |true=>rw[List.mem_range]at hi;simp only[aj];rw[show h.claims.getD i bZ=h.claims[i]by simp[hi]];exact c3 _ (getElem_mem hi)
   |false=>simp[bZ]
  obtain⟨L,R,g1,g2,g3,g4⟩:=agQ (n:=n) hok (by omega) hat (by omega) (by omega);rw[hlen]at g2;have k2:=fV (step:=kV (fT n h) (L,R,0)) (λ i=>((i:Int),(List.range h.claims.length).map λk=>if k<i/\bz n h k=false then 2 else L.getD k 0)) h.claims.length ((List.range h.claims.length).map λk=>if bz n h k=false then 2 else L.getD k 0) (λ i hi=>?_) ?_ n (by omega)
  .have e2:((List.range h.claims.length).map λk=>if k<0/\bz n h k=false then 2 else L.getD k 0)=L:=List.ext_getElem (by simp[g2]) λm h1 h2=>(by simp[h2]);rw[e2,fm]at k2;have hl2:((List.range h.claims.length).map λk=>if bz n h k=false then(2:Int)else L.getD k 0).length=h.claims.length:=(by simp);have hgd:∀i,i<h.claims.length->((List.range h.claims.length).map λk=>if bz n h k=false then(2:Int)else L.getD k 0).getD i 0=if bz n h i=false then 2 else L.getD i 0:=λi hi=>by simp[hi]
   have natE:fJ ((List.range h.claims.length).map (de n h))=(List.range h.claims.length).map λi=>(de n h i).attacks.map Int.toNat:=(by simp[fJ]);have ha:∀j m,atk (fJ ((List.range h.claims.length).map (de n h))) j m↔js n h j m:=λj m=>by
    unfold atk js;rw[vI,hlen];by_cases hj:j<h.claims.length
    .have e3:=S8 hok (i:=j) (by rw[hlen];exact hj);have e4:=PI hok j;rw[vI,hlen]at e4;rw[hget j (by rw[hlen];exact hj)]at e3;have e5:m∈(fJ ((List.range h.claims.length).map (de n h))).getD j []↔(m:Int)∈(de n h j).attacks:=(by rw[e3];unfold cI;rw[mem_map];exact⟨λ hm=>⟨m,hm,rfl⟩,λ⟨a,ha,he⟩=>by rwa [show a=m by omega]at ha⟩);constructor
     .rintro⟨_,hm⟩;have hmb:=e4.2 m hm;rw[e5]at hm;unfold de at hm;cases hb:bz n h j&&Cv h.claims.length (h.claims.getD j bZ)with
      |true=>rw[hb]at hm;simp[aT]at hb;exact⟨hj,hmb,hb.1,hb.2,hm⟩
      |false=>rw[hb]at hm;cases hm
     .rintro⟨_,_,h3,h4,h5⟩;refine⟨hj,e5.2 ?_⟩;unfold de;rw[h3,h4];exact h5
    .exact⟨λ h=>absurd h.1 hj,λh=>absurd h.1 hj⟩
   have hR:atk (fJ ((List.range h.claims.length).map (de n h)))=js n h:=(by funext j m;exact propext (ha j m));rw[hR,vI,hlen]at g4;refine⟨(List.range h.claims.length).map λk=>if bz n h k=false then 2 else L.getD k 0,?_,hl2,λi hi hb=>?_,λi hi hb=>?_⟩
   .have e6:sub ((List.range h.claims.length).map (de n h)) 0 h.claims.length=(List.range h.claims.length).map (de n h):=(by have:=dP ((List.range h.claims.length).map (de n h));rwa [hlen]at this);have e7:sub ((List.range h.claims.length).map λk=>if bz n h k=false then(2:Int)else L.getD k 0) 0 h.claims.length=(List.range h.claims.length).map λk=>if bz n h k=false then(2:Int)else L.getD k 0:=by have:=dP ((List.range h.claims.length).map λk=>if bz n h k=false then(2:Int)else L.getD k 0);rwa [hl2]at this
    have e8:bx ((List.range h.claims.length).map λk=>if bz n h k=false then(2:Int)else L.getD k 0) 0=some (((List.range h.claims.length).map λk=>if bz n h k=false then(2:Int)else L.getD k 0).getD 0 0):=(by rw[aj3 (by omega)];simp[show 0<h.claims.length by omega]);have e9:cV 0 h.claims.length=true:=aV (i:=0) (by omega);unfold iQ;simp only[hj,ai,Bool.not_true,au,hcnt,cl,mk,aj,Int.toNat_natCast,k1,e6,hlen,aH,g1,k2,g2,e9,fm,Int.add_zero,e8,e7,hl2]
   .rw[hgd i hi,aM (by rw[hb];decide)];exact g4 i hi
   .rw[hgd i hi,aP hb]
  .have hi':decide ((i:Int)<(((fT n h).length:Nat):Int))=true:=(by rw[cl];simpa using hi);have hgl:bx ((List.range h.claims.length).map λk=>if k<i/\bz n h k=false then(2:Int)else L.getD k 0) (i:Int)=some (L.getD i 0):=(by rw[aO (by simpa using hi)];simp);have st:∀b,bz n h i=b->(bif !b then((List.range h.claims.length).map λk=>if k<i/\bz n h k=false then(2:Int)else L.getD k 0).set i 2 else(List.range h.claims.length).map λk=>if k<i/\bz n h k=false then(2:Int)else L.getD k 0)=(List.range h.claims.length).map λk=>if k<i+1/\bz n h k=false then(2:Int)else L.getD k 0:=λb hb=>by
    cases b with
    |true=>
     refine map_congr_left λm _=>?_;by_cases e:m=i
     .subst e;rw[aM (λ h=>by rw[hb]at h;cases h.2),aM (λ h=>by rw[hb]at h;cases h.2)]
     .exact ard (and_congr_left λ_=>by omega) _ _
    |false=>
     refine List.ext_getElem (by simp) λm h1 h2=>?_;simp[Bool.not_false,aj];rw[List.getElem_set];by_cases e:i=m
     .subst e;simp[hb]
     .rw[aM e];simp[List.getElem_map,List.getElem_range];exact ard (and_congr_left λ_=>by omega) _ _
   simp only[kV,hi',aj,aV (show i<(fT n h).length by omega),fm,Int.zero_add,cg i hi,ai,g2,aV hi,hgl,Int.toNat_natCast];rw[aL (by omega),<- st _ rfl];cases bz n h i<;>rfl
  .rw[show ((List.range h.claims.length).map λk=>if k<h.claims.length/\bz n h k=false then(2:Int)else L.getD k 0)=(List.range h.claims.length).map λk=>if bz n h k=false then 2 else L.getD k 0 from map_congr_left λm hm=>by simp[List.mem_range.1 hm]];simp[kV,cl]
 .have hi':decide ((i:Int)<(h.claims.length:Int))=true:=by simpa using hi
  have hgc:h.claims.getD i bZ=h.claims[i]:=by simp[hi]
  have hgl:bx ((List.range h.claims.length).map λk=>if k<i then de n h k else bZ) (i:Int)=some bZ:=by rw[aO (by simpa using hi)];simp
  have st:∀v,de n h i=v->((List.range h.claims.length).map λk=>if k<i then de n h k else bZ).set i v=(List.range h.claims.length).map λk=>if k<i+1 then de n h k else bZ:=λv hb=>by
   refine List.ext_getElem (by simp) λm h1 h2=>?_;rw[List.getElem_set];by_cases e:i=m
   .subst e;simp[hb]
   .rw[aM e];simp[List.getElem_map,List.getElem_range];exact ard (by omega) _ _
  have st0:de n h i=bZ->((List.range h.claims.length).map λk=>if k<i then de n h k else bZ)=(List.range h.claims.length).map λk=>if k<i+1 then de n h k else bZ:=λhb=>by
   rw[<- st _ hb];refine(List.ext_getElem (by simp) λm h1 h2=>?_).symm;rw[List.getElem_set];by_cases e:i=m
   .subst e;simp
   .rw[aM e]
  have ha:=M9 (n:=n) (N:=(h.claims.length:Int)) (c3 _ (getElem_mem hi)) (by omega);simp only[kU,hi',aj,aO hi,ai,aV (show i<(fT n h).length by omega),fm,Int.zero_add,cg i hi,cl,Int.toNat_natCast,ha,aV hi,hgl];rw[aL (by omega)];have hoc:de n h i=bif bz n h i&&sO (h.claims.length:Int) (-1) h.claims[i].attacks then aK.mk 0 0 h.claims[i].attacks 0 (⟨#[]⟩) 0 else bZ:=by unfold de Cv;rw[hgc]
  cases hA:bz n h i<;>cases hB:sO (h.claims.length:Int) (-1) h.claims[i].attacks<;>rw[hA,hB]at hoc<;>simp only[aj,au,ai]
  .rw[st0 hoc]
  .rw[st0 hoc]
  .rw[st0 hoc]
  .rw[<- st _ hoc];rfl
 .rw[show ((List.range h.claims.length).map λk=>if k<h.claims.length then de n h k else bZ)=(List.range h.claims.length).map (de n h)from map_congr_left λm hm=>by simp[List.mem_range.1 hm]];simp[kU]
end
end
noncomputable section
structure TX(h:aC):Prop where
 town:aqr (dE h)
 caps:h.be.length<=1048576
 phases:h.bu.length<=1048576
theorem Ze(hn:5000003<=n):∀(m:Nat)(e:dD),(toE e).wt<=m->(toE e).wt<=4000000->∃v,wQ n m e=some v
 | 0,e,h,_=>absurd (Wi e) (by omega)
 |m+1,e,h,hw=>by
  have hla:=Wi e;obtain⟨o,h1,_⟩:=fE (step:=BF (wQ n m) e) (λ i (v:Int×Int)=>v.2=(i:Int)/\i<=e.args.length) (λ _=>True) e.args.length (λ k v h=>h.2) (λ i v hv=>by
   obtain⟨v1,v2⟩:=v;obtain⟨rfl,hi⟩:=hv;by_cases hlt:i<e.args.length
   .have hwx:=ai1 (getElem_mem hlt);obtain⟨x,hx⟩:=Ze hn m e.args[i] (by omega) (by omega);refine .inl ⟨(i64.wrap (v1+x),((i+1:Nat):Int)),?_,rfl,hlt⟩;simp only[BF,cK hlt,aj,aO hlt,ai,hx];rw[aL (by omega)]
   .have:i=e.args.length:=(by omega);subst this;exact .inr ⟨v1,by simp[BF],trivial⟩) n 0 (1,0) ⟨rfl,Nat.zero_le _⟩ (by omega)
  exact⟨o,by simp[wQ,MW,h1]⟩
theorem aor{p:bO}(hn:Hc n)(hd:iz p.defs)(hr:WtR p.rules):∃b,V4 n p=some b:=by
 have hn1:=hn.1;unfold V4;simp only[FT,ai];cases hc:(bif decide ((p.defs.length:Int)>20)then true else decide ((p.rules.length:Int)>20))with
 |true=>exact⟨_,rfl⟩
 |false=>
  have hl:p.defs.length<=20/\p.rules.length<=20:=by
   cases h1:decide ((p.defs.length:Int)>20)with
   |true=>rw[h1]at hc;cases hc
   |false=>rw[h1]at hc;simp at h1 hc;omega
  have s1:=Wl (l:=p.defs) (K:=20) (n:=n) (step:=FM n p) (good:=λ_=>True) (λ i hi hK=>by
   have hw:=hd.body (getElem_mem hi);obtain⟨v,hv⟩:=Ze hn1 n _ (by omega) hw;have hv':Jz n (dD.mk p.defs[i].j8 p.defs[i].mS p.defs[i].lL p.defs[i].ju p.defs[i].fh)=some v:=hv;simp only[FM,cK hi,aj,aO hi,ai,hv',FT,aZ i];cases (bif decide (v>60)then true else decide ((p.defs[i].name.size:Int)>100))
   .exact .inr ⟨rfl,trivial⟩
   .exact .inl rfl) (λ i h=>by have:¬i<p.defs.length:=(by omega);simp only[FM,show decide ((i:Int)<(p.defs.length:Int))=false by simp;omega,au]) (by omega)
  have s2:=Wl (l:=p.rules) (K:=20) (n:=n) (step:=FN n p) (good:=λ_=>True) (λ i hi hK=>by
   have hw:=hr _ (getElem_mem hi);obtain⟨v,hv⟩:=Ze hn1 n _ (by omega) hw;have hv':Jz n (dD.mk p.rules[i].l4 p.rules[i].ov p.rules[i].ot p.rules[i].kA p.rules[i].gO)=some v:=hv;simp only[FN,cK hi,aj,aO hi,ai,hv',aZ i];cases decide (v>60)
   .exact .inr ⟨rfl,trivial⟩
   .exact .inl rfl) (λ i h=>by have:¬i<p.rules.length:=(by omega);simp only[FN,show decide ((i:Int)<(p.rules.length:Int))=false by simp;omega,au]) (by omega)
  simp only[au];rcases s1 with e1|⟨e1,_⟩
  .rw[e1];exact⟨_,rfl⟩
  .rcases s2 with e2|⟨e2,_⟩
   .rw[e1,e2];exact⟨_,rfl⟩
   .rw[e1,e2];exact⟨_,rfl⟩
structure arf(h:aC):Prop where
 claims:h.claims.length<=14
 asX:∀c∈h.claims,c.attacks.length<=14
 hol:h.c7.length<=20
 stays:h.stays.length<=8
theorem aos{h:aC}(hn:Hc n)(hz:TX h):∃b,V5 n h=some b/\(b=true->zh n h/\arf h):=by
 have hn1:=hn.1;have no:∃b,some false=some b/\(b=true->zh n h/\arf h):=⟨false,rfl,λh=>(by cases h)⟩;have e1:V3 n (bO.mk [] [] [] [] [] [] [] 0) (Jo.mk 0 0 0 0 0 [ee h] 0 0) []=some (Of (ee h)):=by
  have s:iter (Yo n []) n 0=some (.inl ()):=by obtain⟨m,rfl⟩:∃m,n=m+1:=⟨n-1,by omega⟩;exact fP rfl
  unfold V3;rw[s];have hp:(ee h).phases.length<=1048576:=hz.phases;simp only[gG,YV (n:=n) (d:=ee h) (by omega) (by omega) (by omega),ai];rfl
 have e0:=aiV (n:=n) (dE h) (by omega);obtain⟨b16,e16⟩:=aor (p:=bO.mk h.bp h.aq h.bj h.aw h.be h.bk h.b7 h.bm) hn hz.town.defs hz.town.rules;unfold ee at e1;unfold dE at e0;unfold V5;rw[e0];cases h0:SD (dE h)with
 |false=>unfold dE at h0;rw[h0];exact no
 |true=>
  have h0':=h0;unfold dE at h0;rw[h0];have sb2:sub [aQ.mk h.b8 h.bu] 0 1=[aQ.mk h.b8 h.bu]:=rfl;simp only[ai,Bool.not_true,au,length_singleton,aH,aj,sb2,e1];cases h1:Of (ee h)with
  |false=>unfold ee at h1;rw[h1];exact no
  |true=>
   have h1':=h1;unfold ee at h1;rw[h1];simp only[Bool.not_true,au];by_cases c1:(h.c7.length:Int)>20
   .simp[c1,decide_true,aj,ai]
   by_cases c2:(h.stays.length:Int)>8
   .simp[c1,c2,decide_true,decide_false,aj,au,ai]
   by_cases c3:(h.cases.length:Int)>12
   .simp[c1,c2,c3,decide_true,decide_false,aj,au,ai]
   by_cases c4:(h.claims.length:Int)>14
   .simp[c1,c2,c3,c4,decide_true,decide_false,aj,au,ai]
   simp only[c1,c2,c3,c4,decide_false,au,e16,ai];cases b16 with
   |false=>exact no
   |true=>
    simp only[Bool.not_true,au];have s1:=Wl (l:=h.claims) (K:=14) (n:=n) (step:=FO h) (good:=λc=>c.attacks.length<=14) (λ i hi hK=>by
     simp only[FO,cK hi,aj,aO hi,ai,aZ i];by_cases c:(h.claims[i].attacks.length:Int)>14
     .left;simp only[c,decide_true,aj];rfl
     .right;simp only[c,decide_false,au];exact⟨trivial,by omega⟩) (λ i hh=>by simp only[FO,show decide ((i:Int)<(h.claims.length:Int))=false by simp;omega,au]) (by omega)
    have h2:=h0';unfold SD at h2;simp[Bool.or_eq_true,not_or]at h2;obtain⟨⟨a1,a2,a3,a4,a5,a6,a7⟩,g1,g2,g3⟩:=h2;have a4':h.aq.length<=20:=a4;have s2:=Wl (l:=h.aq) (K:=20) (n:=n) (step:=FP h) (good:=λc=>c.rows.length<=10) (λ i hi hK=>by
     simp only[FP,cK hi,aj,aO hi,ai,aZ i];by_cases c:(h.aq[i].rows.length:Int)>10
     .left;simp only[c,decide_true,aj];rfl
     .right;simp only[c,decide_false,au];exact⟨trivial,by omega⟩) (λ i hh=>by simp only[FP,show decide ((i:Int)<(h.aq.length:Int))=false by simp;omega,au]) (by omega)
    rcases s1 with f1|⟨f1,hat⟩
    .rw[f1];exact no
    rcases s2 with f2|⟨f2,hrow⟩
    .rw[f1,f2];exact no
    rw[f1,f2];refine⟨true,rfl,λ_=>?_⟩;have hat:=hat (by omega);have hrow:=hrow a4';have hw:∀l∈(dE h).land,CI l:=λl hl=>⟨by have:=g2 l hl;omega,hz.town.Cd l hl⟩;have h3:=h1';simp[Of,aT,Bool.not_eq_true',any_eq_false,bf]at h3;have Z3:∀p∈(ee h).phases,p.b9.length<=12/\p.gives.length<=6:=λp hp=>(by have:=h3.1 p hp;simp[Ok,Bool.or_eq_true,bf,not_or]at this;omega)
    exact⟨⟨hn,⟨hw,by omega,⟨by omega,λe he=>by have:=g3 e he;omega⟩,by omega,by omega,by have:(dE h).cT.length<=1048576:=hz.caps;omega,by omega,λr hr=>⟨by have:=g1 r hr;exact⟨by omega,by omega⟩,hz.town.rules r hr⟩,⟨hz.town.defs,⟨Nat.le_trans a4 (by decide),λx hx=>by have:=hrow x hx;omega⟩⟩⟩,
     ⟨⟨by omega,λp hp=>by have:=Z3 p hp;omega⟩,λp hp=>by have:=Z3 p hp;omega⟩,⟨by omega,hw,by show h.aq.length<=100;omega,λx hx=>by have:=hrow x hx;omega⟩,⟨by omega,λp hp=>by have:=Z3 p hp;omega⟩,by omega,by omega⟩,by omega,hat,by omega,by omega⟩
def gA(N day:Int)(more:Y aK):aC:=aC.mk [] [bQ.mk ⟨#[110,111,116,105,99,101]⟩ [bg.mk ⟨#[100,97,121,115]⟩ 5] 0] [] [] [] [] [] 0 [fM.mk 1 7 [ax.mk 0 0 9 9] [],fM.mk 2 8 [ax.mk 9 0 12 9] []] [] [] [] [] 1 [lI.mk [aG.mk 2 2 4 4 0 9 2 0 false] []] 0 7 10 [] [] [] ([aK.mk 7 10 [] 0 ⟨#[]⟩ 0,aK.mk 8 day [0] 1 ⟨#[104,101,105,103,104,116]⟩ N]++more)
theorem aot(N day:Int):ug N day=some (gA N day []):=by kernel_rfl
theorem arh(N day:Int)(more:Y aK):zh 5000003 (gA N day more) where
 fuel:=arY
 town:=⟨λ l hl=>by have hl:l∈[fM.mk 1 7 [ax.mk 0 0 9 9] [],fM.mk 2 8 [ax.mk 9 0 12 9] []]:=hl;simp only[aI,bB,or_false]at hl;rcases hl with rfl|rfl<;>exact⟨by decide,by decide⟩,by show 2<=1000;decide,⟨Nat.zero_le _,λe he=>(by cases he)⟩,Nat.zero_le _,Nat.zero_le _,Nat.zero_le _,Nat.zero_le _,λr hr=>(by cases hr),⟨Nat.le_of_ble_eq_true (by kernel_rfl),by show 1<=4000000;decide,λx hx=>by have hx:x∈[bQ.mk ⟨#[110,111,116,105,99,101]⟩ [bg.mk ⟨#[100,97,121,115]⟩ 5] 0]:=hx;simp only[aI,bB,or_false]at hx;subst hx;decide⟩⟩
 draw:=⟨⟨by show 1<=1000;decide,λp hp=>by have hp:p∈[lI.mk [aG.mk 2 2 4 4 0 9 2 0 false] []]:=hp;simp only[aI,bB,or_false]at hp;subst hp;decide⟩,λp hp=>by have hp:p∈[lI.mk [aG.mk 2 2 4 4 0 9 2 0 false] []]:=hp;simp only[aI,bB,or_false]at hp;subst hp;decide⟩
 near:=⟨by show 2<=100;decide,λl hl=>by have hl:l∈[fM.mk 1 7 [ax.mk 0 0 9 9] [],fM.mk 2 8 [ax.mk 9 0 12 9] []]:=hl;simp only[aI,bB,or_false]at hl;rcases hl with rfl|rfl<;>exact⟨by decide,by decide⟩,by show 1<=100;decide,λx hx=>by have hx:x∈[bQ.mk ⟨#[110,111,116,105,99,101]⟩ [bg.mk ⟨#[100,97,121,115]⟩ 5] 0]:=hx;simp only[aI,bB,or_false]at hx;subst hx;decide⟩
 NB:=⟨by show 1<=100;decide,λp hp=>by have hp:p∈[lI.mk [aG.mk 2 2 4 4 0 9 2 0 false] []]:=hp;simp only[aI,bB,or_false]at hp;subst hp;decide⟩
 stays:=Nat.zero_le _
 cases:=Nat.zero_le _
theorem Ug{a b:Y Int}(hl:a.length<=1000)(hn:2000<=n):vB n a b=some (decide (a=b)):=by
 have e:vB n a b=OC n (λ x1 x2:Int=>x1 !=x2) a b:=by kernel_rfl
 rw[e];exact Je (λ x y=>by rw[eZ];simp) (by omega) (by omega)
theorem arZ(N day:Int)(more:Y aK):j0 5000003 (gA N day more)=(17,0):=by
 have h:=(nu (arh N day more)).2.1;have e:eY 5000003 [] [] 10 5=some (17,0):=by
  unfold eY;rw[akD (Nat.zero_le _) (by decide)]
  kernel_rfl
 have hd:Y9 (gA N day more)=5:=by kernel_rfl
 rw[hd]at h;have h':eY 5000003 [] [] 10 5=some (j0 5000003 (gA N day more)):=h;rw[e]at h';injection h' with h';exact h'.symm
theorem RI(N day:Int)(more:Y aK)(d:Int):Za 5000003 (gA N day more) d=(decide (10<=d)&&decide (d<=17)):=by unfold Za;rw[arZ];rfl
theorem ari(N day:Int)(more:Y aK)(hm:more.length<=100)(ha:∀c∈more,c.attacks.length<=1000):Mq (gA N day more):=by
 refine⟨by simp[gA],by simp[gA];omega,λc hc=>?_⟩;simp[gA]at hc;rcases hc with rfl|rfl|hc
 .exact Nat.zero_le _
 .show 1<=1000;decide
 .exact ha c hc
theorem PH{N day:Int}{more:Y aK}{want:Y Int}{bs:Y Bool}{g:Bool}(hm:more.length<=100)(ha:∀c∈more,c.attacks.length<=1000)(hw:want.length<=100)(h1:fT 5000003 (gA N day more)=bs)
 (h2:(fQ (gA N day more)).bind (λ r1=>(bif (!r1)then some (([]:Y Int),false)else(some bs).bind λr2=>ck (decide ((r2.length:Int)<=(r2.length:Int))&&(decide (0<=(r2.length:Int))&&qg (r2.length:Int) 72)) ((iter (kU 5000003 (gA N day more) r2) 5000003 ((0:Int),List.replicate ((r2.length:Int):Int).toNat (aK.mk 0 0 ([]) 0 (⟨#[]⟩) 0))).bind λw1=>ck (aE (sub w1 0 (((r2.length:Int):Int).toNat)).length (((r2.length:Int):Int).toNat)) ((qO 5000003 (sub w1 0 (((r2.length:Int):Int).toNat))).bind λr4=>(iter (kV r2 r4) 5000003 ((0:Int),r4.1)).bind λw2=>ck (cV 0 r4.1.length) ((bx w2 ((0:Nat)+0:Int)).bind λx6=>ck (aE (sub w2 0 r4.1.length).length r4.1.length) (some (sub w2 0 r4.1.length,x6==(1:Int))))))))=some (want,g)):vC 5000003 (gA N day more) want g=some true:=by
 have hc:=zu (arh N day more) (ari N day more hm ha);rw[h1]at hc;have ho:iQ 5000003 (gA N day more)=some (want,g):=by unfold iQ;rw[hc];exact h2
 unfold vC;rw[ho];simp[Ug (n:=5000003) (a:=want) (b:=want) (by omega) (by decide)]
theorem US(N day:Int)(g:Bool)(h:bz 5000003 (gA N day []) 1=g):fT 5000003 (gA N day [])=[true,g]:=by show [bz 5000003 (gA N day []) 0,bz 5000003 (gA N day []) 1]=_;rw[h];rfl
theorem apY:KN 5000003=some true:=by
 have a1:vC 5000003 (gA 9 12 []) [2,1] false=some true:=PH (Nat.zero_le _) (λ _ h=>by cases h) (by decide) (US 9 12 true (by unfold bz ownB;rw[RI];kernel_rfl)) (by kernel_rfl);have a2:vC 5000003 (gA 8 12 []) [1,2] true=some true:=PH (Nat.zero_le _) (λ _ h=>by cases h) (by decide) (US 8 12 false (by unfold bz ownB;rw[RI];kernel_rfl)) (by kernel_rfl);have a3:vC 5000003 (gA 9 18 []) [1,2] true=some true:=PH (Nat.zero_le _) (λ _ h=>by cases h) (by decide) (US 9 18 false (by unfold bz ownB;rw[RI];kernel_rfl)) (by kernel_rfl);have a4:vC 5000003 (gA 9 17 []) [2,1] false=some true:=PH (Nat.zero_le _) (λ _ h=>by cases h) (by decide) (US 9 17 true (by unfold bz ownB;rw[RI];kernel_rfl)) (by kernel_rfl);have a5:vC 5000003 (gA 9 12 [aK.mk 7 12 [1] 0 ⟨#[]⟩ 0]) [1,2,1] true=some true:=PH (bs:=[true,true,true]) (by decide) (λ c h=>by simp at h;subst h;show 1<=1000;decide) (by decide) (by
  show [bz 5000003 (gA 9 12 [aK.mk 7 12 [1] 0 ⟨#[]⟩ 0]) 0,bz 5000003 (gA 9 12 [aK.mk 7 12 [1] 0 ⟨#[]⟩ 0]) 1,bz 5000003 (gA 9 12 [aK.mk 7 12 [1] 0 ⟨#[]⟩ 0]) 2]=_;have c1:bz 5000003 (gA 9 12 [aK.mk 7 12 [1] 0 ⟨#[]⟩ 0]) 1=true:=by unfold bz ownB;rw[RI];kernel_rfl
  have c2:bz 5000003 (gA 9 12 [aK.mk 7 12 [1] 0 ⟨#[]⟩ 0]) 2=true:=by unfold bz ownB;rw[RI];kernel_rfl
  rw[c1,c2];rfl) (by kernel_rfl)
 have d:dS 5000003 (gA 9 12 [])=some (17,0):=by rw[(nu (arh 9 12 [])).1,arZ]
 have k1:(sub ([1]:Y Int) 0 1)=[1]:=rfl;have k2:(sub ([2,1]:Y Int) 0 2)=[2,1]:=rfl;have k3:(sub ([1,2]:Y Int) 0 2)=[1,2]:=rfl;have k4:(sub ([1,2,1]:Y Int) 0 3)=[1,2,1]:=rfl;have a5':vC 5000003 (aC.mk (gA 9 12 []).bp (gA 9 12 []).aq (gA 9 12 []).bj (gA 9 12 []).aw (gA 9 12 []).be (gA 9 12 []).bk (gA 9 12 []).b7 (gA 9 12 []).bm (gA 9 12 []).cQ (gA 9 12 []).cC (gA 9 12 []).cJ (gA 9 12 []).cN (gA 9 12 []).c8 (gA 9 12 []).b8 (gA 9 12 []).bu (gA 9 12 []).rule (gA 9 12 []).ed (gA 9 12 []).eo (gA 9 12 []).c7 (gA 9 12 []).stays (gA 9 12 []).cases ((gA 9 12 []).claims++[aK.mk 7 12 [1] 0 ⟨#[]⟩ 0])) [1,2,1] true=some true:=a5;have ap1:bF ([]:Y aK).length 0 (gA 9 12 []).claims.length (gA 9 12 []).claims.length 72=true:=by decide
 have SU:bF ([]++(gA 9 12 []).claims).length ([]++(gA 9 12 []).claims).length (sub ([aK.mk 7 12 [1] 0 ⟨#[]⟩ 0]:Y aK) 0 1).length 1 72=true:=by decide
 have k5:sub ([aK.mk 7 12 [1] 0 ⟨#[]⟩ 0]:Y aK) 0 1=[aK.mk 7 12 [1] 0 ⟨#[]⟩ 0]:=rfl;unfold KN;rw[aot];simp[k1,k2,k3,k4,k5,d,a1,aot,a2,a3,a5',a4];rfl
end
mutual
theorem apZ:∀g:dD,(toE g).wt<=iD (sV g)
 |⟨op,n,s,key,args⟩=>by have:=PK args;simp[toE,ET.wt,sV,iD,oe];omega
theorem PK:∀l:List dD,ET.u9 (Jt l)<=yw (uM l)
 |[]=>by simp[Jt,ET.u9]
 |x::xs=>by have h1:=apZ x;have h2:=PK xs;simp[Jt,ET.u9,uM,yw];omega
end
theorem acF:∀l:Y gW,tm (l.map toD)<=yw (l.map Ci)
 |[]=>by simp[tm]
 |x::xs=>by have h1:=acF xs;have h2:=PK x.fh;simp[tm]at h1;simp[tm,toD,ET.wt,yw,Ci,iD,oe,<- uN];omega
theorem al3(t:fq):tm (t.cL.map toD)<=iD (Bn t):=by have:=acF t.cL;simp[Bn,iD,oe];omega
theorem Zf{r:Y Tree}:∀{l:Y (List Tree)},r∈l->iD r<=yw l
 |x::l,h=>by rw[yw];rcases aI.1 h with rfl|h;omega;have:=Zf h;omega
theorem al4(r:dw):(toE (m9 r)).wt<=iD (xg r):=by have h:=PK r.gO;rw[uN]at h;simp[m9,toE,ET.wt,xg,iD,oe];omega
theorem acG:∀l:Y Int,l.length<=yw (l.map λy=>[Tree.sc (.int .i64 y)])
 |[]=>by simp
 |x::l=>by have:=acG l;simp[yw,iD,oe];omega
theorem arj{t:fq}(h:iD (Bn t)<=2000000):aqr t:=by
 have hd:=Nat.le_trans (al3 t) h;simp[Bn,iD,oe]at h;refine⟨by unfold iz;omega,λr hr=>?_,λl hl=>?_⟩;have h1:=al4 r;have h2:=Zf (mem_map.2 ⟨r,hr,rfl⟩:xg r∈t.az.map xg);omega;have h1:=acG l.from_;have h2:=Zf (mem_map.2 ⟨l,hl,rfl⟩:Jm l∈t.land.map Jm);have h3:yw (l.from_.map λy=>[Tree.sc (.int .i64 y)])<=iD (Jm l):=by simp[Jm,iD,oe];omega
 omega
theorem Zg{α:Type}(f:α->Y Tree)(hf:∀x,1<=iD (f x)):∀l:Y α,l.length<=yw (l.map f)
 |[]=>by simp
 |x::l=>by have h:=Zg f hf l;have h1:=hf x;simp[yw];omega
theorem Zh:∀a b:Y Tree,iD (a++b)=iD a+iD b
 |[],b=>by simp[iD]
 |x::a,b=>by rw[List.cons_append,iD,iD,Zh a b];omega
theorem ark{h:aC}(hb:iD (jJ h)<=1048576):TX h:=by
 have e:∃r,jJ h=Bn (dE h)++(wJ (ee h)++r):=⟨_,rfl⟩;obtain⟨r,e⟩:=e;rw[e,Zh,Zh]at hb;have a2:=Zg Fw (λ x=>by simp[Fw,iD,oe];omega) h.be;have a3:=Zg zN (λ x=>by simp[zN,iD,oe];omega) h.bu;have b2:yw (h.be.map Fw)<=iD (Bn (dE h)):=by simp[Bn,dE,iD,oe];omega
 have b3:yw (h.bu.map zN)<=iD (wJ (ee h)):=by simp[wJ,ee,iD,oe];omega
 exact⟨arj (by omega),by omega,by omega⟩
theorem arl{cs:Y (CT xx.ι)}(q:HL xx.toSE (.st SI.fX::cs))(hb:Xb (HL.oY xx.toSE (.st SI.fX::cs) q)<=1048576):TX q.1:=by have h2:iD (jJ q.1)+Xb (HL.oY xx.toSE cs q.2)<=1048576:=hb;exact ark (by omega)
noncomputable section
section
variable {R Φ:Nat->Nat->Prop}
theorem aou(e:Nat->Nat)(V:Ψ)(h1:∀i,V i->∀j,R j (e i)->∃k,V k/\e k=j/\Φ k i)(h2:∀i,V i->∀j,Φ j i->V j/\R (e j) (e i)){i:Nat}(hi:V i):(∃ k,rm R k/\R k (e i))↔∃k,rm Φ k/\Φ k i:=by
 constructor
 .rintro⟨j,g,r⟩;obtain⟨k,hk,rfl,hs⟩:=h1 i hi j r;exact⟨k,(aed e V h1 h2 hk).1 g,hs⟩
 .rintro⟨j,g,r⟩;have⟨hj,hr⟩:=h2 i hi j r;exact⟨e j,(aed e V h1 h2 hj).2 g,hr⟩
end
theorem xf.eq{h h':aC}{L L':Y Int}(o:xf n h L)(o':xf n h' L'){i i':Nat}(hi:i<h.claims.length)(hi':i'<h'.claims.length)(hc:bz n h i=bz n h' i')(hg:rm (js n h) i↔rm (js n h') i')(ho:(∃ k,rm (js n h) k/\js n h k i)↔∃k,rm (js n h') k/\js n h' k i'):L.getD i 0=L'.getD i' 0:=by
 cases hb:bz n h i with
 |false=>rw[o.out i hi hb,o'.out i' hi' (by rw[<- hc,hb])]
 |true=>
  have⟨a1,a2,a3⟩:=o.inn i hi hb;obtain⟨b1,b2,b3⟩:=o'.inn i' hi' (by rw[<- hc,hb]);rcases a3 with a3|a3|a3
  .rcases b3 with b3|b3|b3
   .rw[a3,b3]
   .have:=a1.2 (hg.2 (b1.1 b3));omega
   .have:=a2.2 (ho.2 (b2.1 b3));omega
  .rw[a3,b1.2 (hg.1 (a1.1 a3))]
  .rw[a3,b2.2 (ho.1 (a2.1 a3))]
def oC(h:aC)(l:Y aK):aC:=aC.mk h.bp h.aq h.bj h.aw h.be h.bk h.b7 h.bm h.cQ h.cC h.cJ h.cN h.c8 h.b8 h.bu h.rule h.ed h.eo h.c7 h.stays h.cases l
theorem aov{h:aC}(o:zh n h)(l:Y aK):zh n (oC h l):=⟨o.fuel,o.town,o.draw,o.near,o.NB,o.stays,o.cases⟩
section
variable {n:Nat} {h:aC} {c:aK}
end
theorem ap0{h:aC}(hF:arf h)(h0:h.claims≠[]){l:Y aK}(hl:l.length<=2)(ha:∀c∈l,c.attacks.length<=14):Mq (oC h (h.claims++l)):=by
 have:=hF.claims;have:=List.length_pos_iff.2 h0;show 1<=(h.claims++l).length/\(h.claims++l).length<=300/\∀c∈h.claims++l,c.attacks.length<=1000;rw[eU];refine⟨by omega,by omega,λc hc=>?_⟩;rcases bI.1 hc with hc|hc
 .have:=hF.asX c hc;omega
 .have:=ha c hc;omega
end
def mz(l:Y bM)(d:Int):Bool:=l.any λs=>decide (s.from_<=d)&&decide (d<=s.to)
structure Zi(C:List bM):Prop where
 ok:∀s∈C,0<=s.from_/\s.from_<=s.to/\s.to<=1073741824
 ap:C.Pairwise λa b=>a.to<b.from_
theorem aej{s:bM}:JQ s=true↔0<=s.from_/\s.from_<=s.to/\s.to<=1073741824:=by simp only[JQ,Bool.not_eq_true',Bool.or_eq_false_iff,fw];omega
theorem ajf{st:Y bM}(hs:∀s∈st,JQ s=true):(iP tg st).Perm st/\(iP tg st).Pairwise λx y=>x.from_<=y.from_:=by
 let V:={ s:bM // JQ s=true }
 letI:Inhabited V:=⟨⟨default,rfl⟩⟩
 let l:Y V:=st.attach.map λx=>⟨x.1,hs _ x.2⟩
 have hl:l.map Subtype.val=st:=by simp only[l,map_map];exact List.attach_map_subtype_val st
 have hlt:∀x y:V,tg x.1 y.1=decide (x.1.from_<y.1.from_):=λx y=>by have h1:=aej.1 x.2;have h2:=aej.1 y.2;show decide (i64.wrap (x.1.from_-y.1.from_)<0)=_;rw[bP (by omega) (by omega),decide_eq_decide];omega
 have hS:Go.Sort.SWO λx y:V=>tg x.1 y.1:=by refine⟨λ x=>?_,λx y z h1 h2=>?_,λx y z h1 h2=>?_⟩<;>simp[hlt]at* <;>omega
 have key:=afO (f:=λx:V=>x.1) rfl tg l;rw[hl]at key;rw[key];refine⟨?_,?_⟩
 .conv=>rhs;rw[<- hl]
  exact(MN hS l).map _
 .rw[List.pairwise_map];refine(OD hS l).imp λ{x y} h=>?_;rw[hlt]at h;simp at h;omega
theorem Wm(a b:Y bM)(d:Int):mz (a++b) d=(mz a d || mz b d):=by simp[mz]
theorem agV(s:bM)(l:Y bM)(d:Int):mz (s::l) d=((decide (s.from_<=d)&&decide (d<=s.to)) || mz l d):=by simp[mz]
theorem aow:∀(Φ out:Y bM),(∀ s∈Φ,JQ s=true)->Φ.Pairwise (λ x y=>x.from_<=y.from_)->Zi out->(∀ o∈out,∀s∈Φ,o.from_<=s.from_)->Zi (Φ.foldl vj out)/\∀d,mz (Φ.foldl vj out) d=(mz out d || mz Φ d)
 |[],out,_,_,h,_=>⟨h,λd=>by simp[mz]⟩
 |s::Φ,out,hv,hp,h,hf=>by
  obtain⟨p1,p2⟩:=List.pairwise_cons.1 hp;have hs:=aej.1 (hv s (by simp));have step:Zi (vj out s)/\(∀ d,mz (vj out s) d=(mz out d || (decide (s.from_<=d)&&decide (d<=s.to))))/\∀o∈vj out s,o.from_<=s.from_:=by
   unfold vj;rcases List.eq_nil_or_concat out with e|⟨a,t,e⟩
   .subst e;refine⟨⟨λ x hx=>?_,by simp⟩,λd=>by simp[mz],λo ho=>?_⟩
    .simp at hx;subst hx;exact hs
    .simp at ho;subst ho;exact Int.le_refl _
   .rw[List.concat_eq_append]at e;subst e;rw[List.getLast?_append,List.getLast?_singleton,Option.some_or];simp only;obtain⟨q1,q2,q3⟩:=List.pairwise_append.1 h.ap;have ht:=h.ok t (by simp);have htf:=hf t (by simp) s (by simp);by_cases c:s.from_<=t.to
    .rw[decide_eq_true c,aj,List.dropLast_concat];refine⟨⟨λ x hx=>?_,?_⟩,λd=>?_,λo ho=>?_⟩
     .rcases bI.1 hx with hx|hx
      .exact h.ok x (by simp[hx])
      .simp at hx;subst hx;simp;omega
     .rw[List.pairwise_append];exact⟨q1,by simp,λx hx y hy=>by simp at hy;subst hy;exact q3 x hx t (by simp)⟩
     .rw[Wm,Wm,Bool.or_assoc];congr 1;simp[mz];rw[eZ];simp;omega
     .rcases bI.1 ho with ho|ho
      .exact hf o (by simp[ho]) s (by simp)
      .simp at ho;subst ho;exact htf
    .rw[decide_eq_false c,au];refine⟨⟨λ x hx=>?_,?_⟩,λd=>?_,λo ho=>?_⟩
     .rcases bI.1 hx with hx|hx
      .exact h.ok x hx
      .simp at hx;subst hx;exact hs
     .rw[List.pairwise_append];refine⟨h.ap,by simp,λx hx y hy=>?_⟩;simp at hy;subst hy;rcases bI.1 hx with hx|hx
      .have:=q3 x hx t (by simp);omega
      .simp at hx;subst hx;omega
     .rw[Wm];simp[mz]
     .rcases bI.1 ho with ho|ho
      .exact hf o ho s (by simp)
      .simp at ho;subst ho;exact Int.le_refl _
  obtain⟨s1,s2,s3⟩:=step;obtain⟨r1,r2⟩:=aow Φ (vj out s) (λ x hx=>hv x (by simp[hx])) p2 s1 (λ o ho x hx=>by have:=s3 o ho;have:=p1 x hx;omega);refine⟨r1,λd=>?_⟩;rw[foldl_cons,r2 d,s2 d,agV,Bool.or_assoc]
theorem akF{st:Y bM}(hs:ox st=true):Zi (k9 st)/\∀d,mz (k9 st) d=mz st d:=by simp[ox]at hs;have⟨h1,h2⟩:=ajf hs.2;obtain⟨r1,r2⟩:=aow (iP tg st) [] (λ s hm=>hs.2 s (h1.mem_iff.1 hm)) h2 ⟨λ s h=>(by cases h),List.Pairwise.nil⟩ (λ o ho=>by cases ho);refine⟨r1,λd=>?_⟩;unfold k9;rw[r2 d];simp[mz];rw[eZ,List.any_eq_true,List.any_eq_true];exact⟨λ ⟨x,a,b⟩=>⟨x,h1.mem_iff.1 a,b⟩,λ⟨x,a,b⟩=>⟨x,h1.mem_iff.2 a,b⟩⟩
def σ(hol:Y Int)(d:Int):Int:=d/7*5+min (d%7) 5-(hol.countP λh=>decide (h<d)&&decide (h%7<5):Nat)
def Bs(hol:Y Int)(d:Int):Bool:=decide (d%7<5)&&!hol.contains d
theorem ajg{hol:Y Int}(h:oB hol=true):hol.length<=1000/\(∀ x∈hol,0<=x/\x<=1073741824)/\hol.Nodup:=by
 simp only[oB,aT,all_eq_true,bf,fx,List.mem_range,Bool.or_eq_true]at h;obtain⟨h1,h2,h3⟩:=h;refine⟨h1,h2,?_⟩;have lt:∀k i,i+k+1<hol.length->hol.getD i 0<hol.getD (i+k+1) 0:=by
  intro k
  induction k with
  |zero=>intro i hi;have:=h3 (i+1) hi;simpa using this
  |succ k ih=>
   intro i hi;have a:=ih i (by omega);have b:=h3 (i+(k+1)+1) hi;rw[show i+(k+1)+1-1=i+k+1 by omega]at b;rcases b with b|b
   .omega
   .omega
 rw[List.Nodup,List.pairwise_iff_getElem];intro i j hi hj hij e;have:=lt (j-i-1) i (by omega);rw[show i+(j-i-1)+1=j by omega]at this;simp[hi,hj]at this;omega
theorem UP{hol:Y Int}(h:oB hol=true){d:Int}(h0:0<=d)(h1:d<=2147483648):vd hol d=σ hol d:=by
 obtain⟨hl,hb,-⟩:=ajg h;have gen:∀(l:Y Int)(v:Int),(∀ x∈l,0<=x)->-4611686018427387904+l.length<=v->v<=4611686018427387904->l.foldl (λ v h=>bif decide (h<d)&&decide (Int.tmod h 7<5)then i64.wrap (v-1)else v) v=v-(l.countP λh=>decide (h<d)&&decide (h%7<5):Nat):=by
  intro l
  induction l with
  |nil=>intro v _ _ _;simp
  |cons x l ih=>
   intro v hx hv hv2;have hx0:=hx x (by simp);rw[foldl_cons,List.countP_cons,Int.tmod_eq_emod_of_nonneg hx0];rw[d9]at hv;cases hc:decide (x<d)&&decide (x%7<5)with
   |true=>
    rw[aj,bP (by omega) (by omega),ih _ (λ y hy=>hx y (by simp[hy])) (by omega) (by omega)];simp;omega
   |false=>
    rw[au,ih _ (λ y hy=>hx y (by simp[hy])) (by omega) (by omega)];simp
 unfold vd σ;rw[Int.tdiv_eq_ediv_of_nonneg h0,Int.tmod_eq_emod_of_nonneg h0,bP (show -9223372036854775808<=d/7 by omega) (by omega),bP (show -9223372036854775808<=d/7*5 by omega) (by omega),bP (by omega) (by omega),gen hol _ (λ x hx=>(hb x hx).1) (by omega) (by omega)]
theorem SR{hol:Y Int}(h:oB hol=true){d:Int}(h0:0<=d)(h1:d<=2147483648): -1000<=σ hol d/\σ hol d<=2147483648:=by have:=(ajg h).1;have:=List.countP_le_length (p:=λh=>decide (h<d)&&decide (h%7<5)) (l:=hol);unfold σ;omega
theorem aox{hol:Y Int}(h:oB hol=true){d:Int}(h0:0<=d):σ hol (d+1)=σ hol d+if Bs hol d=true then 1 else 0:=by
 have hn:=(ajg h).2.2;have gen:∀l:Y Int,(l.countP λh=>decide (h<d+1)&&decide (h%7<5))=(l.countP λh=>decide (h<d)&&decide (h%7<5))+if d%7<5 then l.count d else 0:=by
  intro l
  induction l with
  |nil=>simp
  |cons x l ih=>
   rw[List.countP_cons,List.countP_cons,List.count_cons,ih];by_cases e:x=d
   .subst e;rw[show decide (x<x+1)=true from decide_eq_true (by omega),show decide (x<x)=false from decide_eq_false (by omega),Bool.true_and,Bool.false_and,beq_self_eq_true];by_cases c:x%7<5
    .simp[c];omega
    .simp[c]
   .have e1:decide (x<d+1)=decide (x<d):=(by rw[decide_eq_decide];omega);have e2:(x==d)=false:=(by simpa using e);rw[e1,e2];by_cases c:d%7<5<;>simp<;>omega
 have hc:hol.count d=if hol.contains d=true then 1 else 0:=by
  have h1:=List.nodup_iff_count.1 hn d;by_cases c:d∈hol
  .have:=List.count_pos_iff.2 c;simp[c];omega
  .simp[c,List.count_eq_zero.2 c]
 unfold σ Bs;rw[gen hol,hc];by_cases c:d%7<5<;>cases hol.contains d<;>simp[c]<;>omega
def PL(hol:Y Int)(st:Y bM)(a:Int):Nat->Int
 | 0=>0
 |k+1=>PL hol st a k+if (Bs hol (a+k+1)&&!mz st (a+k+1))=true then 1 else 0
def BC(hol:Y Int)(a b:Int)(s:bM):Int:=if max s.from_ (a+1)<=min s.to b then σ hol (min s.to b+1)-σ hol (max s.from_ (a+1))else 0
def PN(hol:Y Int)(a b:Int)(C:Y bM):Int:=(C.map (BC hol a b)).sum
theorem aoy{hol:Y Int}(h:oB hol=true){a b:Int}(ha:0<=a)(hab:a<=b)(s:bM):BC hol a (b+1) s=BC hol a b s+if (decide (s.from_<=b+1)&&decide (b+1<=s.to))=true/\Bs hol (b+1)=true then 1 else 0:=by
 have hU:=aox h (d:=b+1) (by omega);simp;unfold BC;by_cases c:s.to<=b
 .rw[show min s.to (b+1)=min s.to b by omega];have:¬b+1<=s.to:=by omega
  simp[this]
 .rw[show min s.to (b+1)=b+1 by omega,show min s.to b=b by omega];by_cases d:s.from_<=b+1
  .rw[aP (show max s.from_ (a+1)<=b+1 by omega),hU];have e:b+1<=s.to:=(by omega);simp[d,e];by_cases f:max s.from_ (a+1)<=b
   .rw[aP f];omega
   .rw[aM f,show max s.from_ (a+1)=b+1 by omega];omega
  .rw[aM (show ¬max s.from_ (a+1)<=b+1 by omega),aM (show ¬max s.from_ (a+1)<=b by omega)];simp[d]
theorem acH{hol:Y Int}(h:oB hol=true){a b:Int}(ha:0<=a)(hab:a<=b):∀{C:Y bM},C.Pairwise (λ a b=>a.to<b.from_)->(∀ s∈C,s.from_<=s.to)->PN hol a (b+1) C=PN hol a b C+if mz C (b+1)=true/\Bs hol (b+1)=true then 1 else 0
 |[],_,_=>by simp[PN,mz]
 |s::C,hp,hv=>by
  obtain⟨p1,p2⟩:=List.pairwise_cons.1 hp;have ih:=acH h ha hab p2 λx hx=>hv x (by simp[hx]);have hs:=aoy h ha hab s;unfold PN at*;rw[bq,bq,List.sum_cons,List.sum_cons,ih,hs,agV];have ex:(decide (s.from_<=b+1)&&decide (b+1<=s.to))=true->mz C (b+1)=false:=λc=>by simp[mz]at c |-;intro x hx;have:=p1 x hx;omega
  cases hc:(decide (s.from_<=b+1)&&decide (b+1<=s.to))with
  |true=>rw[ex hc];simp;omega
  |false=>simp;omega
theorem akG{hol:Y Int}{C:Y bM}(h:oB hol=true)(hC:Zi C)(hl:C.length<=1000){a:Int}(ha:0<=a):∀k:Nat,a+k<=1073741824->uu hol C a (a+k)=PL hol C a k:=by
 have w1:i64.wrap (a+1)=a+1\/¬a<=1073741824:=by
  by_cases c:a<=1073741824
  .exact .inl (bP (by omega) (by omega))
  .exact .inr c
 have plain:∀k:Nat,a+k<=1073741824->uu hol C a (a+k)=σ hol (a+k+1)-σ hol (a+1)-PN hol a (a+k) C:=λk hk=>by
  have w1:i64.wrap (a+1)=a+1:=bP (by omega) (by omega);have w2:i64.wrap (a+k+1)=a+k+1:=bP (by omega) (by omega);have gen:∀(l:Y bM)(v:Int),(∀ s∈l,0<=s.from_/\s.from_<=s.to/\s.to<=1073741824)->-4611686018427387904+10000000000*(l.length:Int)<=v->v<=4611686018427387904-10000000000*(l.length:Int)->l.foldl (λ v s=>bif decide (max s.from_ (a+1)<=min s.to (a+k))then i64.wrap (v-i64.wrap (vd hol (i64.wrap (min s.to (a+k)+1))-vd hol (max s.from_ (a+1))))else v) v=v-PN hol a (a+k) l:=by
   intro l
   induction l with
   |nil=>intro v _ _ _;simp[PN]
   |cons s l ih=>
    intro v hv h1 h2;have hs:=hv s (by simp);rw[d9]at h1 h2;have es:PN hol a (a+k) (s::l)=BC hol a (a+k) s+PN hol a (a+k) l:=(by simp[PN]);rw[foldl_cons,es];unfold BC;by_cases c:max s.from_ (a+1)<=min s.to (a+k)
    .have u1:=SR h (d:=min s.to (a+k)+1) (by omega) (by omega);have u2:=SR h (d:=max s.from_ (a+1)) (by omega) (by omega);rw[decide_eq_true c,aj,aP c,bP (show -9223372036854775808<=min s.to (a+k)+1 by omega) (by omega),UP h (by omega) (by omega),UP h (by omega) (by omega),bP (show -9223372036854775808<=σ hol (min s.to (a+k)+1)-σ hol (max s.from_ (a+1))by omega) (by omega),bP (by omega) (by omega),ih _ (λ x hx=>hv x (by simp[hx])) (by omega) (by omega)];omega
    .rw[decide_eq_false c,au,aM c,ih _ (λ x hx=>hv x (by simp[hx])) (by omega) (by omega)];omega
  have u1:=SR h (d:=a+k+1) (by omega) (by omega);have u2:=SR h (d:=a+1) (by omega) (by omega);unfold uu;rw[w1,w2,UP h (by omega) (by omega),UP h (by omega) (by omega),bP (show -9223372036854775808<=σ hol (a+k+1)-σ hol (a+1)by omega) (by omega),gen C _ hC.ok (by omega) (by omega)]
 intro k
 induction k with
 |zero=>
  intro hk;rw[plain 0 hk];have:PN hol a (a+(0:Nat)) C=0:=by
   have hz:∀s∈C,BC hol a (a+(0:Nat)) s=0:=λs _=>aM (by omega);have gen:∀l:Y bM,(∀ s∈l,BC hol a (a+(0:Nat)) s=0)->PN hol a (a+(0:Nat)) l=0:=by
    intro l
    induction l with
    |nil=>intro _;simp[PN]
    |cons s l ih=>
     intro hl;have h1:=hl s (by simp);have h2:=ih λx hx=>hl x (by simp[hx]);unfold PN at*;rw[bq,List.sum_cons,h1,h2];rfl
   exact gen C hz
  rw[this];simp[PL]
 |succ k ih=>
  intro hk;have e1:=plain k (by omega);have e2:=plain (k+1) hk;have e3:=ih (by omega);have e4:=acH h (b:=a+k) ha (by omega) hC.ap λs hs=>(hC.ok s hs).2.1;have e5:=aox h (d:=a+k+1) (by omega);rw[show a+((k+1:Nat):Int)=a+k+1 by omega]at e2 |-;rw[e2,e5,e4];unfold PL;rw[<- e3,e1];cases Bs hol (a+k+1)<;>cases mz C (a+k+1)<;>simp<;>omega
theorem Zj{hol:Y Int}{st st':Y bM}{a:Int}(h:∀d,mz st d=mz st' d):∀k,PL hol st a k=PL hol st' a k
 | 0=>rfl
 |k+1=>by unfold PL;rw[Zj h k,h]
theorem acI{hol:Y Int}{st st':Y bM}{a:Int}(h:∀d,mz st d=true->mz st' d=true):∀k,PL hol st' a k<=PL hol st a k
 | 0=>Int.le_refl _
 |k+1=>by unfold PL;have:=acI (hol:=hol) (a:=a) h k;have:=h (a+k+1);cases Bs hol (a+k+1)<;>cases h1:mz st (a+k+1)<;>cases h2:mz st' (a+k+1)<;>simp_all<;>omega
theorem acJ{hol:Y Int}{st:Y bM}{a:Int}(k:Nat):∀m,PL hol st a k<=PL hol st a (k+m)
 | 0=>Int.le_refl _
 |m+1=>by
  have:=acJ (hol:=hol) (st:=st) (a:=a) k m;have e:PL hol st a (k+(m+1))=PL hol st a (k+m)+if (Bs hol (a+(k+m:Nat)+1)&&!mz st (a+(k+m:Nat)+1))=true then 1 else 0:=rfl
  rw[e];split<;>omega
theorem agW{st:Y bM}(hs:st.length<=12):(k9 st).length<=1000:=by have:=Cu (iP tg st) [];have:=(RH (n:=2000) (l:=st) (Nat.le_trans hs (by decide)) (by decide)).2;unfold k9;simp[length_nil]at*;omega
theorem later{hol:Y Int}{st:Y bM}{s:bM}{day k:Int}{r r':Int×Int}(hs:st.length<12)(d:QP hol st day k r)(d':QP hol (st++[s]) day k r')(h0:r.2=0)(h0':r'.2=0):r.1<=r'.1:=by
 have⟨a1,a2,a3,a4,a5,a6⟩:=d.ok h0;have⟨b1,b2,b3,b4,b5,b6⟩:=d'.ok h0';simp[fx]at a3;by_cases hk:k=0
 .have:=d.z h0 hk;have:=d'.z h0' hk;omega
 .have⟨u1,u2,u3⟩:=d.up h0 hk;have⟨v1,v2,v3⟩:=d'.up h0' hk;refine Int.not_lt.1 λhlt=>?_;have hc:=akF a2;have hc':=akF b2;have l1:=agW (st:=st) (by omega);have l2:=agW (st:=st++[s]) (by simp;omega);have e1:=akG a1 hc.1 l1 a3.1 (r.1-1-day).toNat (by omega);have e2:=akG a1 hc'.1 l2 a3.1 (r'.1-day).toNat (by omega);rw[show day+((r.1-1-day).toNat:Int)=r.1-1 by omega,Zj hc.2]at e1;rw[show day+((r'.1-day).toNat:Int)=r'.1 by omega,Zj hc'.2]at e2;have e3:=acI (hol:=hol) (st:=st) (st':=st++[s]) (a:=day) (λ x hx=>by rw[Wm,hx];rfl) (r'.1-day).toNat;have e4:=acJ (hol:=hol) (st:=st) (a:=day) (r'.1-day).toNat ((r.1-1-day).toNat-(r'.1-day).toNat);rw[show (r'.1-day).toNat+((r.1-1-day).toNat-(r'.1-day).toNat)=(r.1-1-day).toNat by omega]at e4;have:=u3 (by omega);omega
noncomputable section
section
variable {P:Nat->Bool} {N:Nat}
def rk(P:Nat->Bool)(i:Nat):Nat:=((List.range i).filter P).length
def keep(P:Nat->Bool)(N:Nat):Y Nat:=(List.range N).filter P
theorem ael(i:Nat):rk P (i+1)=rk P i+bif P i then 1 else 0:=by unfold rk;rw[List.range_succ,filter_append,eU];cases h:P i<;>simp[h]
theorem ar0{i j:Nat}(h:i<=j):rk P i<=rk P j:=by
 induction h with
 |refl=>exact aB _
 |step _ ih=>rw[ael];omega
theorem ar1{i j:Nat}(h:i<j)(hp:P i=true):rk P i<rk P j:=by have h1:=ar0 (P:=P) (show i+1<=j from h);rw[ael,hp,aj]at h1;omega
theorem PO{i:Nat}(hi:i<N)(hp:P i=true):(keep P N)[rk P i]? =some i:=by
 have e:List.range N=List.range i++(List.range (N-i)).map (i+ ·):=by rw[<- List.range_add];congr 1;omega
 obtain⟨k,hk⟩:∃k,N-i=k+1:=⟨N-i-1,by omega⟩;unfold keep rk;rw[e,hk,List.range_succ_eq_map,bq,filter_append,List.filter_cons,aP (by simpa using hp),qj (aB _),Nat.sub_self];simp
theorem Wn{p:Nat}(h:p<(keep P N).length):P (keep P N)[p]=true/\(keep P N)[p] <N/\rk P (keep P N)[p]=p:=by have hm:=getElem_mem h;have h2:=hm;unfold keep at h2;rw[mem_filter,List.mem_range]at h2;refine⟨h2.2,h2.1,?_⟩;have h3:=PO h2.1 h2.2;have⟨h4,h5⟩:=bU.1 h3;have hn:(keep P N).Nodup:=List.nodup_range.filter _;exact(List.getElem_inj hn).1 h5
theorem ar2{i:Nat}(hi:i<N)(hp:P i=true):rk P i<(keep P N).length:=(bU.1 (PO hi hp)).1
def newAt(P:Nat->Bool)(l:Y Int):Y Int:=(l.filter λk=>P k.toNat).map λk=>((rk P k.toNat:Nat):Int)
theorem RJ:∀{l:Y Int}{s s':Int},sO (N:Int) s l=true->-1<=s->(∀ k∈l,P k.toNat=true->s'<(rk P k.toNat:Int))->sO ((keep P N).length:Int) s' (newAt P l)=true
 |[],_,_,_,_,_=>rfl
 |x::l,s,s',h,h0,hs=>by
  have hm:=(Ad h).1;have hx:=hm x (by simp);simp[sO]at h;have hgt:=(Ad h.2).1;unfold newAt;rw[List.filter_cons];cases hp:P x.toNat with
  |false=>exact RJ (s:=x) h.2 (by omega) λk hk=>hs k (by simp[hk])
  |true=>
   have h1:=hs x (by simp) hp;have h2:=ar2 (N:=N) (i:=x.toNat) (by omega) hp;rw[aP rfl,bq,sO,aT];refine⟨by simp;omega,RJ (s:=x) h.2 (by omega) λk hk hk2=>?_⟩;have h3:=hgt k hk;have:=ar1 (P:=P) (show x.toNat<k.toNat by omega) hp;omega
theorem acK{l:Y Int}{m:Int}:m∈newAt P l↔∃k∈l,P k.toNat=true/\m=(rk P k.toNat:Int):=by unfold newAt;simp;exact⟨λ ⟨k,⟨a,b⟩,c⟩=>⟨k,a,b,c.symm⟩,λ⟨k,a,b,c⟩=>⟨k,⟨a,b⟩,c.symm⟩⟩
theorem al5(l:Y Int):(newAt P l).length<=l.length:=by unfold newAt;rw[length_map];exact length_filter_le _ _
end
section
variable {n:Nat} {h:aC} {day:Int}
def gP(h:aC)(day:Int):aC:=aC.mk h.bp h.aq h.bj h.aw h.be h.bk h.b7 h.bm h.cQ h.cC h.cJ h.cN h.c8 h.b8 h.bu h.rule h.ed day h.c7 h.stays h.cases h.claims
theorem PS(o:zh n h):zh n (gP h day):=⟨o.fuel,o.town,o.draw,o.near,o.NB,o.stays,o.cases⟩
def ta:aC:=aC.mk ([]) ([]) ([]) ([]) ([]) ([]) ([]) 0 ([]) ([]) ([]) ([]) ([]) 0 ([]) 0 0 0 ([]) ([]) ([]) ([])
def BK(h:aC)(i:Nat):Y Int:=bif Cv h.claims.length (h.claims.getD i bZ)then(h.claims.getD i bZ).attacks else []
def zp(n:Nat)(h:aC)(day:Int)(i:Nat):aK:=aK.mk (h.claims.getD i bZ).gz day (newAt (bz n h) (BK h i)) (h.claims.getD i bZ).ec (h.claims.getD i bZ).name (h.claims.getD i bZ).n
def dx(n:Nat)(h:aC)(day:Int):Y aK:=(keep (bz n h) h.claims.length).map (zp n h day)
def At(n:Nat)(h:aC):Y Int:=(List.range h.claims.length).map λk=>((rk (bz n h) k:Nat):Int)
theorem arn(hl:h.claims.length<=300)(hn:2000<=n):iter (oo (fT n h)) n (0,0,List.replicate h.claims.length 0)=some (At n h):=by
 have cl:(fT n h).length=h.claims.length:=by simp[fT]
 have:=fV (step:=oo (fT n h)) (λ i=>(((rk (bz n h) i:Nat):Int),(i:Int),(List.range h.claims.length).map λk=>if k<i then((rk (bz n h) k:Nat):Int)else 0)) h.claims.length (At n h) (λ i hi=>?_) ?_ n (by omega)
 .have e:((List.range h.claims.length).map λk=>if k<0 then((rk (bz n h) k:Nat):Int)else 0)=List.replicate h.claims.length 0:=List.ext_getElem (by simp) λm h1 h2=>by simp
  rw[e]at this;exact this
 .have cg:bx (fT n h) (i:Int)=some (bz n h i):=by rw[aO (by omega)];simp[fT]
  have hg:∃x,bx ((List.range h.claims.length).map λk=>if k<i then((rk (bz n h) k:Nat):Int)else 0) (i:Int)=some x:=⟨_,aO (by simpa using hi)⟩;obtain⟨x,hx⟩:=hg;have hr:rk (bz n h) i<=i:=by have:=length_filter_le (bz n h) (List.range i);rw[List.length_range]at this;exact this
  have e4:((List.range h.claims.length).map λk=>if k<i then((rk (bz n h) k:Nat):Int)else 0).set i ((rk (bz n h) i:Nat):Int)=(List.range h.claims.length).map λk=>if k<i+1 then((rk (bz n h) k:Nat):Int)else 0:=by
   refine List.ext_getElem (by simp) λm h1 h2=>?_;rw[List.getElem_set];by_cases e:i=m
   .subst e;simp
   .rw[aM e];simp;by_cases e2:m<i
    .rw[aP e2,aP (by omega)]
    .rw[aM e2,aM (by omega)]
  simp only[oo,cK hi,aj,cg,ai,cl,Int.toNat_natCast,aV hi,fm,Int.zero_add,hx,e4];rw[ael,aL (by omega),aL (by omega)];cases bz n h i<;>rfl
 .have e:((List.range h.claims.length).map λk=>if k<h.claims.length then((rk (bz n h) k:Nat):Int)else 0)=At n h:=map_congr_left λm hm=>by simp[List.mem_range.1 hm]
  rw[e];simp[oo,cl]
theorem aro{l:Y Int}(hl:h.claims.length<=300)(hn:2000<=n)(ha:∀k∈l,0<=k/\k<(h.claims.length:Int))(hll:l.length<=1000)(a b c:Int)(d:ByteArray)(e:Int):iter (oq (fT n h) (At n h) l) n (0,a,b,c,d,e,[])=some (a,b,c,d,e,newAt (bz n h) l):=by
 have cl:(fT n h).length=h.claims.length:=by simp[fT]
 have:=dQ (l:=l) (step:=oq (fT n h) (At n h) l) (λ i (s:List Int)=>((i:Int),a,b,c,d,e,s)) (λ k s=>bif bz n h k.toNat then s++[((rk (bz n h) k.toNat:Nat):Int)]else s) (λ s=>(a,b,c,d,e,s)) (λ i s=>s.length<=i) (λ i hi s hs=>?_) (λ s _=>by simp[oq]) n (by omega) [] (aB _)
 .rw[fm]at this;rw[this];have gen:∀(l s:Y Int),l.foldl (λ s k=>bif bz n h k.toNat then s++[((rk (bz n h) k.toNat:Nat):Int)]else s) s=s++newAt (bz n h) l:=by
   intro l
   induction l with
   |nil=>intro s;simp[newAt]
   |cons x l ih=>
    intro s;rw[foldl_cons,ih];unfold newAt;cases hp:bz n h x.toNat<;>simp[hp]
  rw[gen,fI]
 .obtain⟨k1,k2⟩:=ha _ (getElem_mem hi);obtain⟨k,hk⟩:∃k:Nat,l[i]=(k:Int):=⟨l[i].toNat,by omega⟩;have hkl:k<h.claims.length:=by omega
  have cg:bx (fT n h) (k:Int)=some (bz n h k):=by rw[aO (by omega)];simp[fT]
  have rg:bx (At n h) (k:Int)=some ((rk (bz n h) k:Nat):Int):=by rw[aO (by simp[At];omega)];simp[At]
  have ap:bF s.length s.length (sub ([((rk (bz n h) k:Nat):Int)]:Y Int) 0 1).length 1 8=true:=bV (n:=1);simp only[oq,cK hi,aj,aO hi,ai,hk,Int.toNat_natCast,cg,cl,aV hkl,fm,Int.zero_add,rg];rw[aL (by omega)];cases bz n h k with
  |true=>simp only[aj,ap,dV,aH,ai];exact⟨rfl,by simp;omega⟩
  |false=>simp only[au,aH,aj,ai];exact⟨trivial,by omega⟩
theorem aoz(hc:Mq h)(hn:2000<=n):xE n h (fT n h) day=some (dx n h day):=by
 obtain⟨c1,c2,c3⟩:=hc;have cl:(fT n h).length=h.claims.length:=by simp[fT]
 have hmx:maxLen=9223372036854775807:=rfl;have mk:(decide ((h.claims.length:Int)<=(h.claims.length:Int))&&(decide (0<=(h.claims.length:Int))&&qg (h.claims.length:Int) 8))=true:=by simp[qg];omega
 have k2:=fV (step:=rG n h (fT n h) day (At n h)) (λ i=>((i:Int),((List.range i).filter (bz n h)).map (zp n h day))) h.claims.length (dx n h day) (λ i hi=>?_) (by simp[rG,dx,keep]) n (by omega)
 .rw[fm]at k2;unfold xE;simp only[cl,mk,aj,Int.toNat_natCast,arn c2 hn,ai,length_nil,aH];simp[List.map_nil]at k2;rw[k2];simp
 .have cg:bx (fT n h) (i:Int)=some (bz n h i):=by rw[aO (by omega)];simp[fT]
  have hgc:h.claims.getD i bZ=h.claims[i]:=by simp[hi]
  have hai:=c3 _ (getElem_mem hi);have hat:=M9 (n:=n) (N:=(h.claims.length:Int)) hai hn;have hfl:(((List.range i).filter (bz n h)).map (zp n h day)).length<=i:=by
   rw[length_map];have:=length_filter_le (bz n h) (List.range i)
   rwa [List.length_range]at this
  simp only[rG,cK hi,aj,aO hi,ai,cg];rw[aL (by omega),List.range_succ,filter_append,List.map_append,List.filter_cons];cases hb:bz n h i with
  |false=>simp
  |true=>
   have ho:((bif !sO (h.claims.length:Int) (-1) h.claims[i].attacks then some []else some h.claims[i].attacks):J (List Int))=some (BK h i):=(by unfold BK Cv;rw[hgc];cases sO (h.claims.length:Int) (-1) h.claims[i].attacks<;>rfl);have r3:=aro (n:=n) (h:=h) (l:=BK h i) c2 hn (λ k hk=>by
    unfold BK at hk;cases hA:Cv h.claims.length (h.claims.getD i bZ)with
    |false=>rw[hA]at hk;cases hk
    |true=>rw[hA]at hk;have:=(Ad hA).1 k hk;omega) (by
    unfold BK;rw[hgc];cases Cv h.claims.length h.claims[i]
    .exact Nat.zero_le _
    .exact hai) h.claims[i].gz day h.claims[i].ec h.claims[i].name h.claims[i].n
   have e1:aK.mk h.claims[i].gz day (newAt (bz n h) (BK h i)) h.claims[i].ec h.claims[i].name h.claims[i].n=zp n h day i:=(by unfold zp;rw[hgc]);have ap:∀x:aK,bF (((List.range i).filter (bz n h)).map (zp n h day)).length (((List.range i).filter (bz n h)).map (zp n h day)).length ([x]:Y aK).length 1 72=true:=λx=>bV (n:=1) (by omega) (by omega);have s1:∀x:aK,sub ([x]:Y aK) 0 1=[x]:=λx=>rfl;simp only[Bool.not_true,au,hat,ai,ho,length_nil,aH,aj,r3,dP,ap,dV,s1,e1];simp
theorem aoA(o:zh n h)(hc:Mq h)(hh:h.c7.length<=1000):xG n h day=some (if (j0 n h).2≠0 then(ta,(j0 n h).2)else if day<=(j0 n h).1 then(ta,20)else if (j0 n (gP h day)).2≠0 then(ta,(j0 n (gP h day)).2)else(oC (gP h day) (dx n h day),0)):=by
 have hmx:maxLen=9223372036854775807:=rfl;have hn:=o.fuel.1;have hj:fQ h=some true:=by unfold fQ;rw[show decide (1<=(h.claims.length:Int))=true from decide_eq_true (by have:=hc.1;omega),show decide ((h.claims.length:Int)<=300)=true from decide_eq_true (by have:=hc.2.1;omega)];rfl
 have c1:q9 h.c7=some h.c7:=qH (b:=8) (by omega) (by omega);have c2:sF h.stays=some h.stays:=qH (b:=16) (by have:=o.stays;omega) (by have:=o.stays;omega);have c3:Cn h.cases=some h.cases:=qH (b:=40) (by have:=o.cases;omega) (by have:=o.cases;omega);have d2:=(nu (PS (day:=day) o)).1;unfold gP at d2;unfold xG;rw[hj,(nu o).1];simp only[ai,Bool.not_true,au];by_cases h1:(j0 n h).2=0
 .rw[aM (by simpa using h1),show((j0 n h).2 !=0)=false by simp[h1],au];by_cases h2:day<=(j0 n h).1
  .rw[aP h2,decide_eq_true h2];rfl
  .rw[aM h2,decide_eq_false h2,au,d2,ai];by_cases h3:(j0 n (gP h day)).2=0
   .have e3:((j0 n (gP h day)).2 !=0)=false:=(by simp[h3]);rw[aM (by simpa using h3)];unfold gP at e3 |-;rw[e3];simp[c1,c2,c3,zu o hc,aoz (day:=day) hc (show 2000<=n by omega)];rfl
   .have e3:((j0 n (gP h day)).2 !=0)=true:=(by simp[h3]);rw[aP h3];unfold gP at e3 |-;rw[e3];rfl
 .rw[aP h1,show((j0 n h).2 !=0)=true by simp[h1]];rfl
theorem acL(hN:1<=h.claims.length):(keep (bz n h) h.claims.length)[0]? =some 0:=by have:=PO (P:=bz n h) (N:=h.claims.length) (i:=0) (by omega) rfl;exact this
theorem aoB(hc:Mq h):Mq (oC (gP h day) (dx n h day)):=by
 obtain⟨c1,c2,c3⟩:=hc;show 1<=(dx n h day).length/\(dx n h day).length<=300/\∀c∈dx n h day,c.attacks.length<=1000;have h0:=acL (n:=n) c1;have h1:=(bU.1 h0).1;have h2:=length_filter_le (bz n h) (List.range h.claims.length);rw[List.length_range]at h2;unfold dx;rw[length_map];refine⟨h1,by unfold keep;omega,λc hm=>?_⟩;obtain⟨i,hi,rfl⟩:=mem_map.1 hm;have hi2:i<h.claims.length:=by unfold keep at hi;rw[mem_filter,List.mem_range]at hi;exact hi.1
 refine Nat.le_trans (al5 _) ?_;unfold BK;rw[show h.claims.getD i bZ=h.claims[i]by simp[hi2]];cases Cv h.claims.length h.claims[i]
 .exact Nat.zero_le _
 .exact c3 _ (getElem_mem hi2)
theorem RL{p:Nat}(hp:p<(keep (bz n h) h.claims.length).length):(dx n h day).getD p bZ=zp n h day (keep (bz n h) h.claims.length)[p]:=by unfold dx;simp[hp]
theorem acM{p:Nat}(hp:p<(keep (bz n h) h.claims.length).length):Cv (dx n h day).length ((dx n h day).getD p bZ)=true:=by
 rw[RL hp];have hl:(dx n h day).length=(keep (bz n h) h.claims.length).length:=by simp[dx]
 unfold Cv;rw[hl];show sO _ (-1) (newAt (bz n h) (BK h _))=true;refine RJ (s:=-1) ?_ (Int.le_refl _) λk _ _=>by omega
 unfold BK;cases hA:Cv h.claims.length (h.claims.getD (keep (bz n h) h.claims.length)[p] bZ)with
 |true=>exact hA
 |false=>rfl
theorem Zk(o:zh n h)(hd:(j0 n (gP h day)).2=0){p:Nat}(hp:p<(keep (bz n h) h.claims.length).length):bz n (oC (gP h day) (dx n h day)) p=true:=by
 show(decide (p=0) || (ownB n (gP h day) ((dx n h day).getD p bZ)&&Cv (dx n h day).length ((dx n h day).getD p bZ)))=true;rw[acM hp,Bool.and_true];by_cases h0:p=0
 .simp[h0]
 .have hk:=Wn hp;have hk0:(keep (bz n h) h.claims.length)[p]≠0:=λe=>by rw[e]at hk;exact h0 hk.2.2.symm
  have h1:=hk.1
  change (decide ((keep (bz n h) h.claims.length)[p]=0) || (ownB n h (h.claims.getD (keep (bz n h) h.claims.length)[p] bZ)&&Cv h.claims.length (h.claims.getD (keep (bz n h) h.claims.length)[p] bZ)))=true at h1
  rw[show decide ((keep (bz n h) h.claims.length)[p]=0)=false from decide_eq_false hk0,Bool.false_or,aT]at h1;have h2:=h1.1;unfold ownB at h2;simp only[aT]at h2;obtain⟨q1,q2,q3,q4⟩:=h2;have hD:=((nu (PS (day:=day) o)).2.2).ok hd;have ht:Za n (gP h day) day=true:=by unfold Za;rw[hd];simp only[aT,bf];exact⟨rfl,Int.le_refl _,hD.2.2.2.2.1⟩
  rw[RL hp];have e:ownB n (gP h day) (zp n h day (keep (bz n h) h.claims.length)[p])=true:=by unfold ownB;show(Za n (gP h day) day&&(Is h (h.claims.getD (keep (bz n h) h.claims.length)[p] bZ).gz&&(IN h (h.claims.getD (keep (bz n h) h.claims.length)[p] bZ)&&PJ n h (h.claims.getD (keep (bz n h) h.claims.length)[p] bZ))))=true;rw[ht,q2,q3,q4];rfl
  rw[e,Bool.or_true]
theorem agX(o:zh n h)(hd:(j0 n (gP h day)).2=0){q p:Nat}(hq:q<(keep (bz n h) h.claims.length).length)(hp:p<(keep (bz n h) h.claims.length).length):js n (oC (gP h day) (dx n h day)) q p↔js n h (keep (bz n h) h.claims.length)[q] (keep (bz n h) h.claims.length)[p]:=by
 have hl:(dx n h day).length=(keep (bz n h) h.claims.length).length:=by simp[dx]
 have kq:=Wn hq;have kp:=Wn hp;unfold js;show(q<(dx n h day).length/\p<(dx n h day).length/\bz n (oC (gP h day) (dx n h day)) q=true/\Cv (dx n h day).length ((dx n h day).getD q bZ)=true/\(p:Int)∈((dx n h day).getD q bZ).attacks)↔_;rw[acM hq,Zk o hd hq,RL hq,hl];constructor
 .rintro⟨_,_,_,_,hm⟩;have hm:(p:Int)∈newAt (bz n h) (BK h (keep (bz n h) h.claims.length)[q]):=hm;have⟨k,m1,m2,m3⟩:=acK.1 hm;unfold BK at m1;cases hA:Cv h.claims.length (h.claims.getD (keep (bz n h) h.claims.length)[q] bZ)with
  |false=>rw[hA]at m1;cases m1
  |true=>
   rw[hA,aj]at m1;have hk:=(Ad hA).1 k m1;have e:=PO (P:=bz n h) (N:=h.claims.length) (i:=k.toNat) (by omega) m2;rw[show rk (bz n h) k.toNat=p by omega,dI hp]at e;injection e with e;exact⟨kq.2.1,kp.2.1,kq.1,rfl,by rw[e,show(k.toNat:Int)=k by omega];exact m1⟩
 .rintro⟨_,_,_,h4,h5⟩;refine⟨hq,hp,rfl,rfl,?_⟩;show(p:Int)∈newAt (bz n h) (BK h (keep (bz n h) h.claims.length)[q]);rw[acK];refine⟨_,?_,by rw[Int.toNat_natCast];exact kp.1,by rw[Int.toNat_natCast,kp.2.2]⟩;unfold BK;rw[h4];exact h5
theorem agY(o:zh n h)(hd:(j0 n (gP h day)).2=0){L Δ:Y Int}(a:xf n h L)(b:xf n (oC (gP h day) (dx n h day)) Δ){p:Nat}(hp:p<(keep (bz n h) h.claims.length).length):Δ.getD p 0=L.getD (keep (bz n h) h.claims.length)[p] 0:=by
 have hl:(dx n h day).length=(keep (bz n h) h.claims.length).length:=by simp[dx]
 have kp:=Wn hp;have e1:∀i,i<(keep (bz n h) h.claims.length).length->∀j,js n h j ((keep (bz n h) h.claims.length).getD i 0)->∃k,k<(keep (bz n h) h.claims.length).length/\(keep (bz n h) h.claims.length).getD k 0=j/\js n (oC (gP h day) (dx n h day)) k i:=λi hi j hj=>by have⟨k1,k2⟩:=bU.1 (PO (P:=bz n h) hj.1 hj.2.2.1);refine⟨_,k1,by simp[k1,k2],?_⟩;rw[agX o hd k1 hi,k2];simpa[hi]using hj
 have e2:∀i,i<(keep (bz n h) h.claims.length).length->∀j,js n (oC (gP h day) (dx n h day)) j i->j<(keep (bz n h) h.claims.length).length/\js n h ((keep (bz n h) h.claims.length).getD j 0) ((keep (bz n h) h.claims.length).getD i 0):=λi hi j hj=>by
  have hjl:j<(keep (bz n h) h.claims.length).length:=by rw[<- hl];exact hj.1
  refine⟨hjl,?_⟩;have:=(agX o hd hjl hi).1 hj;simpa[hi,hjl]using this
 have g1:=aed (R:=js n h) (Φ:=js n (oC (gP h day) (dx n h day))) (λ i=>(keep (bz n h) h.claims.length).getD i 0) (λ i=>i<(keep (bz n h) h.claims.length).length) e1 e2 hp;have g2:=aou (R:=js n h) (Φ:=js n (oC (gP h day) (dx n h day))) (λ i=>(keep (bz n h) h.claims.length).getD i 0) (λ i=>i<(keep (bz n h) h.claims.length).length) e1 e2 hp;have eg:(keep (bz n h) h.claims.length).getD p 0=(keep (bz n h) h.claims.length)[p]:=by simp[hp]
 simp only[eg]at g1 g2;exact b.eq a (by show p<(dx n h day).length;omega) kp.2.1 (by rw[Zk o hd hp,kp.1]) g1.symm g2.symm
end
theorem PU(h:aC)(day:Int)(s:bM)(hz:TX h):rH 5000003 h day s=some true:=by
 have⟨b,hf,ho⟩:=aos (n:=5000003) arY hz;unfold rH;rw[apY,hf];cases b with
 |false=>rfl
 |true=>
  have⟨o,hF⟩:=ho rfl;have f1:=hF.claims;have hmx:maxLen=9223372036854775807:=rfl;simp only[ai,Bool.not_true,au];by_cases g2:h.claims=[]
  .rw[show ((h.claims.length:Int)==0)=true by rw[g2];rfl];rfl
  have hpos:=List.length_pos_iff.2 g2;have ch:Mq h:=by have:=ap0 hF g2 (l:=[]) (by simp) (by simp);rwa [List.append_nil]at this
  have⟨L,a1,a2⟩:=Zd o ch;have l1:=a2.len;have cl:(fT 5000003 h).length=h.claims.length:=by simp[fT]
  have cg:∀i,i<h.claims.length->bx (fT 5000003 h) (i:Int)=some (bz 5000003 h i):=λi hi=>by rw[aO (by omega)];simp[fT]
  have fs:=hF.stays
  let hm:aC:=aC.mk h.bp h.aq h.bj h.aw h.be h.bk h.b7 h.bm h.cQ h.cC h.cJ h.cN h.c8 h.b8 h.bu h.rule h.ed h.eo h.c7 (h.stays++[s]) h.cases h.claims
  have om:zh 5000003 hm:=⟨o.fuel,o.town,o.draw,o.near,o.NB,by show(h.stays++[s]).length<=12;rw[eU,length_singleton];omega,o.cases⟩;have cm:Mq hm:=ch;have dm:=nu om;have dh:=nu o;have lat:(j0 5000003 h).2=0->(j0 5000003 hm).2=0->(j0 5000003 h).1<=(j0 5000003 hm).1:=later (by omega) dh.2.2 dm.2.2;have clm:(fT 5000003 hm).length=h.claims.length:=by simp[fT,hm]
  have still:∀i,(j0 5000003 hm).2=0->bz 5000003 h i=true->bz 5000003 hm i=true:=λi h0 h1=>by
   unfold bz at h1;show(decide (i=0) || (ownB 5000003 hm (h.claims.getD i bZ)&&Cv h.claims.length (h.claims.getD i bZ)))=true;cases h2:decide (i=0)with
   |true=>rfl
   |false=>
    rw[h2,Bool.false_or,aT]at h1;rw[h1.2,Bool.and_true,Bool.false_or];have h3:=h1.1;unfold ownB at h3 |-;simp only[aT]at h3 |-;refine⟨?_,h3.2⟩;have h4:=h3.1;unfold Za at h4 |-;simp only[aT,bf,beq_iff_eq]at h4 |-;have:=lat h4.1 h0;exact⟨h0,h4.2.1,by omega⟩
  have s1:iter (jS (fT 5000003 h) (j0 5000003 hm) (fT 5000003 hm)) 5000003 0=some (.inl ()):=by
   refine fV (step:=jS (fT 5000003 h) (j0 5000003 hm) (fT 5000003 hm)) (λ i=>(i:Int)) h.claims.length _ (λ i hi=>?_) (by simp[jS,cl]) 5000003 (by omega);have cgm:bx (fT 5000003 hm) (i:Int)=some (bz 5000003 hm i):=(by rw[aO (by omega)];simp[fT]);have key:=still i;simp only[jS,show decide ((i:Int)<((fT 5000003 h).length:Int))=true from decide_eq_true (by omega),aj,aV (show i<(fT 5000003 h).length by omega),fm,Int.zero_add,cg i hi,ai,aV (show i<(fT 5000003 hm).length by omega),cgm,aZ i];cases hA:bz 5000003 h i with
   |false=>rfl
   |true=>
    cases hB:bz 5000003 hm i with
    |true=>rfl
    |false=>
     have:((j0 5000003 hm).2==0)=false:=(by rw[Bool.eq_false_iff];intro e;have:=key (by simpa using e) hA;rw[hB]at this;cases this);simp only[aj,Bool.not_false,this];rfl
  have ap1:bF ([]:Y bM).length 0 h.stays.length h.stays.length 16=true:=by simp[bF];omega
  have SU:bF h.stays.length h.stays.length (sub ([s]:Y bM) 0 1).length 1 16=true:=bV (n:=1) (by omega) (by omega);have sb:sub ([s]:Y bM) 0 1=[s]:=rfl;have dm1:dS 5000003 (aC.mk h.bp h.aq h.bj h.aw h.be h.bk h.b7 h.bm h.cQ h.cC h.cJ h.cN h.c8 h.b8 h.bu h.rule h.ed h.eo h.c7 (h.stays++[s]) h.cases h.claims)=some (j0 5000003 hm):=dm.1;have cm1:iK 5000003 (aC.mk h.bp h.aq h.bj h.aw h.be h.bk h.b7 h.bm h.cQ h.cC h.cJ h.cN h.c8 h.b8 h.bu h.rule h.ed h.eo h.c7 (h.stays++[s]) h.cases h.claims)=some (fT 5000003 hm):=zu om cm;have v3:((bif (j0 5000003 hm).2==0 then(bif (j0 5000003 h).2==0 then some (decide ((j0 5000003 hm).1<(j0 5000003 h).1))else some false)else some false):J Bool)=some false:=by
   cases e1:(j0 5000003 hm).2==0 with
   |false=>rfl
   |true=>
    cases e2:(j0 5000003 h).2==0 with
    |false=>rfl
    |true=>
     have:=lat (by simpa using e2) (by simpa using e1);rw[aj,aj,decide_eq_false (by omega)]
  have b0:((h.claims.length:Int)==0)=false:=by simp;exact g2
  have b1:(((fT 5000003 h).length:Int) !=(h.claims.length:Int))=false:=by rw[cl];simp
  have b2:((L.length:Int) !=(h.claims.length:Int))=false:=by rw[l1];simp
  have b3:(((fT 5000003 hm).length:Int) !=((fT 5000003 h).length:Int))=false:=by rw[clm,cl];simp
  have hA:=aoA (day:=day) o ch (by have:=hF.hol;omega);have e0:ta.claims=[]:=rfl;simp only[b0,au,ai,zu o ch,a1,b1,b2,ap1,aj,dV,fI,sb,dP,aH,dm1,dh.1,cm1,b3,v3,s1,gG,hA];rw[sb]at SU;rw[SU];simp only[aj];by_cases c1:(j0 5000003 h).2=0
  .rw[aM (by simpa using c1)];by_cases c2:day<=(j0 5000003 h).1
   .rw[aP c2];simp only[e0,c1,decide_eq_true c2];rfl
   .rw[aM c2];by_cases c3:(j0 5000003 (gP h day)).2=0
    .rw[aM (by simpa using c3)];have on:zh 5000003 (oC (gP h day) (dx 5000003 h day)):=aov (PS o) _;have cn:=aoB (n:=5000003) (day:=day) ch;have⟨Δ,m1,m2⟩:=Zd on cn;have hcl:(dx 5000003 h day).length=(keep (bz 5000003 h) h.claims.length).length:=(by simp[dx]);have lM:Δ.length=(keep (bz 5000003 h) h.claims.length).length:=(by rw[<- hcl];exact m2.len);have hkl:(keep (bz 5000003 h) h.claims.length).length<=14:=(by have:=length_filter_le (bz 5000003 h) (List.range h.claims.length);rw[List.length_range]at this;unfold keep;omega);have h0:=acL (n:=5000003) (h:=h) hpos;have⟨k0,k1⟩:=bU.1 h0;have want:iter (jT (fT 5000003 h) (L,L.getD 0 0==1)) 5000003 (0,[])=some ((keep (bz 5000003 h) h.claims.length).map λi=>L.getD i 0):=by
      have:=fV (step:=jT (fT 5000003 h) (L,L.getD 0 0==1)) (λ i=>((i:Int),((List.range i).filter (bz 5000003 h)).map λi=>L.getD i 0)) h.claims.length ((keep (bz 5000003 h) h.claims.length).map λi=>L.getD i 0) (λ i hi=>?_) (by simp[jT,keep,cl]) 5000003 (by omega)
      .exact this
      .have hL:bx L (i:Int)=some (L.getD i 0):=(by rw[aO (by omega)];simp[show i<L.length by omega]);have hfl:(((List.range i).filter (bz 5000003 h)).map λi=>L.getD i 0).length<=i:=by
        rw[length_map];have:=length_filter_le (bz 5000003 h) (List.range i)
        rwa [List.length_range]at this
       have ap:∀x:Int,bF (((List.range i).filter (bz 5000003 h)).map λi=>L.getD i 0).length (((List.range i).filter (bz 5000003 h)).map λi=>L.getD i 0).length ([x]:Y Int).length 1 8=true:=λx=>bV (n:=1) (by omega) (by omega);have sx:∀x:Int,sub ([x]:Y Int) 0 1=[x]:=λx=>rfl;simp only[jT,show decide ((i:Int)<((fT 5000003 h).length:Int))=true from decide_eq_true (by omega),aj,aV (show i<(fT 5000003 h).length by omega),fm,Int.zero_add,cg i hi,ai,aV (show i<L.length by omega),hL];rw[aL (by omega),List.range_succ,filter_append,List.map_append,List.filter_cons];cases hb:bz 5000003 h i with
       |false=>simp
       |true=>simp only[aj,ap,dV,sx,aH,ai];simp
     have s3:iter (jU day (oC (gP h day) (dx 5000003 h day),0) (fT 5000003 (oC (gP h day) (dx 5000003 h day)))) 5000003 0=some (.inl ()):=(by have cln:(fT 5000003 (oC (gP h day) (dx 5000003 h day))).length=(keep (bz 5000003 h) h.claims.length).length:=(by rw[<- hcl];simp[fT,oC]);refine fV (step:=jU day (oC (gP h day) (dx 5000003 h day),0) (fT 5000003 (oC (gP h day) (dx 5000003 h day)))) (λ i=>(i:Int)) (keep (bz 5000003 h) h.claims.length).length _ (λ i hi=>?_) (by simp[jU,cln]) 5000003 (by omega);have cgn:bx (fT 5000003 (oC (gP h day) (dx 5000003 h day))) (i:Int)=some true:=(by rw[aO (by omega),<- Zk o c3 hi];simp[fT]);have e1:(oC (gP h day) (dx 5000003 h day)).claims=dx 5000003 h day:=rfl;have e2:min (i:Int) (max (i64.wrap (((dx 5000003 h day).length:Int)-1)) 0)=(i:Int):=(by rw[bP (by omega) (by omega)];omega);have e3:bx (dx 5000003 h day) (i:Int)=some ((dx 5000003 h day)[i]'(by omega)):=aO (by omega);have e4:((dx 5000003 h day)[i]'(by omega)).day=day:=(by simp[dx,zp]);simp only[jU,show decide ((i:Int)<((fT 5000003 (oC (gP h day) (dx 5000003 h day))).length:Int))=true from decide_eq_true (by omega),aj,aV (show i<(fT 5000003 (oC (gP h day) (dx 5000003 h day))).length by omega),fm,Int.zero_add,cgn,ai,Bool.not_true,au,e1,e2,e3,e4,aZ i];simp);have hE:Δ=(keep (bz 5000003 h) h.claims.length).map λi=>L.getD i 0:=(by refine List.ext_getElem (by simp[lM]) λi i1 i2=>?_;have:=agY o c3 a2 m2 (p:=i) (by omega);simpa[i1]using this);have hg:Δ.getD 0 0=L.getD 0 0:=(by have:=agY o c3 a2 m2 (p:=0) k0;rw[this,k1]);have hn1:(oC (gP h day) (dx 5000003 h day)).eo=day:=rfl;have e1:(oC (gP h day) (dx 5000003 h day)).claims=dx 5000003 h day:=rfl;have cln:(fT 5000003 (oC (gP h day) (dx 5000003 h day))).length=(keep (bz 5000003 h) h.claims.length).length:=(by rw[<- hcl];simp[fT,oC]);have sn:=Ug (n:=5000003) (a:=(keep (bz 5000003 h) h.claims.length).map λi=>L.getD i 0) (b:=(keep (bz 5000003 h) h.claims.length).map λi=>L.getD i 0) (by rw[length_map];omega) (by decide);rw[decide_eq_true rfl]at sn;simp only[show ((0:Int) !=0)=false from rfl,au,decide_eq_false c2,hn1,show(day !=day)=false by simp,ai,length_nil,aH,aj,want,m1,zu on cn,s3,gG,cln,e1,hcl,length_map,beq_self_eq_true,dP,hE,sn];rw[<- hE,hg];simp
    .rw[aP c3];have dn:=(nu (PS (day:=day) o)).2.1;have dn':eY 5000003 h.c7 h.stays day (Y9 h)=some (j0 5000003 (gP h day)):=dn;have hd:Fx 5000003 (bO.mk h.bp h.aq h.bj h.aw h.be h.bk h.b7 h.bm)=some (Y9 h):=YJ (p:=aiP (dE h)) o.near.2.2 (by decide);have cf:qy 5000003 h day=some true:=(by unfold qy;rw[hd,ai,dn',ai,show((j0 5000003 (gP h day)).2 !=0)=true by simpa using c3]);simp only[show ((j0 5000003 (gP h day)).2 !=0)=true by simpa using c3,aj,e0,c1,decide_eq_false c2,cf,ai];cases decide (day>1073741824)<;>rfl
  .rw[aP c1];have e1:((j0 5000003 h).2 !=0)=true:=(by simpa using c1);simp only[e1,aj,e0];rfl
theorem RN(q:HL xx.toSE [.st SI.fX,.int .i64,.st SI.nr])(hb:Xb (HL.oY xx.toSE [.st SI.fX,.int .i64,.st SI.nr] q)<=1048576):∃k,rH k q.1 q.2.1 q.2.2.1=some true:=⟨5000003,PU q.1 q.2.1 q.2.2.1 (arl q hb)⟩
end
end Go.Proofs
