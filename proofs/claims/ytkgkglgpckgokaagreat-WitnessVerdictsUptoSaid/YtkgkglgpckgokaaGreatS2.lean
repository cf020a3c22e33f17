import Derived.Test.YtkgkglgpckgokaaGreatS1
open Go.IntKind (i64)
open List (length_take mem_map all_eq_true getElem_mem length_map length_nil foldl_cons length_singleton map_append)
namespace Go.Proofs
open Go.Gb Go.RowKit
variable {n:Nat}
theorem anQ{p:bq}{ms:U bR}{zs:U ByteArray}{e:cu}(hp:ZS p)(hm:ms.length<=4000000)(hz:zs.length<=4000000)(he:(toE e).wt<=4000000)(hn:5000003<=n)(hn2:n<=9223372036854775000):∃v,vN n p ms zs e=some v:=by
 obtain⟨b,hb,hv⟩:=R4 (n:=n) (by omega) hn2 he;simp only[vN,y8,hb,af];cases b with
 |false=>exact⟨_,rfl⟩
 |true=>
  have⟨kn,ab,h1,_⟩:=Lm (n:=n) hp hm hz hn hn2;obtain⟨v,h2⟩:=Xy (n:=n) (a0:=p.defs) (a2:=p.zones) (a3:=p.rules) (a4:=p.caps) (a5:=p.views) (a6:=p.nr) (a7:=p.hours) (by omega) hp.tabs hz n e kn (hv rfl) he;simp only[Bool.not_true,ak,h1,af,gq,h2];exact⟨_,rfl⟩
section
variable {n:Nat} {d:List fw} {ts:List cB} {z:List dN} {r r':List bV} {c c':List fZ} {v v':List eU} {su rK:List bW} {h h':Int} {zs:List ByteArray}
theorem IQ:∀(m:Nat)(e:cu)(kn:U (ByteArray×Int)),cK n m d ts z r c v su h zs e kn=cK n m d ts z r' c' v' rK h' zs e kn
 | 0,_,_=>rfl
 |m+1,e,kn=>by
  have ih:=IQ m;have hs:fu n (cK n m) d ts z r c v su h zs e=fu n (cK n m) d ts z r' c' v' rK h' zs e:=by
   funext ⟨v1,v2,v3⟩;simp only[fu,ih]
  have hr:∀w,jr n d ts z r c v su h zs e w=jr n d ts z r' c' v' rK h' zs e w:=λ_=>rfl;show fF n (cK n m) d ts z r c v su h zs e kn=fF n (cK n m) d ts z r' c' v' rK h' zs e kn;simp only[fF,hs,y8,hr]
theorem ag9{ms:U bR}:(mh n (bq.mk d ts z r c v su h) ms zs).map (λ q=>q.2.2.2.2.2.2.2.2.2)=(mh n (bq.mk d ts z r' c' v' rK h') ms zs).map (λ q=>q.2.2.2.2.2.2.2.2.2):=by
 have hs:∀w2 r1,gL n (bq.mk d ts z r c v su h) zs w2 r1=gL n (bq.mk d ts z r' c' v' rK h') zs w2 r1:=by
  intro w2 r1;funext ⟨v6,v7,v8⟩;have hv:∀e kn,gq n d ts z r c v su h zs e kn=gq n d ts z r' c' v' rK h' zs e kn:=λe kn=>IQ n e kn;simp only[gL,hv]
 have ho:nM n (bq.mk d ts z r c v su h)=nM n (bq.mk d ts z r' c' v' rK h'):=rfl;simp only[mh,hs,ho];cases iter (j4 n ms) n ((0:Int),([]:(List (ByteArray×Int))),([]:(List (ByteArray×Bool))))with
 |none=>rfl
 |some w=>
  obtain⟨w1,w2⟩:=w;simp only[af];cases (decide ((d.length:Int)<=(d.length:Int))&&(decide (0<=(d.length:Int))&&zH (d.length:Int) 8))with
  |false=>rfl
  |true=>
   simp only[aj];cases nM n (bq.mk d ts z r' c' v' rK h')with
   |none=>rfl
   |some r1=>
    simp only[af];cases (r1.2.2 !=(0:Int))with
    |true=>
     simp only[aj];cases az (((d.length:Int):Int).toNat) (List.replicate ((d.length:Int):Int).toNat (0:Int)).length<;>rfl
    |false=>
     simp only[ak];cases iter (gL n (bq.mk d ts z r' c' v' rK h') zs w2 r1) n ((0:Int),w1,(List.replicate ((d.length:Int):Int).toNat (0:Int)))with
     |none=>rfl
     |some q=>
      obtain⟨w3,w4⟩:=q;simp only[af];cases az (((d.length:Int):Int).toNat) w4.length<;>rfl
theorem Xz{ms:U bR}{e:cu}(hp:il d)(ht:NB ts)(hm:ms.length<=4000000)(hz:zs.length<=4000000)(hn:5000003<=n)(hn2:n<=9223372036854775000):vN n (bq.mk d ts z r c v su h) ms zs e=vN n (bq.mk d ts z r' c' v' rK h') ms zs e:=by
 have⟨kn,ab,h1,_⟩:=Lm (n:=n) (p:=bq.mk d ts z r c v su h) ⟨hp,ht⟩ hm hz hn hn2;have⟨kn2,out2,h2,_⟩:=Lm (n:=n) (p:=bq.mk d ts z r' c' v' rK h') ⟨hp,ht⟩ hm hz hn hn2;have h3:=ag9 (n:=n) (d:=d) (ts:=ts) (z:=z) (r:=r) (r':=r') (c:=c) (c':=c') (v:=v) (v':=v') (su:=su) (rK:=rK) (h:=h) (h':=h') (zs:=zs) (ms:=ms);rw[h1,h2]at h3;simp only[Option.map_some,aA,Prod.mk.injEq]at h3;obtain⟨rfl,rfl⟩:=h3;simp only[vN,h1,h2,af,gq,IQ (r:=r) (r':=r') (c:=c) (c':=c') (v:=v) (v':=v') (su:=su) (rK:=rK) (h:=h) (h':=h')]
end
theorem SQ{b:ax}{l:U dX}{s:U fT}(ha:∀c∈s,c.area.length<=200)(hs:s.length<=1000)(hl:l.length<=1000)(hn:2000<=n):
 xU n b l s=some (EQ b l&&(ER s&&!(s.any λc=>decide (L5 b l c.area<c.z1)))):=by
 unfold xU;rw[Xp b l hl hn];simp only[af];cases hv:EQ b l with
 |false=>simp only[Bool.not_false,aj,af,Bool.false_and]
 |true=>
  have⟨v1,v2⟩:=(aeC b l).1 hv;simp only[Bool.not_true,ak,RZ (n:=n) (s:=s) (λ x hx=>by have:=ha x hx;omega) (by omega),af,Bool.true_and];cases hr:ER s with
  |false=>simp only[Bool.not_false,aj,Bool.false_and]
  |true=>
   have⟨_,sok,_⟩:=(Xr s).1 hr;simp only[Bool.not_true,ak,Bool.true_and];rw[sP (λ c=>decide (L5 b l c.area<c.z1)) (λ c hc=>by
    have:=ha c hc;show rE n c b l=_;unfold rE;rw[SK v1 v2 (uF (sok c hc).rt).1 (by omega) hl hn];rfl) (by omega) (by omega)]
   simp only[af]
def vC(v:aH):U fT:=[⟨v.ev,v.ec,[iC v]⟩]
theorem aeQ(v:aH):xQ v=some (vC v):=rfl
def UK(b:ax)(p:dX)(v:aH):Bool:=EQ b [p]&&(ER (vC v)&&!((vC v).any λc=>decide (L5 b [p] c.area<c.z1)))
def Qs(r:bV):dX:=dX.mk r.hZ r.ia r.js r.jt
theorem ace(v:aH)(b:ax)(r:bV)(hn:2000<=n):jS n v b r=some (!UK b (Qs r) v):=by
 have h:=SQ (n:=n) (b:=b) (l:=[Qs r]) (s:=vC v) (by simp[vC]) (by simp[vC]) (by simp) hn;unfold Qs at h;have hl:(vC v).length=1:=rfl;simp only[jS,aeQ,af,bZ,aD,aj,show ∀x:dX,sub [x] 0 1=[x]from λ_=>rfl,length_singleton,h,UK,Qs];rfl
def Nx(r:bV)(v:aH):Bool:=bits .and .i64 r.uses (i64.wrap (1*2 ^ (v.use:Int).toNat))==(0:Int)
theorem acf{v:aH}(h:okV v=true)(r:bV):jT v r=some (Nx r v):=by
 have hu:0<=v.use/\v.use<6:=by
  simp only[okV,aL,aV]at h;omega
 have hb:i64.bits=64:=rfl;simp only[jT,Nx,show(decide (0<=v.use)&&decide (v.use<=i64.bits))=true from by simp[hb];omega,aj]
def Ok(lot:Int)(r:bV)(v:aH)(b:iH):Bool:=(dV b (l6.mk [] [] [] [] [] [] [] 0 [] [] [] [] [] 0 0 [] [] lot [] [] []) v r).getD false
theorem aeR{b:iH}{s:l6}{v:aH}{r:bV}:dV b s v r=some (Ok s.cz r v b):=by
 have key:∃x,dV b (l6.mk [] [] [] [] [] [] [] 0 [] [] [] [] [] 0 0 [] [] s.cz [] [] []) v r=some x:=by
  simp only[dV,iX,al0,af];refine sQ (cZ ⟨_,rfl⟩ (cZ ⟨_,rfl⟩ (cZ ⟨_,rfl⟩ ⟨_,rfl⟩))) λ_=>cZ ⟨_,rfl⟩ (sQ (cZ (cZ ⟨_,rfl⟩ (cZ ⟨_,rfl⟩ ⟨_,rfl⟩)) (cZ ⟨_,rfl⟩ ⟨_,rfl⟩)) λ_=>cZ ⟨_,rfl⟩ ⟨_,rfl⟩)
 have e:dV b s v r=dV b (l6.mk [] [] [] [] [] [] [] 0 [] [] [] [] [] 0 0 [] [] s.cz [] [] []) v r:=rfl;obtain⟨x,hx⟩:=key;rw[e,Ok,hx];rfl
theorem zL{l:U iH}{φ:(iH×Unit)->J Bool}(p:iH->Bool)(h:∀x∈l,φ (x,())=some (p x))(hl:l.length<1099511627776)(hn:l.length<n):jU n l φ=some (l.any p):=by
 have:qy n l φ=some (xD p l):=gG p h hl hn;simp only[jU,this,af,xE]
def Of(built:U iH)(lot:Int)(r:bV)(v:aH):Bool:=built.any (Ok lot r v)
theorem aci{s:l6}{v:aH}{r:bV}(hb:s.fY.length<=1000)(hn:2000<=n):jV n v s r=some (Of s.fY s.cz r v):=by simp only[jV,rV,zL (n:=n) (l:=s.fY) (φ:=λ(y1:iH×Unit)=>dV y1.1 s v r) (Ok s.cz r v) (λ x _=>aeR) (by omega) (by omega),af,Of]
def jp(r:bV):cu:=cu.mk r.kB r.mw r.mn r.jn r.ga
def fS(t:bT):bq:=bq.mk t.cj t.ca t.b8 [] t.cw t.cm t.cD t.co
structure yc(t:bT):Prop where
 lots:∀l∈t.land,DD l
 land:t.land.length<=1000
 xr:t.bz.length<=900/\∀e∈t.bz,e.area.length<=900
 built:t.built.length<=1000
 zones:t.b8.length<=100
 caps:t.cw.length<=1000
 rules:t.bj.length<=100
 rule:∀r∈t.bj,Xm r/\(toE (jp r)).wt<=4000000
 plan:ZS (fS t)
def Zb(d:bg):Prop:=Xu d/\IN d
def J8(n:Nat):Prop:=5000003<=n/\n<=9223372036854775000
def pE(t:bT)(lot:bU):U ByteArray:=EV t.b8 lot.area
def sX(t:bT)(lot:bU)(d:bg):l6:=l6.mk t.cj t.ca t.b8 t.bj t.cw t.cm t.cD t.co t.land t.bz t.windows t.built t.base lot.id lot.owner lot.area lot.from_ d.lot d.phases (kK d) (pE t lot)
theorem amk{d:bg}(h:Xu d)(hn:1001<=n):tX n d=some (kK d):=by
 obtain⟨h1,h2⟩:=h;unfold tX;have key:=oF (step:=oJ d) (λ i=>((i:Int),(d.phases.take i).flatMap (·.cy))) (s:=((0:Int),([]:U aH))) d.phases.length (kK d) rfl (λ i hi=>by
  have hl:=dE (l:=d.phases.take i) λp hp=>h2 p (List.mem_of_mem_take hp);rw[length_take]at hl;have hv:=h2 _ (getElem_mem hi);generalize hL:(d.phases.take i).flatMap (·.cy)=L at hl;have hap:bP L.length L.length d.phases[i].cy.length d.phases[i].cy.length 72=true:=dm (by omega) (by simp only[maxLen];omega);simp only[oJ,bI hi,aj,bf hi,af,hap,dR,aD,aK i];rw[gB hi,List.flatMap_append,hL];simp only[List.flatMap_cons,List.flatMap_nil,List.append_nil]) (by simp only[oJ,bS,ak,aD,aj,List.take_length,kK]) n (by omega)
 have hz:az 0 ([]:U aH).length=true:=rfl;simp only[hz,aj,key,af,bZ,aD]
def GC(n:Nat)(t:bT)(d:bg):Bool:=(iY n (fS t) (jv t.land d.lot).1 d).getD false
def y9(n:Nat)(t:bT)(d:bg):Int:=bif(jv t.land d.lot).2 then(bif GC n t d then 0 else 1)else 4
def apG:l6:=l6.mk ([]) ([]) ([]) ([]) ([]) ([]) ([]) 0 ([]) ([]) ([]) ([]) ([]) 0 0 ([]) ([]) 0 ([]) ([]) ([])
theorem look_eq{t:bT}{d:bg}(ht:yc t)(hd:Zb d)(hn:J8 n):Ai n t d=some (bif y9 n t d==0 then sX t (jv t.land d.lot).1 d else apG,y9 n t d)/\(y9 n t d=0->∀v∈kK d,okV v=true):=by
 obtain⟨hn1,hn2⟩:=hn;have hl:=ht.land;have e1:NQ n t.land d.lot=some (jv t.land d.lot):=ajV ht.lots (by omega) (by omega);have hw:=Qq ht.lots d.lot;obtain⟨b,hb,hv⟩:=aj5 (n:=n) (p:=fS t) (lot:=(jv t.land d.lot).1) (d:=d) ht.caps hw.1 hd.1 hd.2 (by omega);have e2:iY n (bq.mk t.cj t.ca t.b8 t.bj t.cw t.cm t.cD t.co) (jv t.land d.lot).1 d=some b:=hb;have e3:CR n (bq.mk t.cj t.ca t.b8 t.bj t.cw t.cm t.cD t.co) (jv t.land d.lot).1.area=some (EV t.b8 (jv t.land d.lot).1.area):=ab5 _ _ ht.zones hw.1 (by omega);have e4:GC n t d=b:=by unfold GC;rw[hb];rfl
 simp only[Ai,e1,e2,e3,amk hd.1 (show 1001<=n by omega),af,bZ,aD,aj,y9,e4];cases (jv t.land d.lot).2 with
 |false=>exact⟨rfl,λh=>absurd (show (4:Int)=0 from h) (by decide)⟩
 |true=>
  cases b with
  |false=>exact⟨rfl,λh=>absurd (show (1:Int)=0 from h) (by decide)⟩
  |true=>exact⟨rfl,λ_=>hv rfl⟩
def XA(n:Nat)(t:bT)(lot:bU)(d:bg)(r:bV):Bool:=((iW n (fS t) lot d).bind λms=>vN n (fS t) ms (pE t lot) (jp r)).getD 1==0
def XB(n:Nat)(t:bT)(lot:bU)(d:bg)(r:bV):Bool:=
 bif r.kind==0 then XA n t lot d r else bif r.kind==1 then(kK d).any (λ v=>!UK (JQ lot.area).1 (Qs r) v)else bif r.kind==2 then(kK d).any (Nx r)else bif r.kind==3 then(kK d).any (Of t.built d.lot r)else false
theorem Lp{t:bT}(ht:yc t)(lot:bU):(pE t lot).length<=100:=Nat.le_trans (anJ _ _) ht.zones
theorem aj6{t:bT}{lot:bU}{d:bg}{r:bV}(ht:yc t)(hl:lot.area.length<=900)(hd:Zb d)(hv:∀v∈kK d,okV v=true)(hr:(toE (jp r)).wt<=4000000)(hn:J8 n):mJ n (sX t lot d) r=some (XB n t lot d r):=by
 obtain⟨hn1,hn2⟩:=hn;have hvl:=JR hd.1;have hz:=Lp ht lot;simp only[mJ,gM,XB];cases (r.kind==0)with
 |true=>
  have htb:=ht.plan.tabs;obtain⟨e1,e2,e3,e4,e5,e6,e7,e8,B4⟩:=aoq (n:=n) (p:=fS t) (lot:=lot) (d:=d) ⟨by have:=htb.1;omega,by have:=htb.1;omega,λx hx=>by have:=htb.2 x hx;omega⟩ hl hd.1 (by omega);have h1:=B4 t.bj;have h2:=B4 [];have h2':iW n (fS t) lot d=_:=h2;have h1':iW n (bq.mk t.cj t.ca t.b8 t.bj t.cw t.cm t.cD t.co) (bU.mk lot.id lot.owner lot.area lot.from_) (bg.mk d.lot d.phases)=_:=h1;obtain⟨v,hE⟩:=anQ (n:=n) (p:=fS t) (ms:=[⟨⟨#[97,114,101,97]⟩,e1⟩,⟨⟨#[99,111,118,101,114]⟩,e2⟩,⟨⟨#[102,108,111,111,114]⟩,e3⟩,⟨⟨#[102,108,111,111,114,115]⟩,e4⟩,⟨⟨#[104,101,105,103,104,116]⟩,e5⟩,⟨⟨#[104,111,109,101,115]⟩,e6⟩,⟨⟨#[114,117,110,111,102,102]⟩,e7⟩,⟨yB,qU (mZ lot) (fC d)⟩,⟨⟨#[116,114,97,102,102,105,99]⟩,e8⟩]) (zs:=pE t lot) (e:=jp r) ht.plan (by simp) (by omega) hr hn1 hn2;have hE':=(Xz (n:=n) (d:=t.cj) (ts:=t.ca) (z:=t.b8) (r:=t.bj) (r':=[]) (c:=t.cw) (v:=t.cm) (su:=t.cD) (h:=t.co) (zs:=pE t lot) (ms:=[⟨⟨#[97,114,101,97]⟩,e1⟩,⟨⟨#[99,111,118,101,114]⟩,e2⟩,⟨⟨#[102,108,111,111,114]⟩,e3⟩,⟨⟨#[102,108,111,111,114,115]⟩,e4⟩,⟨⟨#[104,101,105,103,104,116]⟩,e5⟩,⟨⟨#[104,111,109,101,115]⟩,e6⟩,⟨⟨#[114,117,110,111,102,102]⟩,e7⟩,⟨yB,qU (mZ lot) (fC d)⟩,⟨⟨#[116,114,97,102,102,105,99]⟩,e8⟩]) (e:=jp r) ht.plan.defs ht.plan.tabs (by simp) (by omega) hn1 hn2).trans hE;unfold jp at hE';simp only[aj,sX,h1',af,bZ,aD,hE',XA,h2',hE,Option.getD_some]
 |false=>
  cases (r.kind==1)with
  |true=>
   simp only[aj,ak,show(sX t lot d).km=lot.area from rfl,show(sX t lot d).cy=kK d from rfl,Om (n:=n) lot.area hl (by omega),af];rw[fV (λ v=>!UK (JQ lot.area).1 (Qs r) v) (λ v _=>ace v _ r (by omega)) (by omega) (by omega)];rfl
  |false=>
   cases (r.kind==2)with
   |true=>
    simp only[aj,ak,show(sX t lot d).cy=kK d from rfl];rw[fV (Nx r) (λ v hm=>acf (hv v hm) r) (by omega) (by omega)];rfl
   |false=>
    cases (r.kind==3)with
    |true=>
     simp only[aj,ak,show(sX t lot d).cy=kK d from rfl];rw[fV (Of t.built d.lot r) (λ v _=>aci (s:=sX t lot d) ht.built (by omega)) (by omega) (by omega)];rfl
    |false=>rfl
def addN(ab:U ByteArray)(name:ByteArray)(bad:Bool):U ByteArray:=bif bad&&!(ab.any (ll name))then ab++[name]else ab
theorem aeS(ab:U ByteArray)(name:ByteArray)(bad:Bool):(addN ab name bad).length<=ab.length+1:=by
 unfold addN;cases (bad&&!(ab.any (ll name)))<;>simp
theorem aeT{name:ByteArray}{bad:Bool}{ab:U ByteArray}(hl:ab.length<=1000)(hn:2000<=n):jD n name bad ab=some (addN ab name bad):=by
 have hmx:maxLen=9223372036854775807:=rfl;have hap:bP ab.length ab.length (sub [name] 0 1).length 1 16=true:=by simp[bP,sub];omega
 simp only[jD,bZ,aD,aj,uR (n:=n) (l:=ab) (a:=name) (by omega) (by omega),af,addN,hap,dR];cases bad with
 |false=>rfl
 |true=>cases (ab.any (ll name))<;>rfl
def XC(t:bT)(d:bg):Bool:=(kK d).any λv=>!KB t.bz d.lot (vC v)
def aj7:ByteArray:=⟨#[101,97,115,101,109,101,110,116]⟩
def IU(n:Nat)(t:bT)(lot:bU)(d:bg)(l:U bV):U ByteArray:=l.foldl (λ ab r=>addN ab r.name (XB n t lot d r)) []
theorem KS(f:bV->Bool):∀(l:U bV)(ab:U ByteArray),(l.foldl (λ ab r=>addN ab r.name (f r)) ab).length<=ab.length+l.length
 |[],ab=>by simp
 |r::l,ab=>by
  have h1:=KS f l (addN ab r.name (f r));have h2:=aeS ab r.name (f r);rw[foldl_cons,bJ];omega
def applied(t:bT)(lot:bU)(day:Int):U bV:=t.bj.filter (mY (pE t lot) day)
def kM(t:bT)(d:bg):bU:=(jv t.land d.lot).1
def AB(n:Nat)(t:bT)(d:bg)(day:Int):U ByteArray:=bif y9 n t d==0 then addN (IU n t (kM t d) d (applied t (kM t d) day)) aj7 (XC t d)else []
theorem aj8{t:bT}{d:bg}(day:Int)(ht:yc t)(hd:Zb d)(hn:J8 n):vQ n t d day=some (AB n t d day,y9 n t d):=by
 obtain⟨hk,hv⟩:=look_eq (n:=n) ht hd hn;have hn1:=hn.1;have hvl:=JR hd.1;simp only[vQ,hk,af,AB];by_cases h0:y9 n t d=0
 .have TE:(y9 n t d==0)=true:=by simp[h0]
  have TC:(y9 n t d !=0)=false:=by simp[h0]
  have hw:=Qq ht.lots d.lot;have hz:=Lp ht (kM t d);have hA:uf n (bq.mk t.cj t.ca t.b8 t.bj t.cw t.cm t.cD t.co) (pE t (kM t d)) day=some ((Qp t.bj (pE t (kM t d)) day).map λ(i:Nat)=>(i:Int)):=SG _ _ _ (λ r hr=>(ht.rule r hr).1) ht.rules hz (by omega);have hal:(Qp t.bj (pE t (kM t d)) day).length<=100:=Nat.le_trans (List.length_filter_le _ _) (by rw[List.length_range];exact ht.rules);have hpick:(Qp t.bj (pE t (kM t d)) day).filterMap (λ i=>t.bj[i]?)=applied t (kM t d) day:=R3 (mY (pE t (kM t d)) day) t.bj;have hloop:∀A:U Nat,A.length<=100->(∀ i∈A,i<t.bj.length)->iter (mV n t (sX t (kM t d) d,y9 n t d) (A.map λ(i:Nat)=>(i:Int))) n ((0:Int),([]:U ByteArray))=some (IU n t (kM t d) d (A.filterMap λi=>t.bj[i]?)):=by
   intro A hA hAr
   have key:=fE (l:=A) (step:=mV n t (sX t (kM t d) d,y9 n t d) (A.map λ(i:Nat)=>(i:Int))) (λ i (s:List ByteArray)=>((i:Int),s)) (λ i s=>match t.bj[i]? with
    |some r=>addN s r.name (XB n t (kM t d) d r)
    |none=>s) (λ s=>s) (λ i s=>s.length<=i) (λ i hi s hs=>by
    have hr:=hAr _ (getElem_mem hi);have hlm:(A.map λ(i:Nat)=>(i:Int)).length=A.length:=(by simp);have hg:bp (A.map λ(i:Nat)=>(i:Int)) (((0:Nat):Int)+(i:Int))=some ((A[i]:Nat):Int):=(by rw[aX (by omega)];simp);have hrr:=ht.rule _ (getElem_mem hr);have hb:=aj6 (n:=n) (t:=t) (lot:=kM t d) (d:=d) ht hw.1 hd (hv h0) hrr.2 hn;have e:=dL hr;simp only[mV,hlm,bI hi,aj,aU hi,hg,af,bf hr,hb,aD,aeT (n:=n) (name:=t.bj[A[i]].name) (bad:=XB n t (kM t d) d t.bj[A[i]]) (ab:=s) (by omega) (by omega),aK i,e];exact⟨trivial,Nat.le_trans (aeS _ _ _) (by omega)⟩) (λ s _=>by
    have hlm:(A.map λ(i:Nat)=>(i:Int)).length=A.length:=(by simp);simp only[mV,hlm,bS,ak,aD,aj]) n (by omega) [] (aC _)
   rw[show ((0:Nat):Int)=0 from rfl]at key;rw[key];congr 1;unfold IU;generalize ([]:U ByteArray)=s0;clear key hA
   induction A generalizing s0 with
   |nil=>rfl
   |cons a A ih=>
    have ha:=hAr a (by simp);rw[foldl_cons,List.filterMap_cons];simp only[dL ha];rw[foldl_cons];exact ih (λ i hi=>hAr i (by simp[hi])) _
  have hlo:=hloop (Qp t.bj (pE t (kM t d)) day) hal (λ i hi=>by
   have:=(List.mem_filter.1 hi).1;simpa using this)
  rw[hpick]at hlo;have hrl:(IU n t (kM t d) d (applied t (kM t d) day)).length<=100:=by
   have h1:=KS (XB n t (kM t d) d) (applied t (kM t d) day) [];have h2:(applied t (kM t d) day).length<=100:=Nat.le_trans (List.length_filter_le _ _) ht.rules;unfold IU;simp only[length_nil]at h1;omega
  have hany:gM n (sX t (kM t d) d) (λ (y1:aH×Unit)=>mU n y1.1 t d)=some (XC t d):=by
   have hs:∀v,mU n v t d=some (!KB t.bz d.lot (vC v)):=by
    intro v;have hl1:(vC v).length=1:=rfl;have h:=Y6 (n:=n) (l:=t.bz) (lot:=d.lot) (s:=vC v) ht.xr.1 ht.xr.2 (by simp[vC]) (by omega);simp only[mU,aeQ,af,bZ,aD,aj,h]
   simp only[gM,show(sX t (kM t d) d).cy=kK d from rfl];rw[fV (λ v=>!KB t.bz d.lot (vC v)) (λ v _=>hs v) (by omega) (by omega)];rfl
  have hsc:sX t (jv t.land d.lot).1 d=sX t (kM t d) d:=rfl;simp only[TE,TC,aj,ak,hsc,show(sX t (kM t d) d).zones=pE t (kM t d)from rfl,hA,af,length_nil,aD,hlo,hany,aeT (n:=n) (name:=⟨#[101,97,115,101,109,101,110,116]⟩) (bad:=XC t d) (ab:=IU n t (kM t d) d (applied t (kM t d) day)) (by omega) (by omega),bZ];rw[h0];rfl
 .have TE:(y9 n t d==0)=false:=by simpa using h0
  have TC:(y9 n t d !=0)=true:=by simpa using h0
  simp only[TE,TC,aj,ak]
theorem aj9{t:bT}{d:bg}(day:Int)(ht:yc t)(hd:Zb d)(hn:J8 n):gF n t d day=some ((y9 n t d==0)&&decide (AB n t d day=[])):=by
 simp only[gF,aj8 day ht hd hn,af];cases (y9 n t d==0)with
 |false=>rfl
 |true=>
  simp only[aj,Bool.true_and];cases AB n t d day with
  |nil=>rfl
  |cons x l=>
   have:(((x::l).length:Nat):Int)≠0:=(by simp;omega);rw[beq_eq_false_iff_ne.2 this];simp
theorem KT(r:ax):∃q,sK r=some q:=by rw[EN];cases ek r<;>exact⟨_,rfl⟩
theorem XD(r:ax):∃q,oZ r=some q:=by
 unfold oZ;have⟨q,hq⟩:=KT r;rw[hq];simp only[af]
 first |exact⟨_,rfl⟩ |(cases q.2<;>exact⟨_,rfl⟩)
theorem acj(r:ax)(d:Int):∃q,NI r d=some q:=by
 unfold NI;rw[iX];simp only[af];have key:∀c x:Bool,∃b,((bif c then some true else some x):J Bool)=some b:=λc x=>cZ ⟨_,rfl⟩ ⟨_,rfl⟩;have⟨b,hb⟩:=key (!ek r) (decide (d<0));rw[hb];cases b with
 |true=>exact⟨_,rfl⟩
 |false=>
  simp only[af,ak];have⟨q,hq⟩:=KT (ax.mk (i64.wrap (r.x0+(min d (1048576:Int)))) (i64.wrap (r.y0+(min d (1048576:Int)))) (i64.wrap (r.x1 -(min d (1048576:Int)))) (i64.wrap (r.y1 -(min d (1048576:Int)))));rw[hq];exact⟨_,rfl⟩
theorem aml{lot:bU}(ha:lot.area.length<=900)(hn:4000002<=n)(i:Int):∃q,nG n lot i=some q:=by
 unfold nG;rw[Om (n:=n) lot.area ha (by omega)];simp only[af];have key:∀c1 c2 c3:Bool,∃b,((bif c1 then some true else(bif c2 then some true else some c3)):J Bool)=some b:=λc1 c2 c3=>cZ ⟨_,rfl⟩ (cZ ⟨_,rfl⟩ ⟨_,rfl⟩);have⟨b,hb⟩:=key (!(JQ lot.area).2) (decide (i<0)) (decide (i>20));rw[hb];cases b with
 |true=>exact⟨_,rfl⟩
 |false=>
  simp only[af,ak];have⟨q,hq⟩:=acj (JQ lot.area).1 i;rw[hq];simp only[af];cases q.2 with
  |false=>exact⟨_,rfl⟩
  |true=>
   have hcl:=Oh (keep:=λp q=>p&&q) lot.area [q.1];have hc:=Og (n:=n) (a:=lot.area) (b:=[q.1]) (by omega) (by simp) (by omega) (by simp;omega) (by omega);have hA:=Lj (n:=n) (a:=(pu (λ p q=>p&&q) lot.area [q.1]).1) (by omega) (by omega);have⟨z,hz⟩:=XD q.1;simp only[Bool.not_true,ak,show ∀r:ax,sub [r] 0 1=[r]from λ_=>rfl,length_singleton,aD,aj,hc,af,hA,hz];cases ((pu (λ p q=>p&&q) lot.area [q.1]).2==0)<;>exact⟨_,rfl⟩
def iu(n:Nat)(lot:bU)(i:Int):ax×Bool:=(nG n lot i).getD (⟨0,0,0,0⟩,false)
theorem aiL{lot:bU}(ha:lot.area.length<=900)(hn:4000002<=n)(i:Int):nG n lot i=some (iu n lot i):=by
 have⟨q,hq⟩:=aml ha hn i;unfold iu;rw[hq];rfl
def Wk(r:ax):Int:=(oZ r).getD 0
theorem amn(r:ax):oZ r=some (Wk r):=by
 have⟨q,hq⟩:=XD r;unfold Wk;rw[hq];rfl
def uk(lot:bU)(fW:Int)(k:Nat):aS:=aS.mk lot.id (Int.tmod (k:Int) 6) (i64.wrap ((i64.wrap (Int.tdiv (k:Int) 6))+1)) fW
theorem akb(lot:bU)(v:Int)(l:U aS)(hl:l.length<=1000000)(hn:1000<=n):iter (lG lot v) n ((0:Int),l)=some (l++(List.range 72).map (uk lot v)):=by
 refine oF (step:=lG lot v) (λ i=>((i:Int),l++(List.range i).map (uk lot v))) (s:=((0:Int),l)) 72 (l++(List.range 72).map (uk lot v)) (by simp) (λ i hi=>?_) ?_ n (by omega)
 .have hap:bP (l++(List.range i).map (uk lot v)).length (l++(List.range i).map (uk lot v)).length 1 1 32=true:=dm (by simp;omega) (by simp only[maxLen,dM,length_map,List.length_range];omega);have hlt:decide ((i:Int)<72)=true:=by simp;omega
  simp only[lG,hlt,aj,show((6:Nat) !=0)=true from rfl,show((6:Int) !=0)=true from rfl,show ∀r:aS,sub [r] 0 1=[r]from λ_=>rfl,length_singleton,hap,dR,aD,aK i];rw[List.range_succ,map_append,<- aM];rfl
 .have hlt:decide (((72:Nat):Int)<72)=false:=by simp
  simp only[lG,hlt,ak,aD,aj]
abbrev Qt:=List (lC×Int)
def IV(n:Nat)(lot:bU)(i:Nat)(s:Qt×List aS):Qt×List aS:=
 bif(iu n lot (i:Int)).2 then(rP (Ho (X:=xx) SI.eo) (lC.mk lot.id (i:Int)) (Wk (iu n lot (i:Int)).1) s.1,s.2++(List.range 72).map (uk lot (i:Int)))else s
def zv(n:Nat)(lot:bU)(s:Qt×List aS):Qt×List aS:=(List.range 21).foldl (λ s i=>IV n lot i s) s
theorem aaN(n:Nat)(lot:bU)(i:Nat)(s:Qt×List aS):(IV n lot i s).2.length<=s.2.length+72:=by
 unfold IV;cases (iu n lot (i:Int)).2<;>simp
theorem aaO(n:Nat)(lot:bU):∀(l:U Nat)(s:Qt×List aS),(l.foldl (λ s i=>IV n lot i s) s).2.length<=s.2.length+72*l.length
 |[],s=>by simp
 |i::l,s=>by
  have h1:=aaO n lot l (IV n lot i s);have h2:=aaN n lot i s;rw[foldl_cons,bJ];omega
theorem akc{lot:bU}(ha:lot.area.length<=900)(hn:4000002<=n)(s:Qt×List aS)(hs:s.2.length<=900000):iter (lH n lot) n ((0:Int),s.1,s.2)=some (zv n lot s):=by
 have key:=fE (l:=List.range 21) (step:=lH n lot) (λ i (s:Qt×List aS)=>((i:Int),s.1,s.2)) (λ i s=>IV n lot i s) (λ s=>s) (λ i s=>s.2.length<=900000+72*i) (λ i hi s hs=>by
  rw[List.length_range]at hi;have hlt:decide ((i:Int)<21)=true:=by simp;omega
  have hg:(List.range 21)[i]'(by rw[List.length_range];exact hi)=i:=List.getElem_range _;rw[hg];refine⟨?_,by have:=aaN n lot i s;show(IV n lot i s).2.length<=_;omega⟩;simp only[lH,hlt,aj,aiL ha hn,af,IV];cases hb:(iu n lot (i:Int)).2 with
  |false=>simp only[Bool.not_false,aj,ak,aD,af,aK i]
  |true=>simp only[Bool.not_true,aj,ak,amn,af,aD,akb (n:=n) lot (i:Int) s.2 (by omega) (by omega),aK i]) (λ s _=>by
  have hlt:decide (((List.range 21).length:Int)<21)=false:=by simp
  simp only[lH,hlt,ak,aD,aj]) n (by rw[List.length_range];omega) s (by simpa using hs)
 exact key
def R6(lot:bU)(seen:U (Int×Bool)):Bool:=(fP ju lot.id seen).getD false || (decide (lot.id<0) || decide (lot.id>1073741824))
abbrev ye:=Qt×List (Int×Bool)×List aS
def za(n:Nat)(lot:bU)(s:ye):ye:=
 bif R6 lot s.2.1 then s else((zv n lot (s.1,s.2.2)).1,rP ju lot.id true s.2.1,(zv n lot (s.1,s.2.2)).2)
def zb(n:Nat)(land:U bU):ye:=land.foldl (λ s lot=>za n lot s) ([],[],[])
theorem amo(n:Nat)(lot:bU)(s:Qt×List aS):(zv n lot s).2.length<=s.2.length+1512:=by
 have:=aaO n lot (List.range 21) s;rw[List.length_range]at this;unfold zv;omega
theorem aaP(n:Nat)(lot:bU)(s:ye):(za n lot s).2.2.length<=s.2.2.length+1512:=by
 have:=amo n lot (s.1,s.2.2);unfold za;cases R6 lot s.2.1
 .exact this
 .simp
theorem XE(n:Nat):∀(land:U bU)(s:ye),(land.foldl (λ s lot=>za n lot s) s).2.2.length<=s.2.2.length+1512*land.length
 |[],s=>by simp
 |lot::l,s=>by
  have h1:=XE n l (za n lot s);have h2:=aaP n lot s;rw[foldl_cons,bJ];omega
def dD(n:Nat)(land:U bU):U aS:=lu (α:=aS) (Nq vA (zb n land).1) (zb n land).2.2
theorem wR(n:Nat)(land:U bU):(dD n land).Perm (zb n land).2.2:=K9 (α:=aS) (WQ vA (zb n land).1) _
theorem aaQ{land:U bU}(ha:∀l∈land,l.area.length<=900)(hl:land.length<=500)(hn:4000002<=n):o6 n land=some (dD n land):=by
 have key:=fE (l:=land) (step:=lI n land) (λ i (s:ye)=>((i:Int),s.1,s.2.1,s.2.2)) (λ lot s=>za n lot s) (λ s=>(s.1,s.2.2)) (λ i s=>s.2.2.length<=1512*i) (λ i hi s hs=>by
  refine⟨?_,by have:=aaP n land[i] s;show(za n land[i] s).2.2.length<=_;omega⟩;simp only[lI,bI hi,aj,bf hi,af,za];have hk:((bif ((fP ju land[i].id s.2.1).getD false)then some true else(bif (decide (land[i].id<(0:Int)))then some true else some (decide (land[i].id>(1073741824:Int))))):J (Bool))=some (R6 land[i] s.2.1):=by
   unfold R6;cases (fP ju land[i].id s.2.1).getD false<;>cases decide (land[i].id<(0:Int))<;>rfl
  rw[hk];cases hb:R6 land[i] s.2.1 with
  |true=>simp only[af,aj,aD,aK i]
  |false=>simp only[af,ak,aj,aD,akc (n:=n) (ha _ (getElem_mem hi)) hn (s.1,s.2.2) (by show s.2.2.length<=_;omega),aK i]) (λ s _=>by simp only[lI,bS,ak,aD,aj]) n (by omega) ([],[],[]) (by simp)
 have hz:az 0 ([]:U aS).length=true:=rfl;rw[show ((0:Nat):Int)=0 from rfl]at key;have hlen:=XE n land ([],[],[]);have apT:(zb n land).2.2.length<=1512*land.length:=by unfold zb;simpa using hlen
 have hS:=(wR n land).length_eq;have hps:aiy (zb n land).2.2 (zb n land).1=some (dD n land,(zb n land).1):=by exact @rN xx SI.j8 SI.eo (inferInstance:Inhabited aS) vA (zb n land).2.2 (zb n land).1 (show List.length (zb n land).2.2<=_ by omega)
 have key':iter (lI n land) n ((0:Int),([]:U (lC×Int)),([]:U (Int×Bool)),([]:U aS))=some ((zb n land).1,(zb n land).2.2):=key;unfold o6;rw[hz,key'];simp only[aj,af,aD,hps,<- hS,bZ]
theorem amq{lot:bU}{s:Qt×List aS}{p:aS}(h:p∈(zv n lot s).2):p∈s.2\/∃i k:Nat,i<21/\k<72/\(iu n lot (i:Int)).2=true/\p=uk lot (i:Int) k:=by
 have gen:∀(l:U Nat)(s:Qt×List aS),(∀ i∈l,i<21)->p∈(l.foldl (λ s i=>IV n lot i s) s).2->p∈s.2\/∃i k:Nat,i<21/\k<72/\(iu n lot (i:Int)).2=true/\p=uk lot (i:Int) k:=by
  intro l
  induction l with
  |nil=>intro s _ h;exact .inl h
  |cons i l ih=>
   intro s hl h;rcases ih (IV n lot i s) (λ j hj=>hl j (by simp[hj])) h with h |h
   .unfold IV at h;cases hb:(iu n lot (i:Int)).2 with
    |false=>rw[hb]at h;exact .inl h
    |true=>
     rw[hb]at h;simp only[aj,aZ,mem_map,List.mem_range]at h;rcases h with h |⟨k,hk,rfl⟩
     .exact .inl h
     .exact .inr ⟨i,k,hl i (by simp),hk,hb,rfl⟩
   .exact .inr h
 exact gen (List.range 21) s (λ i hi=>List.mem_range.1 hi) h
theorem aaR(k k':Int)(v:Bool):∀l:U (Int×Bool),fP ju k (rP ju k' v l)=if k=k' then some v else fP ju k l
 |[]=>by
  show(bif ju k k' then some v else fP ju k [])=_;by_cases h:k=k'
  .subst h;simp[ju]
  .have e2:ju k k'=false:=(by simp[ju,h]);rw[e2,aR h];rfl
 |p::l=>by
  have ih:=aaR k k' v l;show fP ju k (bif ju k' p.1 then(k',v)::l else p::rP ju k' v l)=_;by_cases h1:k'=p.1
  .have e1:ju k' p.1=true:=(by simp[ju,h1]);rw[e1];show(bif ju k k' then some v else fP ju k l)=if k=k' then some v else(bif ju k p.1 then some p.2 else fP ju k l)
   by_cases h:k=k'
   .subst h;simp[ju]
   .have e2:ju k k'=false:=(by simp[ju,h]);have e3:ju k p.1=false:=(by rw[<- h1];exact e2);rw[e2,e3,aR h];rfl
  .have e1:ju k' p.1=false:=(by simp[ju,h1]);rw[e1];show(bif ju k p.1 then some p.2 else fP ju k (rP ju k' v l))=if k=k' then some v else(bif ju k p.1 then some p.2 else fP ju k l)
   rw[ih];by_cases h:k=k'
   .subst h;rw[e1];simp
   .rw[aR h,aR h]
structure OfP(n:Nat)(land:List bU)(p:aS)(lot:bU):Prop where
 T3:land.find? (λ x=>x.id==p.lot)=some lot
 id0:0<=lot.id
 id1:lot.id<=1073741824
 ex:∃i k:Nat,i<21/\k<72/\(iu n lot (i:Int)).2=true/\p=uk lot (i:Int) k
theorem aiM(n:Nat)(land:U bU):∀i,i<=land.length->(∀ p∈((land.take i).foldl (λ s lot=>za n lot s) (([],[],[]):ye)).2.2,∃lot,OfP n land p lot)/\
 (∀ j (hj:j<land.length),j<i->0<=land[j].id->land[j].id<=1073741824->fP ju land[j].id ((land.take i).foldl (λ s lot=>za n lot s) (([],[],[]):ye)).2.1=some true)
 | 0,_=>by simp
 |i+1,hi=>by
  obtain⟨h1,h2⟩:=aiM n land i (by omega);rw[gB (show i<land.length by omega),List.foldl_append];generalize hs:(land.take i).foldl (λ s lot=>za n lot s) (([],[],[]):ye)=s at h1 h2;simp only[foldl_cons,List.foldl_nil];have hi':i<land.length:=by omega
  cases hb:R6 land[i] s.2.1 with
  |true=>
   have e:za n land[i] s=s:=(by unfold za;rw[hb];rfl);rw[e];refine⟨h1,λj hj hji h0 h3=>?_⟩;rcases Nat.lt_or_ge j i with h |h
   .exact h2 j hj h h0 h3
   .obtain rfl:j=i:=(by omega);unfold R6 at hb;have e1:decide (land[j].id<0)=false:=(by simp;omega);have e2:decide (land[j].id>1073741824)=false:=(by simp;omega);rw[e1,e2]at hb;simp only[Bool.or_false]at hb;cases hm:fP ju land[j].id s.2.1 with
    |none=>rw[hm]at hb;cases hb
    |some b=>rw[hm]at hb;simp only[Option.getD_some]at hb;rw[hb]
  |false=>
   have e:za n land[i] s=((zv n land[i] (s.1,s.2.2)).1,rP ju land[i].id true s.2.1,(zv n land[i] (s.1,s.2.2)).2):=(by unfold za;rw[hb];rfl);rw[e];simp only[R6,Bool.or_eq_false_iff,dO]at hb;obtain⟨b1,b2,b3⟩:=hb;refine⟨λ p hp=>?_,λj hj hji h0 h3=>?_⟩
   .rcases amq hp with hp |⟨a,k,ha,hk,hbs,rfl⟩
    .exact h1 p hp
    .refine⟨land[i],?_,by omega,by omega,a,k,ha,hk,hbs,rfl⟩;rw[List.find?_eq_some_iff_getElem];refine⟨by simp[uk],i,hi',rfl,λj hj=>?_⟩;simp only[uk,Bool.not_eq_true',beq_eq_false_iff_ne];intro hj2;have:=h2 j (by omega) hj (by rw[hj2];omega) (by rw[hj2];omega);rw[hj2]at this;rw[this]at b1;cases b1
   .show fP ju land[j].id (rP ju land[i].id true s.2.1)=some true;rw[aaR];by_cases hij:land[j].id=land[i].id
    .rw[aY hij]
    .rw[aR hij];rcases Nat.lt_or_ge j i with h |h
     .exact h2 j hj h h0 h3
     .obtain rfl:j=i:=(by omega);exact absurd rfl hij
theorem aaS{land:U bU}{p:aS}(h:p∈dD n land):∃lot,OfP n land p lot:=by
 have h1:=(wR n land).mem_iff.1 h;have:=(aiM n land land.length (aC _)).1 p;rw[List.take_length]at this;exact this h1
def apH(r:ax)(p:aS):aH:=aH.mk r.x0 r.y0 r.x1 r.y1 0 (i64.wrap (p.floors*3)) p.use (bif (p.use==(0:Int))then p.floors else 0) false
def XF(n:Nat)(lot:bU)(p:aS):bg:=bg.mk p.lot [ql.mk [apH (iu n lot p.fW).1 p] []]
def Ot(n:Nat)(lot:bU)(p:aS):Bool:=(iu n lot p.fW).2&&(decide (p.lot=lot.id)&&(decide (0<=p.lot)&&(decide (p.lot<=1073741824)&&(decide (0<=p.use)&&(decide (p.use<6)&&(decide (1<=p.floors)&&decide (p.floors<=12)))))))
theorem aeV{lot:bU}(ha:lot.area.length<=900)(hn:4000002<=n)(p:aS):qG n lot p=some (bif Ot n lot p then(XF n lot p,true)else(bg.mk 0 [],false)):=by
 unfold qG;rw[aiL ha hn];simp only[af];have hk:((bif (!(iu n lot p.fW).2)then some true else(bif (p.lot !=(lot.id:Int))then some true else(bif (decide (p.lot<(0:Int)))then some true else(bif (decide (p.lot>(1073741824:Int)))then some true else(bif (decide (p.use<(0:Int)))then some true else(bif (decide (p.use>=(6:Int)))then some true else(bif (decide (p.floors<(1:Int)))then some true else some (decide (p.floors>(12:Int)))))))))):J (Bool))=some (!Ot n lot p):=by
  unfold Ot;have e1:(p.lot !=lot.id)=!decide (p.lot=lot.id):=by rw[j5];simp
  have e2:decide (p.lot<0)=!decide (0<=p.lot):=by rw[<- decide_not,decide_eq_decide];omega
  have e3:decide (p.lot>1073741824)=!decide (p.lot<=1073741824):=by rw[<- decide_not,decide_eq_decide];omega
  have e4:decide (p.use<0)=!decide (0<=p.use):=by rw[<- decide_not,decide_eq_decide];omega
  have e5:decide (p.use>=6)=!decide (p.use<6):=by rw[<- decide_not,decide_eq_decide];omega
  have e6:decide (p.floors<1)=!decide (1<=p.floors):=by rw[<- decide_not,decide_eq_decide];omega
  have e7:decide (p.floors>12)=!decide (p.floors<=12):=by rw[<- decide_not,decide_eq_decide];omega
  rw[e1,e2,e3,e4,e5,e6,e7];cases (iu n lot p.fW).2<;>cases decide (p.lot=lot.id)<;>cases decide (0<=p.lot)<;>cases decide (p.lot<=1073741824)<;>cases decide (0<=p.use)<;>cases decide (p.use<6)<;>cases decide (1<=p.floors)<;>rfl
 rw[hk];cases Ot n lot p with
 |false=>rfl
 |true=>
  simp only[Bool.not_true,af,ak,aj,XF,apH];cases (p.use==(0:Int))<;>rfl
theorem aiN{land:U bU}{p:aS}{lot:bU}(h:OfP n land p lot):Ot n lot p=true:=by
 obtain⟨h1,h2,h3,i,k,hi,hk,hb,rfl⟩:=h;have e1:Int.tmod (k:Int) 6=((k%6:Nat):Int):=by rw[show (6:Int)=((6:Nat):Int)from rfl,<- Int.ofNat_tmod]
 have e2:Int.tdiv (k:Int) 6=((k/6:Nat):Int):=by rw[show (6:Int)=((6:Nat):Int)from rfl,<- Int.ofNat_tdiv]
 have e3:i64.wrap ((i64.wrap (Int.tdiv (k:Int) 6))+1)=((k/6+1:Nat):Int):=by rw[e2,Nc (by omega),bL (by omega)]
 simp only[Ot,uk,e1,e3,hb,Bool.true_and,aL,aV];refine⟨trivial,h2,h3,?_,?_,?_,?_⟩<;>omega
theorem aiO(n:Nat)(lot:bU)(p:aS):Zb (XF n lot p):=by refine⟨⟨by simp[XF],λq hq=>?_⟩,λq hq=>?_⟩<;> · simp only[XF,aQ]at hq;subst hq;simp
theorem aeW:Zb (bg.mk 0 []):=by refine⟨⟨by simp,λq hq=>?_⟩,λq hq=>?_⟩<;>simp at hq
def XG:aS:=aS.mk 0 0 0 0
def XH(n:Nat)(t:bT)(d:bg)(day:Int):Bool:=(y9 n t d==0)&&decide (AB n t d day=[])
theorem UL{t:bT}{d:bg}(day:Int)(ht:yc t)(hd:Zb d)(hn:J8 n):gF n t d day=some (XH n t d day):=aj9 day ht hd hn
def Fy(land:U bU):Prop:=(∀ l∈land,l.area.length<=900)/\land.length<=500
def sS(n:Nat)(land:U bU)(p:aS):bg×Bool:=match land.find? λx=>x.id==p.lot with
 |none=>(bg.mk 0 [],false)
 |some lot=>bif Ot n lot p then(XF n lot p,true)else(bg.mk 0 [],false)
theorem IW(n:Nat)(land:U bU)(p:aS):Zb (sS n land p).1:=by
 unfold sS;split
 .exact aeW
 .rename_i lot _;cases Ot n lot p
  .exact aeW
  .exact aiO _ _ _
theorem aiP{t:bT}(h:Fy t.land)(hn:4000002<=n)(p:aS):tV n t p=some (sS n t.land p):=by
 unfold tV;have hl:=h.2;have hi:vg n t.land (λ (y1:bU×Unit)=>q9 y1.1 p)=some (xD (λ x:bU=>x.id==p.lot) t.land):=gG (l:=t.land) (φ:=λ(y1:bU×Unit)=>q9 y1.1 p) (λ x:bU=>x.id==p.lot) (λ _ _=>rfl) (by omega) (by omega);rw[hi];simp only[af,alk];unfold sS;cases ha:t.land.any λx:bU=>x.id==p.lot with
 |false=>
  have:t.land.find? (λ x=>x.id==p.lot)=none:=by
   rw[List.find?_eq_none];intro x hx hc;have:=List.any_eq_false.1 ha x hx;exact this hc
  rw[this];rfl
 |true=>
  have⟨i,hi,e,hf⟩:=ad1 ha;rw[e,hf];simp only[Bool.not_true,ak,bf hi,af,aeV (n:=n) (h.1 _ (getElem_mem hi)) hn p,show ∀k:Nat,decide ((k:Int)<0)=false from λk=>by simp]
theorem Lr{land:U bU}{p:aS}(h:p∈dD n land):(sS n land p).2=true:=by
 have⟨lot,hp⟩:=aaS h;unfold sS;rw[hp.T3];simp only[aiN hp,aj]
def qV(n:Nat)(land:U bU)(p:aS):sI:=sI.mk p.lot p.use p.floors p.fW (sS n land p).1.lot (sS n land p).1.phases
theorem EY(n:Nat)(land:U bU)(h:land.length<=500):(dD n land).length<=756000:=by
 have h1:=(wR n land).length_eq;have h2:=XE n land ([],[],[]);have h3:(zb n land).2.2.length<=1512*land.length:=by unfold zb;simpa using h2
 omega
theorem aeX{t:bT}(h:Fy t.land)(hn:4000002<=n):qH n t=some ((dD n t.land).map (qV n t.land)):=by
 have hlen:=EY n t.land h.2;unfold qH;rw[aaQ h.1 h.2 hn];have hmem:∀p∈dD n t.land,(sS n t.land p).2=true:=λp hp=>Lr hp;generalize dD n t.land=L at hlen hmem;have key:=oF (step:=pU n t L) (λ i=>((i:Int),(L.take i).map (qV n t.land))) (s:=((0:Int),([]:U sI))) L.length (L.map (qV n t.land)) rfl (λ i hi=>by
  have hm:=hmem _ (getElem_mem hi);have hap:bP ((L.take i).map (qV n t.land)).length ((L.take i).map (qV n t.land)).length 1 1 64=true:=dm (by simp;omega) (by simp only[maxLen,length_map,length_take];omega);simp only[pU,bI hi,aj,aU hi,aX hi,af,aiP h hn,hm,show ∀r:sI,sub [r] 0 1=[r]from λ_=>rfl,length_singleton,hap,dR,aD,aK i];rw[gB hi,map_append];rfl) (by simp only[pU,bS,ak,aD,aj,List.take_length]) n (by omega)
 have hz:az 0 ([]:U sI).length=true:=rfl;simp only[af,hz,aj,key,bZ,aD]
def bo(t:bT)(p:bq):bT:=bT.mk p.defs p.tables p.zones p.rules p.caps p.views p.nr p.hours t.land t.bz t.windows t.built t.base
def gH(n:Nat)(t:bT)(day:Int)(pl:bq)(p:aS):Bool:=XH n (bo t pl) (sS n t.land p).1 day
def rY(l:U aS)(q:aS->Bool):aS×Bool:=match l.find? q with
 |some p=>(p,true)
 |none=>(XG,false)
theorem anR{t:bT}{day:Int}{ps:U bq}{p:aS}(hp:∀q∈ps,yc (bo t q))(hl:ps.length<=1000)(hn:J8 n):iter (og n t day ps (qV n t.land p)) n ((0:Int),([]:U Bool))=some (ps.map λq=>gH n t day q p):=by
 have hn1:=hn.1;exact oF (step:=og n t day ps (qV n t.land p)) (λ i=>((i:Int),(ps.take i).map λq=>gH n t day q p)) (s:=((0:Int),([]:U Bool))) ps.length (ps.map λq=>gH n t day q p) rfl (λ i hi=>by
  have hap:bP ((ps.take i).map λq=>gH n t day q p).length ((ps.take i).map λq=>gH n t day q p).length 1 1 1=true:=dm (by simp;omega) (by simp only[maxLen,length_map,length_take];omega);have hu:witness_under t ps[i]=some (bo t ps[i]):=rfl;have hL:gF n (bo t ps[i]) (bg.mk (qV n t.land p).cz (qV n t.land p).cP) day=some (gH n t day ps[i] p):=UL (d:=(sS n t.land p).1) day (hp _ (getElem_mem hi)) (IW n t.land p) hn;simp only[og,bI hi,aj,bf hi,af,hu,hL,show ∀r:Bool,sub [r] 0 1=[r]from λ_=>rfl,length_singleton,hap,dR,aD,aK i];rw[gB hi,map_append];rfl) (by simp only[og,bS,ak,aD,aj,List.take_length]) n (by omega)
theorem find_eq{t:bT}{day:Int}{φ:((List Bool)×Unit)->J Bool}{ps:U bq}(q:U Bool->Bool)(hφ:∀v,v.length=ps.length->φ (v,())=some (q v))(h:Fy t.land)(hp:∀q∈ps,yc (bo t q))(hl:ps.length<=1000)(hn:J8 n):
 qa n t day φ ps=some (rY (dD n t.land) λp=>q (ps.map λpl=>gH n t day pl p)):=by
 have hn1:=hn.1;have hlen:=EY n t.land h.2;unfold qa;rw[aeX h (by omega)];generalize dD n t.land=L at hlen;have hz:az 0 ([]:U Bool).length=true:=rfl;have key:=pM (l:=L) (step:=rF n t day φ ps (L.map (qV n t.land))) (λ i=>(i:Int)) (λ p=>q (ps.map λpl=>gH n t day pl p)) () (λ i=>((L[i]?).getD XG,true)) (λ i hi=>by
  have hi':i<(L.map (qV n t.land)).length:=by simpa using hi
  have hg:(L.map (qV n t.land))[i]=qV n t.land L[i]:=by simp
  simp only[rF,bI hi',aj,aU hi',aX hi',hg,af,hz,anR (n:=n) (t:=t) (day:=day) (ps:=ps) (p:=L[i]) hp hl hn,bZ,aD,hφ _ (length_map _),aK i,dL hi,Option.getD_some];cases q (ps.map λpl=>gH n t day pl L[i])<;>rfl) (by
  have e:L.length=(L.map (qV n t.land)).length:=by simp
  rw[e];simp only[rF,bS,ak]) n (by omega)
 rw[show ((0:Nat):Int)=0 from rfl]at key;simp only[af,key];unfold rY;rcases Ll (λ p=>q (ps.map λpl=>gH n t day pl p)) L with ⟨i,hi,h1,h2⟩ |⟨h1,h2⟩
 .rw[h1,h2];simp only[dL hi,Option.getD_some,iD]
 .rw[h1,h2];rfl
theorem amr{t:bT}{a b:bq}{day:Int}(h:Fy t.land)(ha:yc (bo t a))(hb:yc (bo t b))(hn:J8 n):jY n t a b day=some (rY (dD n t.land) λp=>!(gH n t day a p==gH n t day b p)):=by
 have e:=find_eq (n:=n) (t:=t) (day:=day) (φ:=λ(y1:(List Bool)×Unit)=>vw y1.1) (ps:=[a,b]) (λ v=>match v with |[x,y]=>!(x==y) |_=>false) (λ v hv=>by
  match v,hv with
  |[x,y],_=>rfl) h (λ q hq=>by simp only[aN,fD,or_false]at hq;rcases hq with rfl |rfl<;>assumption) (by simp) hn
 unfold jY;rw[show sub [a,b] 0 2=[a,b]from rfl,show az [a,b].length 2=true from rfl,e];rfl
theorem aeY{t:bT}{a b:bq}{day:Int}(h:Fy t.land)(ha:yc (bo t a))(hb:yc (bo t b))(hn:J8 n):gP n t a b day=some (!(rY (dD n t.land) λp=>gH n t day a p&&!gH n t day b p).2):=by
 have e:=find_eq (n:=n) (t:=t) (day:=day) (φ:=λ(y1:(List Bool)×Unit)=>qz y1.1) (ps:=[a,b]) (λ v=>match v with |[x,y]=>x&&!y |_=>false) (λ v hv=>by
  match v,hv with
  |[x,y],_=>cases x<;>rfl) h (λ q hq=>by simp only[aN,fD,or_false]at hq;rcases hq with rfl |rfl<;>assumption) (by simp) hn
 unfold gP;rw[show sub [a,b] 0 2=[a,b]from rfl,show az [a,b].length 2=true from rfl,e];rfl
def XI(x a b m:Bool):Bool:=!(m==bif !(a==x)then a else b)
theorem ams{t:bT}{x a b m:bq}{day:Int}(h:Fy t.land)(hx:yc (bo t x))(ha:yc (bo t a))(hb:yc (bo t b))(hm:yc (bo t m))(hn:J8 n):
 gZ n t x a b m day=some (rY (dD n t.land) λp=>XI (gH n t day x p) (gH n t day a p) (gH n t day b p) (gH n t day m p)):=by
 have e:=find_eq (n:=n) (t:=t) (day:=day) (φ:=λ(y1:(List Bool)×Unit)=>vz y1.1) (ps:=[x,a,b,m]) (λ v=>match v with |[x,a,b,m]=>XI x a b m |_=>false) (λ v hv=>by
  match v,hv with
  |[x,a,b,m],_=>cases x<;>cases a<;>cases b<;>cases m<;>rfl) h (λ q hq=>by simp only[aN,fD,or_false]at hq;rcases hq with rfl |rfl |rfl |rfl<;>assumption) (by simp) hn
 unfold gZ;rw[show sub [x,a,b,m] 0 4=[x,a,b,m]from rfl,show az [x,a,b,m].length 4=true from rfl,e];rfl
theorem aha{t:bT}{a:bq}{p:aS}{day:Int}(h:Fy t.land)(ha:yc (bo t a))(hn:J8 n):mW n t a p day=some ((sS n t.land p).2&&gH n t day a p):=by
 have hn1:=hn.1;have hu:witness_under t a=some (bo t a):=rfl;unfold mW;rw[aiP h (by omega)];simp only[af,hu,UL day ha (IW n t.land p) hn];cases (sS n t.land p).2<;>rfl
theorem IX{t:bT}{a:bq}{day:Int}(h:Fy t.land)(ha:yc (bo t a))(hn:J8 n):gQ n t a day=some ((dD n t.land).map (gH n t day a)):=by
 have hn1:=hn.1;have hlen:=EY n t.land h.2;unfold gQ;rw[aeX h (by omega)];generalize dD n t.land=L at hlen;have key:=oF (step:=mK n t a day (L.map (qV n t.land))) (λ i=>((i:Int),(L.take i).map (gH n t day a))) (s:=((0:Int),([]:U Bool))) L.length (L.map (gH n t day a)) rfl (λ i hi=>by
  have hi':i<(L.map (qV n t.land)).length:=by simpa using hi
  have hg:(L.map (qV n t.land))[i]=qV n t.land L[i]:=by simp
  have hap:bP ((L.take i).map (gH n t day a)).length ((L.take i).map (gH n t day a)).length 1 1 1=true:=dm (by simp;omega) (by simp only[maxLen,length_map,length_take];omega);have hu:witness_under t a=some (bo t a):=rfl;have hL:gF n (bo t a) (bg.mk (qV n t.land L[i]).cz (qV n t.land L[i]).cP) day=some (gH n t day a L[i]):=UL (d:=(sS n t.land L[i]).1) day ha (IW n t.land L[i]) hn;simp only[mK,bI hi',aj,aU hi',aX hi',hg,af,hu,hL,show ∀r:Bool,sub [r] 0 1=[r]from λ_=>rfl,length_singleton,hap,dR,aD,aK i];rw[gB hi,map_append];rfl) (by
  have e:L.length=(L.map (qV n t.land)).length:=by simp
  rw[e];simp only[mK,bS,ak,aD,aj,<- e,List.take_length]) n (by omega)
 have hz:az 0 ([]:U Bool).length=true:=rfl;simp only[af,hz,aj,key,bZ,aD]
theorem ack(l:U aS)(q:aS->Bool):(∃ p,l.find? q=some p/\rY l q=(p,true)/\p∈l/\q p=true)\/(rY l q=(XG,false)/\∀p∈l,q p=false):=by
 unfold rY;cases h:l.find? q with
 |none=>exact .inr ⟨rfl,λp hp=>by have:=List.find?_eq_none.1 h p hp;simpa using this⟩
 |some p=>exact .inl ⟨p,rfl,rfl,List.mem_of_find?_eq_some h,List.find?_some h⟩
theorem aeZ{l:U aS}{q:aS->Bool}(h:∀p∈l,q p=false):rY l q=(XG,false):=by
 unfold rY;rw[List.find?_eq_none.2 λp hp=>by rw[h p hp];decide]
theorem Ou(j:Nat):decide (((j+1:Nat):Int)>0)=true:=by simp
theorem ae0:decide (((0:Nat):Int)>0)=false:=rfl
theorem pred_succ{j:Nat}(h:j<9223372036854775807):i64.wrap (((j+1:Nat):Int) -1)=(j:Int):=by rw[mQ (by omega) (by omega)];simp
theorem Qu{i n:Nat}(h:¬i<n):decide ((i:Int)<(n:Int))=false:=by simp;omega
theorem aiQ(c1 c2:Bool):∃b,((bif c1 then some true else some c2):J Bool)=some b:=cZ ⟨_,rfl⟩ ⟨_,rfl⟩
theorem qs2{a0 v2:U Int}{k:Nat}(hk:k<a0.length)(hl:v2.length<=1000)(hn:2000<=n):∃w:Nat,iter (qM a0 (k:Int) v2) n (v2.length:Int)=some (w:Int)/\w<=v2.length:=by
 obtain⟨o,h1,w,rfl,h2⟩:=EK (step:=qM a0 (k:Int) v2) (λ v=>∃j:Nat,v=(j:Int)/\j<=v2.length) (λ o=>∃j:Nat,o=(j:Int)/\j<=v2.length) Int.toNat (by
  rintro v ⟨j,rfl,hj⟩;cases j with
  |zero=>simp only[qM,ae0,ak,af];exact .inr ⟨_,rfl,0,rfl,hj⟩
  |succ j=>
   have hj':j<v2.length:=hj;simp only[qM,Ou,aj,pred_succ (show j<9223372036854775807 by omega),aU hj',aX hj',bf hk,af];cases decide (v2[j]>a0[k])with
   |false=>exact .inr ⟨_,rfl,j+1,rfl,hj⟩
   |true=>exact .inl ⟨_,rfl,⟨j,rfl,by omega⟩,by omega⟩) n _ ⟨_,rfl,aC _⟩ (by omega)
 exact⟨w,h1,h2⟩
theorem qs3{r1:U Int}{w m:Nat}(hm:r1.length=m+1)(hw:w<=m)(hl:m<=1000)(hn:2000<=n):∃o,iter (qN (w:Int) r1) n (i64.wrap ((r1.length:Int) -1),r1)=some o/\o.length=r1.length:=by
 rw[hm,pred_succ (by omega)];obtain⟨o,h1,h2⟩:=EK (step:=qN (w:Int) r1) (λ v=>∃j:Nat,v.1=(j:Int)/\w<=j/\j<=m/\v.2.length=r1.length) (λ o=>o.length=r1.length) (λ v=>v.1.toNat) (by
  rintro⟨v,l⟩ ⟨j,rfl,hj,hjm,hlen⟩;simp only at hlen;by_cases h:w<j
  .obtain⟨j,rfl⟩:∃i,j=i+1:=⟨j -1,by omega⟩;have e:decide (((j+1:Nat):Int)>(w:Int))=true:=(by simp;omega);have a1:j<r1.length:=(by omega);have a2:j<l.length:=(by omega);have a3:j+1<r1.length:=(by omega);have a4:j+1<l.length:=(by omega);simp only[qN,e,aj,pred_succ (show j<9223372036854775807 by omega),aU a1,aX a2,aU a3,aX a4,af];exact .inl ⟨_,rfl,⟨j,rfl,by omega,by omega,by simpa using hlen⟩,by simp⟩
  .have e:decide ((j:Int)>(w:Int))=false:=(by simp;omega);simp only[qN,e,ak];exact .inr ⟨_,rfl,hlen⟩) n ((m:Int),r1) ⟨m,rfl,hw,aC _,rfl⟩ (by simp;omega)
 rw[<- hm];exact⟨o,h1,h2⟩
theorem amt{a0:U Int}(hl:a0.length<=1000)(hn:2000<=n):∃o,EC n a0=some o/\o.length<=a0.length:=by
 obtain⟨o,h1,h2⟩:=dH (step:=vS n a0) (λ i (v:Int×List Int)=>v.1=(i:Int)/\i<=a0.length/\v.2.length<=i) (λ o=>o.length<=a0.length) a0.length (λ k v h=>h.2.1) (by
  rintro i ⟨v,l⟩ ⟨hv,hi,rm⟩;simp only at hv rm;subst hv;by_cases hlt:i<a0.length
  .obtain⟨w,e1,hw⟩:=qs2 (n:=n) (v2:=l) hlt (by omega) hn;have hv5:∃b,((bif (decide ((w:Int)>(0:Int)))then(ck (cC (i64.wrap ((w:Int) -1)) l.length) ((bp l ((0:Nat)+(i64.wrap ((w:Int) -1)):Int)).bind λx3=>some (x3==a0[i])))else some false):J Bool)=some b:=by
    cases w with
    |zero=>exact⟨false,rfl⟩
    |succ w=>
     have hw':w<l.length:=hw;simp only[Ou,aj,pred_succ (show w<9223372036854775807 by omega),aU hw',aX hw',af];exact⟨_,rfl⟩
   obtain⟨b,e2⟩:=hv5;have hap:bP l.length l.length 1 1 8=true:=dm (by omega) (by simp only[maxLen];omega);obtain⟨o,e3,ho⟩:=qs3 (n:=n) (r1:=l++[0]) (w:=w) (m:=l.length) (by simp) hw (by omega) hn;have hz:sub ([0]:U Int) 0 1=[0]:=rfl;have ho':o.length=l.length+1:=(by rw[ho];simp);have i1:w<(l++[0]).length:=(by simp;omega);have i2:w<o.length:=(by omega);have e4:az (l++[0]).length (o.set ((0:Nat)+(w:Int):Int).toNat a0[i]).length=true:=(by rw[List.length_set,ho];exact aD _);simp only[vS,bI hlt,aj,e1,af,e2,hz,length_singleton,hap,dR,e3,bf hlt,aU i1,aX i2,e4,aK i];cases b with
   |true=>simp only[aj,aD,af];exact .inl ⟨_,rfl,rfl,hlt,by show l.length<=_;omega⟩
   |false=>simp only[ak,aD,af,aj];exact .inl ⟨_,rfl,rfl,hlt,by show(o.set _ _).length<=_;rw[List.length_set];omega⟩
  .obtain rfl:i=a0.length:=(by omega);simp only[vS,bS,ak,aD,aj];exact .inr ⟨_,rfl,rm⟩) n 0 ((0:Int),([]:U Int)) ⟨rfl,Nat.zero_le _,aC _⟩ (by omega)
 have hz:az 0 ([]:U Int).length=true:=rfl;exact⟨o,by simp only[EC,hz,aj,h1,af,bZ,aD],h2⟩
theorem anS{a:U ax}(hl:a.length<=400)(hn:2000<=n):∃o,JK n a []=some o/\o.length<=2*a.length:=by
 obtain⟨o,h1,h2⟩:=dH (step:=xV a) (λ i (v:Int×List Int)=>v.1=(i:Int)/\i<=a.length/\v.2.length=2*i) (λ o=>o.length=2*a.length) a.length (λ k v h=>h.2.1) (by
  rintro i ⟨v,l⟩ ⟨hv,hi,rm⟩;simp only at hv rm;subst hv;by_cases hlt:i<a.length
  .have hap:bP l.length l.length 2 2 8=true:=dm (by omega) (by simp only[maxLen];omega);simp only[xV,bI hlt,aj,bf hlt,af,show ∀x y:Int,sub ([x,y]:U Int) 0 2=[x,y]from λ_ _=>rfl,bJ,length_nil,Nat.zero_add,Nat.reduceAdd,hap,dR,aD,aK i];exact .inl ⟨_,rfl,rfl,hlt,by simp;omega⟩
  .obtain rfl:i=a.length:=(by omega);simp only[xV,bS,ak,aD,aj];exact .inr ⟨_,rfl,rm⟩) n 0 ((0:Int),([]:U Int)) ⟨rfl,Nat.zero_le _,rfl⟩ (by omega)
 obtain⟨m,rfl⟩:∃m,n=m+1:=⟨n -1,by omega⟩;have e2:iter (ED []) (m+1) ((0:Int),o)=some o:=fG (by
  have hz:decide ((0:Int)<((([]:U ax).length:Int):Int))=false:=rfl;simp only[ED,hz,ak,aD,aj])
 obtain⟨p,e3,h3⟩:=amt (n:=m+1) (a0:=o) (by omega) hn;have hz:az 0 ([]:U Int).length=true:=rfl;exact⟨p,by simp only[JK,hz,aj,h1,af,aD,e2,bZ,e3],by omega⟩
theorem qc2{a0:U ax}{k m:Nat}{r1 r2:U Int}(hk:k<a0.length)(h1:r1.length=m+1)(h2:r2.length=m+1)(hm:m<=1000)(hn:2000<=n):∃(w:Nat)(o1 o2:U Int),iter (qO a0 (k:Int) r1 r2) n ((m:Int),r1,r2)=some ((w:Int),o1,o2)/\w<=m/\o1.length=m+1/\o2.length=m+1:=by
 obtain⟨⟨o,o1,o2⟩,g1,w,rfl,g2⟩:=EK (step:=qO a0 (k:Int) r1 r2) (λ v=>∃j:Nat,v.1=(j:Int)/\j<=m/\v.2.1.length=m+1/\v.2.2.length=m+1) (λ o=>∃j:Nat,o.1=(j:Int)/\j<=m/\o.2.1.length=m+1/\o.2.2.length=m+1) (λ v=>v.1.toNat) (by
  rintro⟨v,l1,l2⟩ ⟨j,rfl,hj,hl1,hl2⟩;simp only at hl1 hl2;cases j with
  |zero=>simp only[qO,ae0,ak,af];exact .inr ⟨_,rfl,0,rfl,hj,hl1,hl2⟩
  |succ j=>
   have a1:j<r1.length:=(by omega);have a2:j<l1.length:=(by omega);have a3:j+1<r1.length:=(by omega);have a4:j+1<l1.length:=(by omega);have b1:j<r2.length:=(by omega);have b2:j<l2.length:=(by omega);have b3:j+1<r2.length:=(by omega);have b4:j+1<l2.length:=(by omega);simp only[qO,Ou,aj,pred_succ (show j<9223372036854775807 by omega),aU a1,aX a2,bf hk,aU a3,aX a4,aU b1,aX b2,aU b3,aX b4,af];cases decide (l1[j]>a0[k].y0)with
   |false=>exact .inr ⟨_,rfl,j+1,rfl,hj,hl1,hl2⟩
   |true=>exact .inl ⟨_,rfl,⟨j,rfl,by omega,by simpa using hl1,by simpa using hl2⟩,by simp⟩) n ((m:Int),r1,r2) ⟨m,rfl,aC _,h1,h2⟩ (by simp;omega)
 exact⟨w,o1,o2,g1,g2⟩
theorem qc1{a0:U ax}(x:Int)(hl:a0.length<=400)(hn:2000<=n):∃o1 o2:U Int,iter (qP n a0 x) n ((0:Int),([]:U Int),([]:U Int))=some (o1,o2)/\o1.length=o2.length/\o1.length<=a0.length:=by
 obtain⟨⟨o1,o2⟩,g1,g2⟩:=dH (step:=qP n a0 x) (λ i (v:Int×List Int×List Int)=>v.1=(i:Int)/\i<=a0.length/\v.2.1.length=v.2.2.length/\v.2.1.length<=i) (λ o=>o.1.length=o.2.length/\o.1.length<=a0.length) a0.length (λ k v h=>h.2.1) (by
  rintro i ⟨v,l1,l2⟩ ⟨hv,hi,rm,hl2⟩;simp only at hv rm hl2;subst hv;by_cases hlt:i<a0.length
  .have hap:bP l1.length l1.length 1 1 8=true:=dm (by omega) (by simp only[maxLen];omega);have S0:bP l2.length l2.length 1 1 8=true:=rm ▸ hap;have hz:sub ([0]:U Int) 0 1=[0]:=rfl;obtain⟨w,p1,p2,e1,hw,hp1,hp2⟩:=qc2 (n:=n) (a0:=a0) (k:=i) (m:=l1.length) (r1:=l1++[0]) (r2:=l2++[0]) hlt (by simp) (by simp[rm]) (by omega) hn;have i1:w<(l1++[0]).length:=(by simp;omega);have i2:w<p1.length:=(by omega);have i3:w<(l2++[0]).length:=(by simp;omega);have i4:w<p2.length:=(by omega);have f1:∀y:Int,az (l1++[0]).length (p1.set ((0:Nat)+(w:Int):Int).toNat y).length=true:=λy=>(by rw[List.length_set,hp1];exact Ed (by simp));have f2:∀y:Int,az (l2++[0]).length (p2.set ((0:Nat)+(w:Int):Int).toNat y).length=true:=λy=>(by rw[List.length_set,hp2];exact Ed (by simp[rm]));have⟨b,hb⟩:=aiQ (decide (a0[i].x0>(x:Int))) (decide (a0[i].x1<=(x:Int)));simp only[qP,bI hlt,aj,bf hlt,af,hb,hz,length_singleton,hap,S0,dR,e1,aU i1,aX i2,aU i3,aX i4,f1,f2,aK i];cases b with
   |true=>simp only[aj,aD,af];exact .inl ⟨_,rfl,rfl,hlt,rm,by show l1.length<=_;omega⟩
   |false=>
    simp only[ak,aj,aD,af];exact .inl ⟨_,rfl,rfl,hlt,by simp only[List.length_set];omega,by simp only[List.length_set];omega⟩
  .obtain rfl:i=a0.length:=(by omega);simp only[qP,bS,ak,aD,aj];exact .inr ⟨_,rfl,rm,hl2⟩) n 0 ((0:Int),([]:U Int),([]:U Int)) ⟨rfl,Nat.zero_le _,rfl,aC _⟩ (by omega)
 exact⟨o1,o2,g1,g2⟩
theorem ae1{a0:U ax}(x:Int)(hl:a0.length<=400)(hn:2000<=n):∃o,yX n a0 x=some o/\o.length<=2*a0.length:=by
 have⟨w4,w5,g1,g2,g3⟩:=qc1 (n:=n) (a0:=a0) x hl hn;obtain⟨o,h1,h2⟩:=dH (step:=qQ w4 w5) (λ i (v:Int×List Int)=>v.1=(i:Int)/\i<=w4.length/\v.2.length<=2*i) (λ o=>o.length<=2*w4.length) w4.length (λ k v h=>h.2.1) (by
  rintro i ⟨v,l⟩ ⟨hv,hi,rm⟩;simp only at hv rm;subst hv;by_cases hlt:i<w4.length
  .have xf:i<w5.length:=(by omega);have hap:bP l.length l.length 2 2 8=true:=dm (by omega) (by simp only[maxLen];omega);have hs:∀x y:Int,sub ([x,y]:U Int) 0 2=[x,y]:=λ_ _=>rfl;cases hL:l.length with
   |zero=>
    have hz0:decide ((l.length:Int)>0)=false:=(by rw[hL];rfl);simp only[qQ,bI hlt,aj,hz0,ak,af,aU hlt,aX hlt,aU xf,aX xf,hs,bJ,length_nil,Nat.zero_add,Nat.reduceAdd,hap,dR,aD,aK i];exact .inl ⟨_,rfl,rfl,hlt,by simp;omega⟩
   |succ m=>
    have hm:m<l.length:=(by omega);have hpos:decide ((l.length:Int)>0)=true:=(by rw[hL];exact Ou m);have hpred:i64.wrap ((l.length:Int) -1)=(m:Int):=(by rw[hL];exact pred_succ (by omega));have f1:∀y:Int,az l.length (l.set ((0:Nat)+(m:Int):Int).toNat y).length=true:=λy=>(by rw[List.length_set];exact aD _);simp only[qQ,bI hlt,aj,hpos,hpred,af,aU hlt,aX hlt,aU xf,aX xf,aU hm,aX hm,hs,bJ,length_nil,Nat.zero_add,Nat.reduceAdd,hap,dR,f1,aD,aK i];cases decide (w4[i]<=l[m])with
    |true=>exact .inl ⟨_,rfl,rfl,hlt,by show(l.set _ _).length<=_;rw[List.length_set];omega⟩
    |false=>exact .inl ⟨_,rfl,rfl,hlt,by show(l++_).length<=_;simp;omega⟩
  .obtain rfl:i=w4.length:=(by omega);simp only[qQ,bS,ak,aD,aj];exact .inr ⟨_,rfl,rm⟩) n 0 ((0:Int),([]:U Int)) ⟨rfl,Nat.zero_le _,aC _⟩ (by omega)
 have hz:az 0 ([]:U Int).length=true:=rfl;exact⟨o,by simp only[yX,hz,aj,g1,h1,af,bZ,aD],by omega⟩
theorem akd{a0:U Int}(hl:a0.length<=1000)(hn:2000<=n):∃o,Au n a0 [] 0=some o/\o.length<=a0.length:=by
 obtain⟨o,h1,h2⟩:=dH (step:=uz a0 [] 0) (λ i (v:Int×Int×Bool×List Int)=>v.1=(i:Int)/\v.2.1=0/\i<=a0.length/\v.2.2.2.length<=i) (λ o=>o.length<=a0.length) a0.length (λ k v h=>h.2.2.1) (by
  rintro i ⟨v,v2,v3,l⟩ ⟨hv,hv2,hi,rm⟩;simp only at hv hv2 rm;subst hv;subst hv2;have z1:decide ((0:Int)<((([]:U Int).length:Int):Int))=false:=rfl;have z2:decide ((0:Int)>=((([]:U Int).length:Int):Int))=true:=rfl;by_cases hlt:i<a0.length
  .have hap:bP l.length l.length 1 1 8=true:=dm (by omega) (by simp only[maxLen];omega);have be:∀x:Int,(x==x)=true:=λx=>(by simp);have⟨b,hb⟩:=aiQ (Int.tmod ((i+1:Nat):Int) 2==(1:Int)) (Int.tmod (0:Int) 2==(1:Int));simp only[uz,bI hlt,aj,z1,z2,bf hlt,af,be,ak,aK i,show((2:Nat) !=0)=true from rfl,show((2:Int) !=0)=true from rfl,hb,show((0:Int)==1)=false from rfl,show((0:Int)==2)=false from rfl,show ∀x:Int,sub ([x]:U Int) 0 1=[x]from λ_=>rfl,length_singleton,hap,dR,aD];cases (!(b==v3))with
   |true=>exact .inl ⟨_,rfl,rfl,rfl,hlt,by show(l++_).length<=_;simp;omega⟩
   |false=>exact .inl ⟨_,rfl,rfl,rfl,hlt,by show l.length<=_;omega⟩
  .obtain rfl:i=a0.length:=(by omega);simp only[uz,bS,ak,z1,af,aD,aj];exact .inr ⟨_,rfl,rm⟩) n 0 ((0:Int),(0:Int),false,([]:U Int)) ⟨rfl,rfl,Nat.zero_le _,aC _⟩ (by omega)
 have hz:az 0 ([]:U Int).length=true:=rfl;exact⟨o,by simp only[Au,hz,aj,h1,af,bZ,aD],h2⟩
theorem Wg{α O:Type}{l:U α}{step:Int->J (Int⊕(Unit⊕O))}(h1:∀i (hi:i<l.length),(∃ o,step (i:Int)=some (.inr (.inr o)))\/step (i:Int)=some (.inl ((i+1:Nat):Int)))
 (h2:step (l.length:Int)=some (.inr (.inl ()))) (hn:l.length<n):(∃ o,iter step n (0:Int)=some (.inr o))\/iter step n (0:Int)=some (.inl ()):=by
 obtain⟨o,g1,_⟩:=dH (step:=step) (λ i (v:Int)=>v=(i:Int)/\i<=l.length) (λ _=>True) l.length (λ k v h=>h.2) (by
  rintro i v ⟨rfl,hi⟩;by_cases hlt:i<l.length
  .rcases h1 i hlt with ⟨o,h⟩ |h
   .exact .inr ⟨_,h,trivial⟩
   .exact .inl ⟨_,h,rfl,hlt⟩
  .obtain rfl:i=l.length:=(by omega);exact .inr ⟨_,h2,trivial⟩) n 0 0 ⟨rfl,Nat.zero_le _⟩ (by omega)
 rcases o with ⟨⟩ |o
 .exact .inr g1
 .exact .inl ⟨o,g1⟩
theorem ao4{a b:U Int}(hl:a.length<=1000)(hn:2000<=n):∃r,NT n a b=some r:=by
 unfold NT;by_cases h:a.length=b.length
 .have e:((a.length:Int) !=(b.length:Int))=false:=by simp[h]
  rw[e];simp only[ak];rcases Wg (l:=a) (n:=n) (step:=Av a b) (λ i hi=>by
   simp only[Av,bI hi,aj,bf hi,bf (show i<b.length by omega),af,aK i];cases (a[i] !=b[i]'(by omega))with
   |true=>exact .inl ⟨_,rfl⟩
   |false=>exact .inr rfl) (by simp only[Av,bS,ak]) (by omega)with ⟨o,h⟩ |h
  .rw[h];exact⟨_,rfl⟩
  .rw[h];exact⟨_,rfl⟩
 .have e:((a.length:Int) !=(b.length:Int))=true:=by simpa using λe:(a.length:Int)=(b.length:Int)=>h (by omega)
  rw[e];exact⟨_,rfl⟩
theorem qf2{r1:U Int}{k:Nat}{v3:U ax}{q:Nat}(hk:k+1<r1.length)(hl:r1.length<=1000)(h3:v3.length<=100000)(hn:200000<=n):∃o,iter (wO r1 (k:Int) v3) n ((q:Int),v3)=some o/\o.length=v3.length:=by
 refine EK (step:=wO r1 (k:Int) v3) (λ v=>∃j:Nat,v.1=(j:Int)/\v.2.length=v3.length) (λ o=>o.length=v3.length) (λ v=>v3.length -v.1.toNat) (by
  rintro⟨v,l⟩ ⟨j,rfl,hl⟩;simp only at hl;by_cases hlt:j<v3.length
  .have hj:j<l.length:=(by omega);simp only[wO,bI hlt,aj,aK k,aU hk,aX hk,aU hlt,aX hj,af,aK j];exact .inl ⟨_,rfl,⟨j+1,rfl,by simpa using hl⟩,by simp only[Int.toNat_natCast];omega⟩
  .simp only[wO,Qu hlt,ak];exact .inr ⟨_,rfl,hl⟩) n ((q:Int),v3) ⟨q,rfl,rfl⟩ (by omega)
theorem qf3{r1 r4:U Int}{k:Nat}{v3:U ax}(hk:k+1<r1.length)(hl:r1.length<=1000)(h4:r4.length<=1000)(h3:v3.length<=100000)(hn:200000<=n):∃o,iter (wP r1 (k:Int) r4) n ((0:Int),v3)=some o/\o.length<=v3.length+r4.length:=by
 refine EK (step:=wP r1 (k:Int) r4) (λ v=>∃j:Nat,v.1=(j:Int)/\j<=r4.length/\v.2.length<=v3.length+j) (λ o=>o.length<=v3.length+r4.length) (λ v=>r4.length -v.1.toNat) (by
  rintro⟨v,l⟩ ⟨j,rfl,hj,hl⟩;simp only at hl;by_cases hlt:j+1<r4.length
  .have hj:j<r4.length:=(by omega);have hk':k<r1.length:=(by omega);have hap:bP l.length l.length 1 1 32=true:=dm (by omega) (by simp only[maxLen];omega);have w2:i64.wrap ((j:Int)+2)=((j+2:Nat):Int):=(by rw[dQ (by omega) (by omega)];omega);simp only[wP,aK j,bI hlt,aj,aK k,aU hk,aX hk,aU hk',aX hk',aU hj,aX hj,aU hlt,aX hlt,af,show ∀x:ax,sub ([x]:U ax) 0 1=[x]from λ_=>rfl,length_singleton,hap,dR,aD,w2];exact .inl ⟨_,rfl,⟨j+2,rfl,by omega,by simp;omega⟩,by simp only[Int.toNat_natCast];omega⟩
  .simp only[wP,aK j,Qu hlt,ak,aD,aj];exact .inr ⟨_,rfl,by omega⟩) n ((0:Int),v3) ⟨0,rfl,Nat.zero_le _,by simp⟩ (by simp;omega)
theorem ao5{a:U ax}(hl:a.length<=4)(hn:200000<=n):∃o,NU n a [] 0=some o:=by
 obtain⟨r1,e1,h1⟩:=anS (n:=n) (a:=a) (by omega) (by omega);obtain⟨o,g1,_⟩:=dH (step:=Aw n a [] 0 r1) (λ i (v:Int×Int×List ax×List Int)=>(∃ q:Nat,v.1=(q:Int))/\v.2.1=(i:Int)/\i<=r1.length/\v.2.2.1.length<=8*i/\v.2.2.2.length<=8) (λ _=>True) r1.length (λ k v h=>h.2.2.1) (by
  rintro i ⟨v1,v2,v3,v4⟩ ⟨⟨q,hq⟩,hv,hi,h3,h4⟩;simp only at hq hv h3 h4;subst hq;subst hv;by_cases hlt:i+1<r1.length
  .have hi':i<r1.length:=(by omega);obtain⟨r2,e2,h2⟩:=ae1 (n:=n) (a0:=a) r1[i] (by omega) (by omega);obtain⟨r3,e3,h3'⟩:=ae1 (n:=n) (a0:=[]) r1[i] (by simp) (by omega);obtain rfl:r3=[]:=List.eq_nil_of_length_eq_zero (by simpa using h3');obtain⟨r4,e4,h4'⟩:=akd (n:=n) (a0:=r2) (by omega) (by omega);obtain⟨b5,e5⟩:=ao4 (n:=n) (a:=r4) (b:=v4) (by omega) (by omega);have hv5:∃b,((bif (decide ((i:Int)>(0:Int)))then(bif (decide ((r4.length:Int)>(0:Int)))then some b5 else some false)else some false):J Bool)=some b:=cZ (cZ ⟨_,rfl⟩ ⟨_,rfl⟩) ⟨_,rfl⟩;obtain⟨b,e6⟩:=hv5;obtain⟨o2,f2,k2⟩:=qf2 (n:=n) (r1:=r1) (k:=i) (v3:=v3) (q:=q) hlt (by omega) (by omega) hn;obtain⟨o3,f3,k3⟩:=qf3 (n:=n) (r1:=r1) (r4:=r4) (k:=i) (v3:=v3) hlt (by omega) (by omega) (by omega) hn;have e7:az v3.length o2.length=true:=Ed k2.symm;simp only[Aw,aK i,bI hlt,aj,aU hi',aX hi',af,e2,e3,bZ,aD,e4,e5,e6,f2,f3,e7];cases b with
   |true=>exact .inl ⟨_,rfl,⟨q,rfl⟩,rfl,by omega,by show o2.length<=_;omega,h4⟩
   |false=>exact .inl ⟨_,rfl,⟨_,rfl⟩,rfl,by omega,by show o3.length<=_;omega,by show r4.length<=_;omega⟩
  .simp only[Aw,aK i,Qu hlt,ak,aD,aj];exact .inr ⟨_,rfl,trivial⟩) n 0 ((0:Int),(0:Int),([]:U ax),([]:U Int)) ⟨⟨0,rfl⟩,rfl,Nat.zero_le _,aC _,Nat.zero_le _⟩ (by omega)
 have hz:az 0 ([]:U ax).length=true:=rfl;have hz2:az 0 ([]:U Int).length=true:=rfl;exact⟨o,by simp only[NU,e1,af,hz,hz2,aj,g1,bZ,aD]⟩
theorem anT{a:U ax}(hl:a.length<=4)(hn:200000<=n):∃b,JM n a=some b:=by
 have⟨f,hf⟩:=ao5 (n:=n) hl hn;have hO:∃o,OK n a=some o:=by
  unfold OK;have xl:decide ((a.length:Int)>400)=false:=by simp;omega
  rcases Wg (l:=a) (n:=n) (step:=JL a) (λ i hi=>by
   have hr:∃b,vR a[i]=some b:=by
    unfold vR;exact cZ (cZ (cZ (cZ (cZ ⟨_,rfl⟩ ⟨_,rfl⟩) ⟨_,rfl⟩) ⟨_,rfl⟩) ⟨_,rfl⟩) ⟨_,rfl⟩
   obtain⟨b,hb⟩:=hr;simp only[JL,bI hi,aj,bf hi,af,hb,aK i];cases b with
   |false=>exact .inl ⟨_,rfl⟩
   |true=>exact .inr rfl) (by simp only[JL,bS,ak]) (by omega)with ⟨o,h⟩ |h
  .rw[h];exact⟨_,rfl⟩
  .rw[h];simp only[dW,xl,ak,hf,af,bZ,aD,aj];exact cZ ⟨_,rfl⟩ ⟨_,rfl⟩
 obtain⟨o,ho⟩:=hO;unfold JM;rw[ho];simp only[af,bZ,aD,aj];refine cZ ?_ ⟨_,rfl⟩;have hS:∃r,NV n o.1 a=some r:=by
  unfold NV;by_cases h:o.1.length=a.length
  .have e:((o.1.length:Int) !=(a.length:Int))=false:=(by simp[h]);rw[e];simp only[ak];rcases Wg (l:=o.1) (n:=n) (step:=Ay o.1 a) (λ i hi=>by
    simp only[Ay,bI hi,aj,bf hi,bf (show i<a.length by omega),af,aK i];generalize (!((o.1[i].x0==((a[i]'(by omega)).x0:Int))&&((o.1[i].y0==((a[i]'(by omega)).y0:Int))&&((o.1[i].x1==((a[i]'(by omega)).x1:Int))&&((o.1[i].y1==((a[i]'(by omega)).y1:Int))&&true)))))=c;cases c with
    |true=>exact .inl ⟨_,rfl⟩
    |false=>exact .inr rfl) (by simp only[Ay,bS,ak]) (by omega)with ⟨o,h⟩ |h
   .rw[h];exact⟨_,rfl⟩
   .rw[h];exact⟨_,rfl⟩
  .have e:((o.1.length:Int) !=(a.length:Int))=true:=(by simpa using λe:(o.1.length:Int)=(a.length:Int)=>h (by omega));rw[e];exact⟨_,rfl⟩
 obtain⟨r,hr⟩:=hS;rw[hr];exact⟨_,rfl⟩
theorem amv{a:U ax}(hl:a.length<=4)(hn:200000<=n):∃b,EF n a=some b:=by
 unfold EF;cases a with
 |nil=>exact⟨_,rfl⟩
 |cons r l=>
  have⟨b,hb⟩:=anT (n:=n) hl hn;have e:((((r::l).length:Nat):Int)==0)=false:=by simp;omega
  rw[hb,e];simp only[ak,af];refine cZ ⟨_,rfl⟩ ?_;have g0:bp (r::l) 0=some r:=rfl;obtain⟨o,g1,_⟩:=dH (step:=vT (r::l) r) (λ i (v:Int×Int×Int×Int×Int)=>v.1=(i:Int)/\i<=(r::l).length) (λ _=>True) (r::l).length (λ k v h=>h.2) (by
   rintro i ⟨v,v3,v4,v5,v6⟩ ⟨hv,hi⟩;simp only at hv;subst hv;by_cases hlt:i<(r::l).length
   .simp only[vT,bI hlt,aj,bf hlt,af,aK i];exact .inl ⟨_,rfl,rfl,hlt⟩
   .obtain rfl:i=(r::l).length:=(by omega);simp only[vT,bS,ak];exact .inr ⟨_,rfl,trivial⟩) n 1 ((1:Int),r.x0,r.y0,r.x1,r.y1) ⟨rfl,by simp⟩ (by omega)
  simp only[g0,af,g1];exact⟨_,rfl⟩
theorem R7{α:Type}{l:U α}{step:Int->J (Int⊕(Unit⊕Bool))}{good:α->Prop}(h1:∀i (hi:i<l.length),step (i:Int)=some (.inr (.inr false))\/(step (i:Int)=some (.inl ((i+1:Nat):Int))/\good l[i]))
 (h2:step (l.length:Int)=some (.inr (.inl ()))) (hn:l.length<n):iter step n (0:Int)=some (.inr false)\/(iter step n (0:Int)=some (.inl ())/\∀x∈l,good x):=by
 obtain⟨o,g1,g2⟩:=dH (step:=step) (λ i (v:Int)=>v=(i:Int)/\i<=l.length/\∀x∈l.take i,good x) (λ o=>o= .inr false\/(o= .inl ()/\∀x∈l,good x)) l.length (λ k v h=>h.2.1) (by
  rintro i v ⟨rfl,hi,hall⟩;by_cases hlt:i<l.length
  .rcases h1 i hlt with h |⟨h,hg⟩
   .exact .inr ⟨_,h,.inl rfl⟩
   .refine .inl ⟨_,h,rfl,hlt,λx hx=>?_⟩;rw[List.take_add_one,dL hlt,aZ]at hx;rcases hx with hx |hx
    .exact hall x hx
    .simp at hx;subst hx;exact hg
  .obtain rfl:i=l.length:=(by omega);exact .inr ⟨_,h2,.inr ⟨rfl,λx hx=>hall x (by rw[List.take_length];exact hx)⟩⟩) n 0 0 ⟨rfl,Nat.zero_le _,by simp⟩ (by omega)
 rcases g2 with rfl |⟨rfl,g2⟩
 .exact .inl g1
 .exact .inr ⟨g1,g2⟩
theorem acn(hn:4000002<=n):∀(m:Nat)(e:cu),(toE e).wt<m->(toE e).wt<=4000000->∃r,vB n m e=some r
 | 0,_,h,_=>absurd h (by omega)
 |m+1,e,h,hw=>by
  have hla:=acd e;show ∃r,EB n (vB n m) e=some r;simp only[EB];obtain⟨o,g1,_⟩:=dH (step:=Ar (vB n m) e) (λ i (v:Int×Int)=>v.2=(i:Int)/\i<=e.args.length) (λ _=>True) e.args.length (λ k v h=>h.2) (by
   rintro i ⟨v1,v2⟩ ⟨hv,hi⟩;simp only at hv;subst hv;by_cases hlt:i<e.args.length
   .have hwx:=ZZ (getElem_mem hlt);obtain⟨r,hr⟩:=acn hn m e.args[i] (by omega) (by omega);simp only[Ar,bI hlt,aj,bf hlt,af,hr,aK i];exact .inl ⟨_,rfl,rfl,hlt⟩
   .obtain rfl:i=e.args.length:=(by omega);simp only[Ar,bS,ak];exact .inr ⟨_,rfl,trivial⟩) n 0 ((1:Int),(0:Int)) ⟨rfl,Nat.zero_le _⟩ (by omega)
  rw[g1];exact⟨_,rfl⟩
structure Fz(p:bq):Prop where
 defs:il p.defs
 rules:∀r∈p.rules,(toE (jp r)).wt<=4000000
structure Ov(p:bq):Prop where
 defs:p.defs.length<=5
 rules:p.rules.length<=5
 rule:∀r∈p.rules,Xm r
 tabs:p.tables.length<=4/\∀t∈p.tables,t.rows.length<=8
 zones:p.zones.length<=5
 caps:p.caps.length<=3
theorem ahb{p:bq}(hp:Fz p)(hn:4000002<=n):∃b,wN n p=some b/\(b=true->Ov p):=by
 have no:∃b,some false=some b/\(b=true->Ov p):=⟨false,rfl,λh=>(by cases h)⟩;unfold wN;have hk:((bif (decide ((p.defs.length:Int)>(5:Int)))then some true else(bif (decide ((p.rules.length:Int)>(5:Int)))then some true else(bif (decide ((p.tables.length:Int)>(4:Int)))then some true else(bif (decide ((p.zones.length:Int)>(5:Int)))then some true else some (decide ((p.caps.length:Int)>(3:Int))))))):J (Bool))=some (decide (p.defs.length>5\/p.rules.length>5\/p.tables.length>4\/p.zones.length>5\/p.caps.length>3)):=by
  have c:∀a k:Nat,decide ((a:Int)>(k:Int))=decide (a>k):=λa k=>by rw[decide_eq_decide];omega
  have e1:=c p.defs.length 5;have e2:=c p.rules.length 5;have e3:=c p.tables.length 4;have e4:=c p.zones.length 5;have e5:=c p.caps.length 3;rw[show decide ((p.defs.length:Int)>(5:Int))=_ from e1,show decide ((p.rules.length:Int)>(5:Int))=_ from e2,show decide ((p.tables.length:Int)>(4:Int))=_ from e3,show decide ((p.zones.length:Int)>(5:Int))=_ from e4,show decide ((p.caps.length:Int)>(3:Int))=_ from e5,Bool.decide_or,Bool.decide_or,Bool.decide_or,Bool.decide_or];cases decide (p.defs.length>5)<;>cases decide (p.rules.length>5)<;>cases decide (p.tables.length>4)<;>cases decide (p.zones.length>5)<;>rfl
 rw[hk];by_cases hc:p.defs.length>5\/p.rules.length>5\/p.tables.length>4\/p.zones.length>5\/p.caps.length>3
 .rw[decide_eq_true hc];exact no
 .rw[decide_eq_false hc];simp only[af,ak];have s1:=R7 (l:=p.defs) (n:=n) (step:=um n p) (good:=λ_=>True) (λ i hi=>by
   obtain⟨r,hr⟩:=acn hn n _ (show _<n by have:=hp.defs.body (getElem_mem hi);omega) (hp.defs.body (getElem_mem hi));have hr':Io n (cu.mk p.defs[i].ir p.defs[i].ly p.defs[i].kw p.defs[i].ii p.defs[i].ep)=some r:=hr;simp only[um,bI hi,aj,bf hi,af,hr',aK i];cases decide (r>30)with
   |true=>exact .inl rfl
   |false=>exact .inr ⟨rfl,trivial⟩) (by simp only[um,bS,ak]) (by omega)
  have s2:=R7 (l:=p.rules) (n:=n) (step:=uo n p) (good:=Xm) (λ i hi=>by
   obtain⟨r,hr⟩:=acn hn n (jp p.rules[i]) (show _<n by have:=hp.rules _ (getElem_mem hi);omega) (hp.rules _ (getElem_mem hi));have hr':Io n (cu.mk p.rules[i].kB p.rules[i].mw p.rules[i].mn p.rules[i].jn p.rules[i].ga)=some r:=hr;simp only[uo,bI hi,aj,bf hi,af,hr',aK i];by_cases c1:r>30
   .simp only[c1,decide_true,aj,af];exact .inl rfl
   .by_cases c2:(p.rules[i].zones.length:Int)>5
    .simp only[c1,c2,decide_true,decide_false,aj,ak,af];exact .inl rfl
    .by_cases c3:(p.rules[i].except.length:Int)>5
     .simp only[c1,c2,c3,decide_true,decide_false,aj,ak,af];exact .inl rfl
     .simp only[c1,c2,c3,decide_false,ak,af];exact .inr ⟨trivial,by omega,by omega⟩) (by simp only[uo,bS,ak]) (by omega)
  have s3:=R7 (l:=p.tables) (n:=n) (step:=uq p) (good:=λt=>t.rows.length<=8) (λ i hi=>by
   simp only[uq,bI hi,aj,bf hi,af,aK i];by_cases c1:(p.tables[i].rows.length:Int)>8
   .simp only[c1,decide_true,aj];exact .inl rfl
   .simp only[c1,decide_false,ak];exact .inr ⟨trivial,by omega⟩) (by simp only[uq,bS,ak]) (by omega)
  have s4:=R7 (l:=p.zones) (n:=n) (step:=uw p) (good:=λ_=>True) (λ i hi=>by
   simp only[uw,bI hi,aj,bf hi,af,aK i];cases decide ((p.zones[i].corners.length:Int)>12)with
   |true=>exact .inl rfl
   |false=>exact .inr ⟨rfl,trivial⟩) (by simp only[uw,bS,ak]) (by omega)
  have s5:=R7 (l:=p.caps) (n:=n) (step:=uy p) (good:=λ_=>True) (λ i hi=>by
   simp only[uy,bI hi,aj,bf hi,af,aK i];cases decide ((p.caps[i].corners.length:Int)>12)with
   |true=>exact .inl rfl
   |false=>exact .inr ⟨rfl,trivial⟩) (by simp only[uy,bS,ak]) (by omega)
  rcases s1 with h |⟨h,_⟩
  .simpa only[h,iD]using no
  rcases s2 with h2 |⟨h2,g2⟩
  .simpa only[h,h2,iD,dW]using no
  rcases s3 with h3 |⟨h3,g3⟩
  .simpa only[h,h2,h3,iD,dW]using no
  rcases s4 with h4 |⟨h4,_⟩
  .simpa only[h,h2,h3,h4,iD,dW]using no
  rcases s5 with h5 |⟨h5,_⟩
  .simpa only[h,h2,h3,h4,h5,iD,dW]using no
  simp only[h,h2,h3,h4,h5,dW];exact⟨true,rfl,λ_=>⟨by omega,by omega,g2,⟨by omega,g3⟩,by omega,by omega⟩⟩
theorem ake(lot:bU)(hn:4000002<=n):∃b,EG n lot=some b/\(b=true->lot.area.length<=4):=by
 unfold EG;by_cases h:(lot.area.length:Int)>4
 .simp only[h,decide_true,aj];exact⟨false,rfl,λh=>(by cases h)⟩
 .obtain⟨r,hr⟩:=amv (n:=n) (a:=lot.area) (by omega) (by omega);simp only[h,decide_false,ak,hr,af];have:∃b,((bif (!r.2)then some true else(bif (decide ((i64.wrap (r.1.x1 -r.1.x0))<=(4:Int)))then some true else some (decide ((i64.wrap (r.1.y1 -r.1.y0))<=(4:Int))))):J Bool)=some b:=cZ ⟨_,rfl⟩ (cZ ⟨_,rfl⟩ ⟨_,rfl⟩);obtain⟨b,hb⟩:=this;exact⟨b,hb,λ_=>by omega⟩
def m6(t:bT):bq:=bq.mk t.cj t.ca t.b8 t.bj t.cw t.cm t.cD t.co
structure R8(t:bT):Prop where
 land:t.land.length<=2/\∀l∈t.land,l.area.length<=4
 xr:t.bz.length<=3/\∀e∈t.bz,e.area.length<=4
 built:t.built.length<=6
theorem amw{t:bT}(hp:Fz (m6 t))(hn:4000002<=n):∃b,EJ n t=some b/\(b=true->Ov (m6 t)/\R8 t):=by
 have no:∃b,some false=some b/\(b=true->Ov (m6 t)/\R8 t):=⟨false,rfl,λh=>(by cases h)⟩;have⟨b,hb,hf⟩:=ahb hp hn;have hb':wN n (bq.mk t.cj t.ca t.b8 t.bj t.cw t.cm t.cD t.co)=some b:=hb;unfold EJ;rw[hb'];cases b with
 |false=>exact no
 |true=>
  simp only[af,Bool.not_true,ak];by_cases c1:(t.land.length:Int)>2
  .simp only[c1,decide_true,aj,af];exact no
  by_cases c2:(t.bz.length:Int)>3
  .simp only[c1,c2,decide_true,decide_false,aj,ak,af];exact no
  by_cases c3:(t.built.length:Int)>6
  .simp only[c1,c2,c3,decide_true,decide_false,aj,ak,af];exact no
  simp only[c1,c2,c3,decide_false,ak,af];have s1:=R7 (l:=t.land) (n:=n) (step:=EH n t) (good:=λl=>l.area.length<=4) (λ i hi=>by
   have⟨b,hb,h4⟩:=ake (n:=n) t.land[i] hn;simp only[EH,bI hi,aj,bf hi,af,hb,aK i];cases b with
   |false=>exact .inl rfl
   |true=>exact .inr ⟨rfl,h4 rfl⟩) (by simp only[EH,bS,ak]) (by omega)
  have s2:=R7 (l:=t.bz) (n:=n) (step:=EI t) (good:=λe=>e.area.length<=4) (λ i hi=>by
   simp only[EI,bI hi,aj,bf hi,af,aK i];by_cases c1:(t.bz[i].area.length:Int)>4
   .simp only[c1,decide_true,aj];exact .inl rfl
   .simp only[c1,decide_false,ak];exact .inr ⟨trivial,by omega⟩) (by simp only[EI,bS,ak]) (by omega)
  rcases s1 with h |⟨h,g1⟩
  .simpa only[h,iD]using no
  rcases s2 with h2 |⟨h2,g2⟩
  .simpa only[h,h2,iD,dW]using no
  simp only[h,h2,dW];exact⟨true,rfl,λ_=>⟨hf rfl,⟨by omega,g1⟩,⟨by omega,g2⟩,by omega⟩⟩
def GT(t:bT)(i:Nat):Int×(List fw)×(List cB)×(List dN)×(List bV)×(List fZ)×(List eU)×(List bW)×Int×(List bU)×(List jl)×(List Ej)×(List iH)×(List bR):=
 ((i:Int),t.cj,t.ca,t.b8,t.bj,t.cw,t.cm,t.cD,t.co,t.land,t.bz,t.windows,t.built,t.base)
theorem amx{t:bT}{l:U bq}(hp:Fz (m6 t))(hl:∀p∈l,Fz p)(hll:l.length<=1000)(hn:4000002<=n):∃b,UF n t l=some b/\(b=true->∀p∈l,Ov p/\R8 t):=by
 have no:∃b,some false=some b/\(b=true->∀p∈l,Ov p/\R8 t):=⟨false,rfl,λh=>(by cases h)⟩;unfold UF
 obtain⟨o,g1,g2⟩:=dH (step:=rW n l) (λ i v=>i<=l.length/\(∃ u:bT,v=GT u i/\Fz (m6 u)/\u.land=t.land/\u.bz=t.bz/\u.built=t.built)/\∀p∈l.take i,Ov p/\R8 t)
  (λ o=>o= .inr false\/∃u:bT,o= .inl (GT u 0).2/\Fz (m6 u)/\∀p∈l,Ov p/\R8 t) l.length (λ k v h=>h.1) (by
  rintro i v ⟨hi,⟨u,rfl,hz,e1,e2,e3⟩,hall⟩;have hst:rW n l (GT u i)=rW n l ((i:Int),u.cj,u.ca,u.b8,u.bj,u.cw,u.cm,u.cD,u.co,u.land,u.bz,u.windows,u.built,u.base):=rfl;rw[hst];by_cases hlt:i<l.length
  .have hz':Fz (m6 (bo u l[i])):=hl _ (getElem_mem hlt);have⟨b,hb,hf⟩:=amw (n:=n) (t:=bo u l[i]) hz' hn;have hb':EJ n (bT.mk l[i].defs l[i].tables l[i].zones l[i].rules l[i].caps l[i].views l[i].nr l[i].hours u.land u.bz u.windows u.built u.base)=some b:=hb;simp only[rW,bI hlt,aj,bf hlt,af,hb',aK i];cases b with
   |false=>exact .inr ⟨_,rfl,.inl rfl⟩
   |true=>
    have⟨f1,f2⟩:=hf rfl;refine .inl ⟨_,rfl,hlt,⟨bo u l[i],rfl,hz',e1,e2,e3⟩,λp hp=>?_⟩;rw[List.take_add_one,dL hlt,aZ]at hp;rcases hp with hp |hp
    .exact hall p hp
    .simp at hp;subst hp;refine⟨f1,⟨?_,?_,?_⟩⟩
     .rw[<- e1];exact f2.land
     .rw[<- e2];exact f2.xr
     .rw[<- e3];exact f2.built
  .obtain rfl:i=l.length:=(by omega);simp only[rW,bS,ak];refine .inr ⟨_,rfl,.inr ⟨u,rfl,hz,λp hp=>hall p (by rw[List.take_length];exact hp)⟩⟩) n 0 (GT t 0) ⟨Nat.zero_le _,⟨t,rfl,hp,rfl,rfl,rfl⟩,by simp⟩ (by omega)
 have g1':iter (rW n l) n ((0:Int),t.cj,t.ca,t.b8,t.bj,t.cw,t.cm,t.cD,t.co,t.land,t.bz,t.windows,t.built,t.base)=some o:=g1;rw[g1'];rcases g2 with rfl |⟨u,rfl,hz,hall⟩
 .exact no
 .have⟨b,hb,_⟩:=amw (n:=n) (t:=u) hz hn;refine⟨b,?_,λ_=>hall⟩;simp only[GT,dW];have hb':EJ n (bT.mk u.cj u.ca u.b8 u.bj u.cw u.cm u.cD u.co u.land u.bz u.windows u.built u.base)=some b:=hb;rw[hb'];rfl
theorem anU{t:bT}{p:bq}(hz:Fz p)(hf:Ov p)(ht:R8 t)(hr:∀l∈t.land,l.from_.length*8<=140737488355328):yc (bo t p) where
 lots:=λl hl=>⟨by have:=ht.land.2 l hl;omega,hr l hl⟩
 land:=by have:=ht.land.1;show t.land.length<=_;omega
 xr:=⟨by have:=ht.xr.1;show t.bz.length<=_;omega,λe he=>by have:=ht.xr.2 e he;omega⟩
 built:=by have:=ht.built;show t.built.length<=_;omega
 zones:=by have:=hf.zones;show p.zones.length<=_;omega
 caps:=by have:=hf.caps;show p.caps.length<=_;omega
 rules:=by have:=hf.rules;show p.rules.length<=_;omega
 rule:=λr hr=>⟨hf.rule r hr,hz.rules r hr⟩
 plan:=⟨hz.defs,by have:=hf.tabs.1;show p.tables.length<=_;omega,λx hx=>by have:=hf.tabs.2 x hx;omega⟩
theorem amy{t:bT}(ht:R8 t):Fy t.land:=⟨λ l hl=>by have:=ht.land.2 l hl;omega,by have:=ht.land.1;omega⟩
def G3(x y:aS):Bool:=(x.lot==(y.lot:Int))&&((x.use==(y.use:Int))&&((x.floors==(y.floors:Int))&&((x.fW==(y.fW:Int))&&true)))
theorem aco(x y:aS):G3 x y=true↔x=y:=by
 cases x;cases y;simp[G3]
structure apS(n:Nat)(t:bT)(l:List bq):Prop where
 land:Fy t.land
 plans:∀p∈l,yc (bo t p)
 n:J8 n
theorem n42:J8 5000003:=⟨aC _,by omega⟩
structure aor(t:bT):Prop where
 plan:Fz (m6 t)
 y6:∀l∈t.land,l.from_.length*8<=140737488355328
theorem at_nil{α:Type}(v:Int):bp ([]:U α) v=none:=by unfold bp;cases decide (0<=v)<;>rfl
theorem at_mem{α:Type}{l:U α}{v:Int}{x:α}(h:bp l v=some x):x∈l:=by
 unfold bp at h;cases hd:decide (0<=v)with
 |false=>rw[hd]at h;cases h
 |true=>rw[hd]at h;exact dh h
def acp(d:bg):Prop:=∀p∈d.phases,p.gives=[]
theorem ahc{p p':bq}{lot:bU}{d:bg}(hg:acp d):iY n p lot d=iY n p' lot d:=by
 have h3:∀ph:ql,ph.gives=[]->fK n p ph=fK n p' ph:=by
  intro ph h;funext v;simp only[fK,h,at_nil,Option.bind_none]
 have h2:fM n p d=fM n p' d:=by
  funext v;simp only[fM];cases ha:bp d.phases v with
  |none=>rfl
  |some ph=>simp only[af,h3 ph (hg ph (at_mem ha))]
 simp only[iY,h2]
def FB(p:bq):bq:=bq.mk p.defs p.tables p.zones p.rules [] [] p.nr 0
theorem akf{t:bT}{a:bq}{d:bg}{day:Int}(ht:yc (bo t a))(hd:Zb d)(hg:acp d)(hn:J8 n):XH n (bo t (FB a)) d day=XH n (bo t a) d day:=by
 have he:y9 n (bo t (FB a)) d=y9 n (bo t a) d:=by
  have hf:GC n (bo t (FB a)) d=GC n (bo t a) d:=by
   unfold GC;rw[ahc (p':=fS (bo t a)) hg];rfl
  unfold y9;rw[hf];rfl
 have hz:∀lot,pE (bo t (FB a)) lot=pE (bo t a) lot:=λ_=>rfl;have A6:kM (bo t (FB a)) d=kM (bo t a) d:=rfl;have hw:=Qq ht.lots d.lot;have hbr:∀r,XB n (bo t (FB a)) (kM (bo t a) d) d r=XB n (bo t a) (kM (bo t a) d) d r:=by
  intro r;have htb:=ht.plan.tabs;have hzl:=Lp ht (kM (bo t a) d);have Hv:XA n (bo t (FB a)) (kM (bo t a) d) d r=XA n (bo t a) (kM (bo t a) d) d r:=by
   obtain⟨e1,e2,e3,e4,e5,e6,e7,e8,B4⟩:=ame (n:=n) (p:=fS (bo t a)) (lot:=kM (bo t a) d) (d:=d) ⟨by have:=htb.1;have:=hn.1;omega,by have:=htb.1;omega,λx hx=>by have:=htb.2 x hx;have:=hn.1;omega⟩ hw.1 hd.1 (by have:=hn.1;omega);have h1:iW n (fS (bo t a)) (kM (bo t a) d) d=_:=B4 _ _ [] a.caps a.views a.nr a.hours;have h2:iW n (fS (bo t (FB a))) (kM (bo t a) d) d=_:=B4 _ _ [] [] [] a.nr 0;have hE:=Xz (n:=n) (d:=a.defs) (ts:=a.tables) (z:=a.zones) (r:=[]) (r':=[]) (c:=[]) (c':=a.caps) (v:=[]) (v':=a.views) (su:=a.nr) (rK:=a.nr) (h:=0) (h':=a.hours) (zs:=pE (bo t a) (kM (bo t a) d)) (ms:=[⟨⟨#[97,114,101,97]⟩,e1⟩,⟨⟨#[99,111,118,101,114]⟩,e2⟩,⟨⟨#[102,108,111,111,114]⟩,e3⟩,⟨⟨#[102,108,111,111,114,115]⟩,e4⟩,⟨⟨#[104,101,105,103,104,116]⟩,e5⟩,⟨⟨#[104,111,109,101,115]⟩,e6⟩,⟨⟨#[114,117,110,111,102,102]⟩,e7⟩,⟨yB,qU (mZ (kM (bo t a) d)) (fC d)⟩,⟨⟨#[116,114,97,102,102,105,99]⟩,e8⟩]) (e:=jp r) ht.plan.defs ht.plan.tabs (by simp) (by omega) hn.1 hn.2;unfold XA;rw[h1,h2,hz];simp only[af];exact congrArg (λ x:Option Int=>x.getD 1==0) hE
  unfold XB;rw[Hv];rfl
 have SO:XC (bo t (FB a)) d=XC (bo t a) d:=rfl;have hap:applied (bo t (FB a)) (kM (bo t a) d) day=applied (bo t a) (kM (bo t a) d) day:=rfl;unfold XH AB IU;rw[he,A6,hap,SO];simp only[hbr]
theorem ae2(n:Nat)(land:U bU)(p:aS):acp (sS n land p).1:=by
 unfold sS;split
 .intro q hq;simp at hq
 .rename_i lot _;cases Ot n lot p
  .intro q hq;simp at hq
  .intro q hq;simp only[aj,XF,aQ]at hq;subst hq;rfl
theorem acr{zs:U ByteArray}{day later:Int}(h:day<=later){r:bV}(h1:¬(r.from_>day/\r.from_<=later))(h2:¬(r.cM>day/\r.cM<=later)):mY zs day r=mY zs later r:=by
 unfold mY;have e1:decide (r.from_<=day)=decide (r.from_<=later):=by rw[decide_eq_decide];omega
 have e2:decide (day<r.cM)=decide (later<r.cM):=by rw[decide_eq_decide];omega
 rw[e1,e2]
theorem amz{t:bT}{d:bg}{day later:Int}(h:day<=later)(hb:∀r∈t.bj,¬(r.from_>day/\r.from_<=later)/\¬(r.cM>day/\r.cM<=later)):XH n t d day=XH n t d later:=by
 have:applied t (kM t d) day=applied t (kM t d) later:=by
  unfold applied;exact List.filter_congr λr hr=>acr h (hb r hr).1 (hb r hr).2
 unfold XH AB;rw[this]
def No(day:Int)(l:U bV)(nx:Int)(fd:Bool):Prop:=(fd=true->nx>day/\((∃ r∈l,nx=r.from_)\/∃r∈l,nx=r.cM))/\∀r∈l,(r.from_>day->fd=true/\nx<=r.from_)/\(r.cM≠0->r.cM>day->fd=true/\nx<=r.cM)
theorem aiS(x day nx:Int)(fd:Bool):∃T4 nx',o8 x day fd nx=some (T4,nx')/\((T4=fd/\nx'=nx/\(x>day->fd=true/\nx<=x))\/(T4=true/\nx'=x/\x>day/\(fd=true->x<=nx))):=by
 unfold o8;by_cases h:x>day
 .cases fd with
  |false=>exact⟨true,x,by simp[h],.inr ⟨rfl,rfl,h,λh=>(by cases h)⟩⟩
  |true=>
   by_cases h2:x<nx
   .exact⟨true,x,by simp[h,h2],.inr ⟨rfl,rfl,h,λ_=>by omega⟩⟩
   .exact⟨true,nx,by simp[h,h2],.inl ⟨rfl,rfl,λ_=>⟨rfl,by omega⟩⟩⟩
 .exact⟨fd,nx,by simp[h],.inl ⟨rfl,rfl,λh'=>absurd h' h⟩⟩
theorem anV(p:bq)(day:Int)(hl:p.rules.length<=100)(hn:1000<=n):∃nx fd,Az n p day=some (nx,fd)/\No day p.rules nx fd:=by
 obtain⟨o,g1,g2⟩:=dH (step:=o9 p day) (λ i (v:Int×Int×Bool)=>v.1=(i:Int)/\i<=p.rules.length/\No day (p.rules.take i) v.2.1 v.2.2) (λ o=>No day p.rules o.1 o.2) p.rules.length (λ k v h=>h.2.1) (by
  rintro i ⟨v,nx,fd⟩ ⟨hv,hi,hI⟩;simp only at hv hI;subst hv;by_cases hlt:i<p.rules.length
  .obtain⟨fd1,AH,e1,h1⟩:=aiS p.rules[i].from_ day nx fd;obtain⟨fd2,nx2,e2,h2⟩:=aiS p.rules[i].cM day AH fd1;have htk:p.rules.take (i+1)=p.rules.take i++[p.rules[i]]:=gB hlt;obtain⟨j1,j2⟩:=hI;have hmem:∀r∈p.rules.take i,r∈p.rules.take i++[p.rules[i]]:=λr hr=>List.mem_append_left _ hr;have hself:p.rules[i]∈p.rules.take i++[p.rules[i]]:=List.mem_append_right _ (aQ.2 rfl);have step1:(fd1=true->AH>day/\((∃ r∈p.rules.take i++[p.rules[i]],AH=r.from_)\/∃r∈p.rules.take i++[p.rules[i]],AH=r.cM))/\(∀ r∈p.rules.take i,(r.from_>day->fd1=true/\AH<=r.from_)/\(r.cM≠0->r.cM>day->fd1=true/\AH<=r.cM))/\(p.rules[i].from_>day->fd1=true/\AH<=p.rules[i].from_):=by
    rcases h1 with ⟨rfl,rfl,h⟩ |⟨rfl,rfl,h,h'⟩
    .refine⟨λ hf=>?_,j2,h⟩;have⟨q1,q2⟩:=j1 hf;exact⟨q1,q2.imp (λ ⟨r,hr,e⟩=>⟨r,hmem r hr,e⟩) λ⟨r,hr,e⟩=>⟨r,hmem r hr,e⟩⟩
    .refine⟨λ _=>⟨h,.inl ⟨_,hself,rfl⟩⟩,λr hr=>⟨λ hq=>?_,λh0 hq=>?_⟩,λ_=>⟨rfl,Int.le_refl _⟩⟩
     .have⟨a,b⟩:=(j2 r hr).1 hq;exact⟨rfl,Int.le_trans (h' a) b⟩
     .have⟨a,b⟩:=(j2 r hr).2 h0 hq;exact⟨rfl,Int.le_trans (h' a) b⟩
   obtain⟨s1,s2,s3⟩:=step1;by_cases hu:p.rules[i].cM=0
   .have hu':(p.rules[i].cM !=0)=false:=(by simp[hu]);simp only[o9,bI hlt,aj,bf hlt,af,e1,hu',ak,aK i];refine .inl ⟨_,rfl,rfl,hlt,?_⟩;rw[htk];refine⟨s1,λr hr=>?_⟩;rcases aZ.1 hr with hr |hr
    .exact s2 r hr
    .simp only[aQ]at hr;subst hr;exact⟨s3,λh0=>absurd hu h0⟩
   .have hu':(p.rules[i].cM !=0)=true:=(by simpa using hu);simp only[o9,bI hlt,aj,bf hlt,af,e1,e2,hu',aK i];refine .inl ⟨_,rfl,rfl,hlt,?_⟩;rw[htk];rcases h2 with ⟨rfl,rfl,h⟩ |⟨rfl,rfl,h,h'⟩
    .refine⟨s1,λr hr=>?_⟩;rcases aZ.1 hr with hr |hr
     .exact s2 r hr
     .simp only[aQ]at hr;subst hr;exact⟨s3,λ_=>h⟩
    .refine⟨λ _=>⟨h,.inr ⟨_,hself,rfl⟩⟩,λr hr=>?_⟩;rcases aZ.1 hr with hr |hr
     .refine⟨λ hq=>?_,λh0 hq=>?_⟩
      .have⟨a,b⟩:=(s2 r hr).1 hq;exact⟨rfl,Int.le_trans (h' a) b⟩
      .have⟨a,b⟩:=(s2 r hr).2 h0 hq;exact⟨rfl,Int.le_trans (h' a) b⟩
     .simp only[aQ]at hr;subst hr;refine⟨λ hq=>?_,λ_ _=>⟨rfl,Int.le_refl _⟩⟩;have⟨a,b⟩:=s3 hq;exact⟨rfl,Int.le_trans (h' a) b⟩
  .obtain rfl:i=p.rules.length:=(by omega);simp only[o9,bS,ak];refine .inr ⟨_,rfl,?_⟩;rw[List.take_length]at hI;exact hI) n 0 ((0:Int),(0:Int),false) ⟨rfl,Nat.zero_le _,⟨λ h=>(by cases h),λr hr=>(by simp at hr)⟩⟩ (by omega)
 refine⟨o.1,o.2,?_,g2⟩;unfold Az;rw[g1];rfl
def Xs(l:U bV):Prop:=∀r∈l,r.from_<=9223372036854775807/\r.cM<=9223372036854775807
theorem anW{day nx:Int}{fd:Bool}{l:U bV}(h0:0<=day)(h1:day<=1073741824)(hr:Xs l)(h:No day l nx fd):∃last,((bif fd then some (i64.wrap (nx -1))else some (1073741824:Int)):J Int)=some last/\day<=last/\∀r∈l,¬(r.from_>day/\r.from_<=last)/\¬(r.cM>day/\r.cM<=last):=by
 obtain⟨g1,g2⟩:=h;cases fd with
 |false=>
  refine⟨1073741824,rfl,h1,λr hm=>⟨λ h=>?_,λh=>?_⟩⟩
  .have:=((g2 r hm).1 h.1).1;cases this
  .have:=((g2 r hm).2 (by omega) h.1).1;cases this
 |true=>
  have⟨q1,q2⟩:=g1 rfl;have hx:nx<=9223372036854775807:=by
   rcases q2 with ⟨r,hm,rfl⟩ |⟨r,hm,rfl⟩
   .exact(hr r hm).1
   .exact(hr r hm).2
  refine⟨nx -1,by simp only[aj];rw[dQ (by omega) (by omega)],by omega,λr hm=>⟨λ h=>?_,λh=>?_⟩⟩
  .have:=((g2 r hm).1 h.1).2;omega
  .have:=((g2 r hm).2 (by omega) h.1).2;omega
theorem ahe(l:U Bool)(hl:l.length<n)(hl2:l.length<=1000000000):JN n l l=some true:=by
 unfold JN;have e:((l.length:Int) !=(l.length:Int))=false:=by simp
 rw[e];simp only[ak];rcases R7 (l:=l) (n:=n) (step:=nO l l) (good:=λ_=>True) (λ i hi=>by
  have be:(l[i]==l[i])=true:=by cases l[i]<;>rfl
  simp only[nO,bI hi,aj,bf hi,af,be,Bool.not_true,ak,aK i];exact .inr ⟨trivial,trivial⟩) (by simp only[nO,bS,ak]) hl with h |⟨h,_⟩
 .exfalso;have key:=oF (step:=nO l l) (λ i=>(i:Int)) (s:=(0:Int)) l.length (.inl ()) rfl (λ i hi=>by
   have be:(l[i]==l[i])=true:=(by cases l[i]<;>rfl);simp only[nO,bI hi,aj,bf hi,af,be,Bool.not_true,ak,aK i]) (by simp only[nO,bS,ak]) n hl
  rw[key]at h;cases h
 .rw[h];rfl
theorem anX{t:bT}{a:bq}{day:Int}(h:Fy t.land)(ha:yc (bo t a))(hn:J8 n){i:Nat}(hi:i<(dD n t.land).length):
 iter (iA n t a day ((dD n t.land).map (gH n t day a)) (dD n t.land) (i:Int)) n (0:Int)=some (.inl ()):=by
 have hn1:=hn.1;have hl:=h.2;have hd:=Lr (getElem_mem hi);obtain⟨lot,hof⟩:=aaS (getElem_mem hi);have hfits:=aiN hof;have hdr:sS n t.land (dD n t.land)[i]=(XF n lot (dD n t.land)[i],true):=by unfold sS;rw[hof.T3];simp only[hfits,aj]
 obtain⟨HC,k,hk,hke,hbef⟩:=List.find?_eq_some_iff_getElem.1 hof.T3;generalize hL:dD n t.land=L at hi hd hof hfits hdr HC hbef;obtain⟨o,g1,g2⟩:=dH (step:=iA n t a day (L.map (gH n t day a)) L (i:Int)) (λ j (v:Int)=>v=(j:Int)/\j<=k) (λ o=>o= .inl ()) k (λ _ v h=>h.2) (by
  rintro j v ⟨rfl,hj⟩;have hjl:j<t.land.length:=by omega
  by_cases hjk:j<k
  .have hne:(t.land[j].id !=L[i].lot)=true:=by
    have:=hbef j hjk;simpa using this
   simp only[iA,bI hjl,aj,bf hjl,af,bZ,bf hi,hne,aK j];exact .inl ⟨_,rfl,rfl,hjk⟩
  .obtain rfl:j=k:=(by omega);have hne:(lot.id !=L[i].lot)=false:=by
    have:(lot.id==L[i].lot)=true:=HC;simp only[bne,this,Bool.not_true]
   have hP:=aeV (n:=n) (lot:=lot) (by rw[<- hke];exact h.1 _ (getElem_mem hjl)) (by omega) L[i];rw[hfits]at hP;simp only[aj]at hP;have hLw:gF n (bT.mk a.defs a.tables a.zones a.rules a.caps a.views a.nr a.hours t.land t.bz t.windows t.built t.base) (XF n lot L[i]) day=some (gH n t day a L[i]):=by
    have:=UL (d:=XF n lot L[i]) day ha (aiO n lot L[i]) hn;have e:gH n t day a L[i]=XH n (bo t a) (XF n lot L[i]) day:=(by unfold gH;rw[hdr]);rw[e];exact this
   have hi':i<(L.map (gH n t day a)).length:=(by simpa using hi);have hg:(L.map (gH n t day a))[i]=gH n t day a L[i]:=(by simp);have be:∀x:Bool,(x==x)=true:=λx=>(by cases x<;>rfl);simp only[iA,bI hjl,aj,bf hjl,af,bZ,bf hi,hne,ak,hke,hP,Bool.not_true,hLw,aU hi',aX hi',hg,be];exact .inr ⟨_,rfl,rfl⟩) n 0 0 ⟨rfl,Nat.zero_le _⟩ (by omega)
 rw[g1,g2]
theorem IY(hs:CU 5000003=some true)(t:bT)(a:bq)(day:Int)(ht:aor t)(ha:Fz a)(hra:Xs a.rules):mM 5000003 t a day=some true:=by
 have hmem:∀p∈[a],Fz p:=λp hp=>by simp only[aQ]at hp;subst hp;exact ha
 obtain⟨few,hf,SD⟩:=amx (n:=5000003) (t:=t) (l:=[a]) ht.plan hmem (by simp) (by omega);unfold mM;rw[hs,show sub [a] 0 1=[a]from rfl,show az [a].length 1=true from rfl,hf];simp only[af,aj];cases few with
 |false=>rfl
 |true=>
  have hF:=SD rfl;have qn:=amy (hF a (by simp)).2;have hA:=anU ha (hF a (by simp)).1 (hF a (by simp)).2 ht.y6;have hB:yc (bo t (FB a)):=⟨hA.lots,hA.land,hA.xr,hA.built,hA.zones,Nat.zero_le _,hA.rules,hA.rule,⟨hA.plan.defs,hA.plan.tabs⟩⟩;by_cases c1:day<0
  .simp only[Bool.not_true,ak,c1,decide_true,aj,af]
  by_cases c2:day>1073741824
  .simp only[Bool.not_true,ak,c1,c2,decide_true,decide_false,aj,af]
  have e1:=IX (day:=day) qn hA n42;have e2:=aaQ (n:=5000003) (land:=t.land) qn.1 qn.2 (by omega);have hlen:=EY 5000003 t.land qn.2;obtain⟨nx,fd,e3,hnx⟩:=anV (n:=5000003) a day (by have:=(hF a (by simp)).1.rules;omega) (by omega);obtain⟨last,e4,hl1,hl2⟩:=anW (by omega) (by omega) hra hnx;have e5:=IX (day:=last) qn hB n42;have hsame:(dD 5000003 t.land).map (gH 5000003 t last (FB a))=(dD 5000003 t.land).map (gH 5000003 t day a):=by
   refine List.map_congr_left λp _=>?_;unfold gH;rw[akf hA (IW _ _ _) (ae2 _ _ _) n42,<- amz (day:=day) (later:=last) hl1 hl2]
  rw[hsame]at e5;have e5':gQ 5000003 t (bq.mk a.defs a.tables a.zones a.rules ([]) ([]) a.nr 0) last=_:=e5;have hlm:(((((dD 5000003 t.land).map (gH 5000003 t day a)).length:Nat):Int) !=((((dD 5000003 t.land).length:Nat):Int):Int))=false:=by simp
  have loop:iter (iB 5000003 t a day ((dD 5000003 t.land).map (gH 5000003 t day a)) (dD 5000003 t.land)) 5000003 (0:Int)=some (.inl ()):=by
   refine oF (step:=iB 5000003 t a day ((dD 5000003 t.land).map (gH 5000003 t day a)) (dD 5000003 t.land)) (λ i=>(i:Int)) (s:=(0:Int)) (dD 5000003 t.land).length (.inl ()) rfl (λ i hi=>?_) ?_ 5000003 (by omega)
   .simp only[iB,bZ,bI hi,aj,anX qn hA n42 hi,dW,aK i]
   .simp only[iB,bZ,bS,ak]
  have hB2:=ahe (n:=5000003) ((dD 5000003 t.land).map (gH 5000003 t day a)) (by rw[length_map];omega) (by rw[length_map];omega);simp only[Bool.not_true,ak,c1,c2,decide_false,af,e1,e2,bZ,aD,aj,hlm,loop,dW,e3,e4,e5',hB2]
def eL:U bU:=[bU.mk 1 0 [ax.mk 0 0 4 4] []]
def ey:bT:=bT.mk [] [] [] [] [] [] [] 0 eL [] [] [] []
def jc(k:Int):bq:=bq.mk [] [] [] [(bV.mk (⟨#[97]⟩) ([]) ([]) 0 0 0 false 0 12 0 (⟨#[]⟩) (⟨#[]⟩) [(cu.mk 1 0 (⟨#[104,101,105,103,104,116]⟩) (⟨#[]⟩) ([])),(cu.mk 0 k (⟨#[]⟩) (⟨#[]⟩) ([]))] 0 0 0 0 0 0 0)] [] [] [] 0
theorem anY(k:Int):fB k=some (jc k):=rfl
theorem Bl(k:Int):yc (bo ey (jc k)) where
 lots:=λl hl=>by
  have hl:l∈eL:=hl;simp only[eL,aQ]at hl;subst hl;exact⟨by decide,by decide⟩
 land:=by show eL.length<=1000;decide
 xr:=⟨Nat.zero_le _,λe he=>by have he:e∈([]:U jl):=he;simp at he⟩
 built:=Nat.zero_le _
 zones:=Nat.zero_le _
 caps:=Nat.zero_le _
 rules:=by show 1<=100;decide
 rule:=λr hr=>by
  have hr:r∈(jc k).rules:=hr;simp only[jc,aQ]at hr;subst hr;exact⟨⟨Nat.zero_le _,Nat.zero_le _⟩,Nat.le_of_ble_eq_true (by kernel_rfl)⟩
 plan:=⟨Nat.le_of_ble_eq_true (by kernel_rfl),⟨Nat.zero_le _,λx hx=>by have hx:x∈([]:U cB):=hx;simp at hx⟩⟩
theorem IZ:Fy ey.land:=⟨λ l hl=>by
 have hl:l∈eL:=hl;simp only[eL,aQ]at hl;subst hl;decide,by show eL.length<=500;decide⟩
def SS(k:Int)(p:aS):Bool:=gH 5000003 ey 0 (jc k) p
def lw:U aS:=(List.range 2).flatMap λ(i:Nat)=>(List.range 72).map λ(k:Nat)=>aS.mk 1 ((k%6:Nat):Int) ((k/6+1:Nat):Int) (i:Int)
def IR:Qt:=[(lC.mk 1 0,16),(lC.mk 1 1,4)]
theorem aiT:((zb 5000003 eL).1,(zb 5000003 eL).2.2)=(IR,lw):=by kernel_rfl
def uI:bU:=bU.mk 1 0 [ax.mk 0 0 4 4] []
def uN(p:aS):bg:=(sS 5000003 eL p).1
set_option maxRecDepth 100000 in
theorem anZ:(lw.all λp=>p.lot==1&&(y9 5000003 (bo ey (jc 0)) (uN p)==0&&!XC (bo ey (jc 0)) (uN p)))=true:=by kernel_rfl
set_option maxRecDepth 100000 in
theorem ao6:(lw.all λp=>((iW 5000003 (fS (bo ey (jc 0))) uI (uN p)).bind λms=>(ms[4]?).map λe=>e.n)==some (p.floors*3))=true:=by kernel_rfl
def IP(k:Int):bV:=bV.mk (⟨#[97]⟩) ([]) ([]) 0 0 0 false 0 12 0 (⟨#[]⟩) (⟨#[]⟩) [(cu.mk 1 0 (⟨#[104,101,105,103,104,116]⟩) (⟨#[]⟩) ([])),(cu.mk 0 k (⟨#[]⟩) (⟨#[]⟩) ([]))] 0 0 0 0 0 0 0
def Nm(e1 e2 e3 e4 e5 e6 e7 e8 e9:Int):U bR:=[⟨⟨#[97,114,101,97]⟩,e1⟩,⟨⟨#[99,111,118,101,114]⟩,e2⟩,⟨⟨#[102,108,111,111,114]⟩,e3⟩,⟨⟨#[102,108,111,111,114,115]⟩,e4⟩,⟨⟨#[104,101,105,103,104,116]⟩,e5⟩,⟨⟨#[104,111,109,101,115]⟩,e6⟩,⟨⟨#[114,117,110,111,102,102]⟩,e7⟩,⟨yB,e8⟩,⟨⟨#[116,114,97,102,102,105,99]⟩,e9⟩]
def t6:U Int:=[3,5,6,7,9]
def C6:U Int:=[1,2,3,4,5,6,7,8,9,10,11,12]
theorem amC(e1 e2 e3 e4 e6 e7 e8 e9:Int):(t6.all λk=>C6.all λf=>(vN 5000003 (fS (bo ey (jc 0))) (Nm e1 e2 e3 e4 (f*3) e6 e7 e8 e9) [] (jp (IP k))==some (bif decide (f*3<=k)then 1 else 0)))=true:=by kernel_rfl
theorem apI{k:Int}(hk:k∈t6){p:aS}(hp:p∈lw)(hf:p.floors∈C6):SS k p=decide (p.floors*3<=k):=by
 have h1:=all_eq_true.1 anZ p hp;have h2:=all_eq_true.1 ao6 p hp;simp only[aL,beq_iff_eq,Bool.not_eq_true']at h1 h2;obtain⟨hl,HJ,SO⟩:=h1;have hD:Zb (uN p):=IW _ _ _;have A6:kM (bo ey (jc k)) (uN p)=uI:=by
  have hd:(uN p).lot=1:=by
   have he:y9 5000003 (bo ey (jc 0)) (uN p)=0:=HJ;unfold y9 at he;cases hc:(jv (bo ey (jc 0)).land (uN p).lot).2 with
   |false=>rw[hc]at he;cases he
   |true=>
    have:jv eL (uN p).lot=if (1:Int)=(uN p).lot then(uI,true)else(NL,false):=by
     unfold jv eL;simp only[List.find?_cons,List.find?_nil];by_cases h:(1:Int)=(uN p).lot
     .have hb:((1:Int)==(uN p).lot)=true:=(by simpa using h);rw[aY h,hb];rfl
     .have hb:((1:Int)==(uN p).lot)=false:=(by simpa using h);rw[aR h,hb]
    have hc':(jv eL (uN p).lot).2=true:=hc;rw[this]at hc';by_cases h:(1:Int)=(uN p).lot
    .exact h.symm
    .rw[aR h]at hc';cases hc'
  show(jv eL (uN p).lot).1=_;rw[hd];rfl
 obtain⟨e1,e2,e3,e4,e5,e6,e7,e8,B4⟩:=aoq (n:=5000003) (p:=fS (bo ey (jc 0))) (lot:=uI) (d:=uN p) ⟨Nat.zero_lt_succ _,Nat.zero_le _,λx hx=>by have hx:x∈([]:U cB):=hx;simp at hx⟩ (by decide) hD.1 (by omega);have hms:iW 5000003 (fS (bo ey (jc 0))) uI (uN p)=some (Nm e1 e2 e3 e4 e5 e6 e7 (qU (mZ uI) (fC (uN p))) e8):=B4 [];have h5:e5=p.floors*3:=by
  rw[hms]at h2;have:some e5=some (p.floors*3):=h2;injection this
 have hev:=all_eq_true.1 (all_eq_true.1 (amC e1 e2 e3 e4 e6 e7 (qU (mZ uI) (fC (uN p))) e8) k hk) p.floors hf;rw[beq_iff_eq]at hev;have So:iW 5000003 (fS (bo ey (jc k))) uI (uN p)=some (Nm e1 e2 e3 e4 (p.floors*3) e6 e7 (qU (mZ uI) (fC (uN p))) e8):=h5 ▸ hms;have hz:pE (bo ey (jc k)) uI=[]:=rfl;have hb:XB 5000003 (bo ey (jc k)) uI (uN p) (IP k)=!decide (p.floors*3<=k):=by
  have ht:XA 5000003 (bo ey (jc k)) uI (uN p) (IP k)=!decide (p.floors*3<=k):=by
   unfold XA;rw[So,hz];have SJ:vN 5000003 (fS (bo ey (jc k))) (Nm e1 e2 e3 e4 (p.floors*3) e6 e7 (qU (mZ uI) (fC (uN p))) e8) [] (jp (IP k))=_:=hev;simp only[af,SJ,Option.getD_some];cases decide (p.floors*3<=k)<;>rfl
  unfold XB;exact ht
 have hap:applied (bo ey (jc k)) uI 0=[IP k]:=rfl;have HI:y9 5000003 (bo ey (jc k)) (uN p)=0:=HJ;have SM:XC (bo ey (jc k)) (uN p)=false:=SO;show XH 5000003 (bo ey (jc k)) (uN p) 0=_;unfold XH AB;rw[HI,A6,hap,SM];unfold IU;simp only[foldl_cons,List.foldl_nil,hb];cases decide (p.floors*3<=k)<;>rfl
theorem ahf:(lw.all λp=>C6.contains p.floors)=true:=by kernel_rfl
theorem rZ{k:Int}(hk:k∈t6){p:aS}(hp:p∈lw):SS k p=decide (p.floors*3<=k):=
 apI hk hp (by have:=all_eq_true.1 ahf p hp;simpa using this)
theorem ae3:(zb 5000003 eL).1=IR:=congrArg Prod.fst aiT
theorem ae4:(zb 5000003 eL).2.2=lw:=congrArg Prod.snd aiT
theorem UM{p:aS}:p∈dD 5000003 eL↔p∈lw:=by rw[(wR 5000003 eL).mem_iff,ae4]
def WF(x y:aS):Bool:=Nq vA IR x y
theorem an0(x:aS):WF x x=false:=(WQ vA IR).irrefl x
theorem ahg:List.Pairwise (α:=aS) (λ x y=>WF y x=false) (dD 5000003 eL):=by
 have:=Ng (α:=aS) (WQ vA (zb 5000003 eL).1) (zb 5000003 eL).2.2;rw[ae3]at this;have e:dD 5000003 eL=lu (α:=aS) (Nq vA IR) (zb 5000003 eL).2.2:=by unfold dD;rw[ae3]
 rw[e];exact this
theorem JS{q q':aS->Bool}(hq:∀p∈lw,q p=q' p){p0:aS}(h0:(lw.any λp=>G3 p p0)=true)(h1:q' p0=true)(h2:(lw.all λp=>!q' p || (G3 p p0 || WF p0 p))=true):rY (dD 5000003 eL) q=(p0,true):=by
 obtain⟨p1,hp1,he⟩:=List.any_eq_true.1 h0;rw[aco]at he;subst he;have hmem:=UM.2 hp1;have hs:=ahg;have hin:∀p∈dD 5000003 eL,p∈lw:=λp hp=>UM.1 hp;generalize dD 5000003 eL=L at hmem hs hin;rcases ack L q with ⟨p,hf,hr,hp,hqp⟩ |⟨_,hn⟩
 .have hpr:=hin p hp;rw[hq p hpr]at hqp;have:=all_eq_true.1 h2 p hpr;rw[hqp,Bool.not_true,Bool.false_or,Bool.or_eq_true]at this;rcases this with h |h
  .rw[aco]at h;rw[hr,h]
  .exfalso;obtain⟨_,i,hi,rfl,hbef⟩:=List.find?_eq_some_iff_getElem.1 hf;obtain⟨j,hj,rfl⟩:=List.getElem_of_mem hmem;rcases Nat.lt_trichotomy i j with hij |hij |hij
   .rw[List.pairwise_iff_getElem]at hs;rw[hs i j hi hj hij]at h;cases h
   .subst hij;rw[an0]at h;cases h
   .have:=hbef j hij;rw[hq _ (hin _ hmem),h1]at this;cases this
 .have:=hn p1 hmem;rw[hq p1 hp1,h1]at this;cases this
theorem XJ{q:aS->Bool}(hq:∀p∈lw,q p=false):rY (dD 5000003 eL) q=(XG,false):=aeZ λp hp=>hq p (UM.1 hp)
def SV(k:Int)(p:aS):Bool:=decide (p.floors*3<=k)
theorem aos(a b:Int)(ha:a∈t6)(hb:b∈t6):jY 5000003 ey (jc a) (jc b) 0=some (rY (dD 5000003 eL) λp=>!(SS a p==SS b p)):=amr IZ (Bl a) (Bl b) n42
theorem an1:jY 5000003 ey (jc 6) (jc 9) 0=some (aS.mk 1 0 3 1,true):=by rw[aos 6 9 (by decide) (by decide),JS (q':=λp=>!(SV 6 p==SV 9 p)) (p0:=aS.mk 1 0 3 1) (λ p hp=>by rw[rZ (by decide) hp,rZ (by decide) hp];rfl) (by kernel_rfl) (by kernel_rfl) (by kernel_rfl)]
theorem an2:jY 5000003 ey (jc 6) (jc 7) 0=some (XG,false):=by
 rw[aos 6 7 (by decide) (by decide),XJ λp hp=>by
  rw[rZ (by decide) hp,rZ (by decide) hp];have e:decide (p.floors*3<=6)=decide (p.floors*3<=7):=by rw[decide_eq_decide];omega
  rw[e];cases decide (p.floors*3<=7)<;>rfl]
theorem WD(x a b m:Int):gZ 5000003 ey (jc x) (jc a) (jc b) (jc m) 0=some (rY (dD 5000003 eL) λp=>XI (SS x p) (SS a p) (SS b p) (SS m p)):=ams IZ (Bl x) (Bl a) (Bl b) (Bl m) n42
theorem akg:gZ 5000003 ey (jc 6) (jc 9) (jc 3) (jc 6) 0=some (aS.mk 1 0 2 1,true):=by rw[WD,JS (q':=λp=>XI (SV 6 p) (SV 9 p) (SV 3 p) (SV 6 p)) (p0:=aS.mk 1 0 2 1) (λ p hp=>by rw[rZ (by decide) hp,rZ (by decide) hp,rZ (by decide) hp];rfl) (by kernel_rfl) (by kernel_rfl) (by kernel_rfl)]
theorem akh:gZ 5000003 ey (jc 6) (jc 9) (jc 3) (jc 9) 0=some (aS.mk 1 0 2 1,true):=by rw[WD,JS (q':=λp=>XI (SV 6 p) (SV 9 p) (SV 3 p) (SV 9 p)) (p0:=aS.mk 1 0 2 1) (λ p hp=>by rw[rZ (by decide) hp,rZ (by decide) hp,rZ (by decide) hp];rfl) (by kernel_rfl) (by kernel_rfl) (by kernel_rfl)]
theorem aki:gZ 5000003 ey (jc 6) (jc 9) (jc 6) (jc 9) 0=some (XG,false):=by rw[WD,XJ λp _=>by cases SS 6 p<;>cases SS 9 p<;>rfl]
theorem aot(a b:Int):gP 5000003 ey (jc a) (jc b) 0=some (!(rY (dD 5000003 eL) λp=>SS a p&&!SS b p).2):=aeY IZ (Bl a) (Bl b) n42
theorem an3:gP 5000003 ey (jc 6) (jc 9) 0=some true:=by
 rw[aot,XJ λp hp=>by
  rw[rZ (by decide) hp,rZ (by decide) hp];by_cases h:p.floors*3<=6
  .have h2:p.floors*3<=9:=(by omega);simp[h2]
  .simp[h]]
 rfl
theorem an4:gP 5000003 ey (jc 9) (jc 6) 0=some false:=by
 rw[aot,JS (q':=λp=>SV 9 p&&!SV 6 p) (p0:=aS.mk 1 0 3 1) (λ p hp=>by rw[rZ (by decide) hp,rZ (by decide) hp];rfl) (by kernel_rfl) (by kernel_rfl) (by kernel_rfl)];rfl
theorem aiV:aS.mk 1 0 2 1∈lw:=by
 have:(lw.any λp=>G3 p (aS.mk 1 0 2 1))=true:=by kernel_rfl
 obtain⟨p,hp,he⟩:=List.any_eq_true.1 this;rw[aco]at he;rw[<- he];exact hp
theorem aou(k:Int)(hk:k∈t6):mW 5000003 ey (jc k) (aS.mk 1 0 2 1) 0=some (decide (6<=k)):=by
 have:=aha (n:=5000003) (p:=aS.mk 1 0 2 1) (day:=0) IZ (Bl k) n42;rw[this];have h1:(sS 5000003 ey.land (aS.mk 1 0 2 1)).2=true:=Lr (UM.2 aiV);have h2:gH 5000003 ey 0 (jc k) (aS.mk 1 0 2 1)=decide (2*3<=k):=rZ hk aiV;rw[h1,h2];rfl
theorem ao7:∃l,gQ 5000003 ey (jc 6) 0=some l/\l.length=144:=by
 refine⟨_,IX IZ (Bl 6) n42,?_⟩;rw[length_map];show(dD 5000003 eL).length=144;rw[(wR 5000003 eL).length_eq,ae4];rfl
theorem an5:CU 5000003=some true:=by
 have a1:=an1;have a2:=an2;have a3:=akg;have a4:=akh;have a5:=aki;have a6:=an3;have a7:=an4;have a8:=aou 6 (by decide);have a9:=aou 5 (by decide);obtain⟨l,b1,b2⟩:=ao7;have hs:∀r:ax,sub [r] 0 1=[r]:=λ_=>rfl;have hs2:∀r:bU,sub [r] 0 1=[r]:=λ_=>rfl;simp only[ey,eL]at a1 a2 a3 a4 a5 a6 a7 a8 a9 b1;simp only[CU,anY,af,hs,hs2,length_singleton,aD,aj,a1,a2,a3,a4,a5,a6,a7,a8,a9,b1,b2];rfl
mutual
theorem an6:∀g:cu,(toE g).wt<=jG (qZ g)
 |⟨op,n,s,key,args⟩=>by
  have:=Ow args;simp only[toE,ET.wt,qZ,jG,nq];omega
theorem Ow:∀l:List cu,ET.tg (Ij l)<=A7 (tK l)
 |[]=>by simp[Ij,ET.tg]
 |x::xs=>by
  have h1:=an6 x;have h2:=Ow xs;simp only[Ij,ET.tg,tK,A7];omega
end
theorem JU:∀l:U fw,rj (l.map toD)<=A7 (l.map Ei)
 |[]=>by simp[rj]
 |x::xs=>by
  have h1:=JU xs;have h2:=Ow x.ep;simp only[rj]at h1;simp only[aF,rj,List.foldr_cons,toD,ET.wt,A7,Ei,jG,nq,<- tL];omega
theorem akj(t:bT):rj (t.cj.map toD)<=jG (JE t):=by
 have:=JU t.cj;simp only[JE,jG,nq];omega
theorem ae5{X:SX}{c:CT X.ι}{cs:U (CT X.ι)}{ss:U VS}(hs:zK (uc n) (c::cs)=some ss)(q:HL X.toSE (c::cs))(h:KD ss (HL.mm X.toSE (c::cs) q)):∃s ss',uc n c=some s/\zK (uc n) cs=some ss'/\xz s (CT.tv X.toSE c q.1)/\KD ss' (HL.mm X.toSE cs q.2):=by
 simp only[zK]at hs;rw[ai]at hs;obtain⟨a,h1,hs⟩:=hs;rw[ai]at hs;obtain⟨b,h2,hs⟩:=hs;cases hs;exact⟨a,b,h1,h2,h.1,h.2⟩
theorem ao8{X:SX}{i:X.ι}{s:VS}{x:X.T i}(hs:uc n (.st i)=some s)(h:xz s (CT.tv X.toSE (.st i) x)):∃l,sE (X:=X) n (.st i)=some l/\c9 l (X.row i x):=by
 simp only[uc]at hs;obtain⟨l,h1,rfl⟩:=dI.1 hs;obtain⟨ys,e,hf⟩:=h;rw[CT.tv]at e;injection e with e;exact⟨l,h1,by rw[e];exact hf⟩
theorem UN:∀{cs:U CS}{ts:U Tree},c9 cs ts->∀{i:Nat}{c:CS}{x:Tree},cs[i]? =some c->ts[i]? =some x->Fit c x
 |c::cs,x::ts,h,0,c',x',hc,hx=>by
  simp only[List.getElem?_cons_zero,aA]at hc hx;subst hc;subst hx;simp only[c9]at h;exact h.1
 |c::cs,x::ts,h,i+1,c',x',hc,hx=>by
  simp only[List.getElem?_cons_succ]at hc hx;simp only[c9]at h;exact UN h.2 hc hx
 |[],_,h,_,_,_,hc,_=>by simp at hc
 |_::_,[],h,_,_,_,_,hx=>by simp at hx
theorem ao9{row:U CS}{α:Type}{l:U α}{f:α->U Tree}(h:Fit (.sl row) (.sl (l.map f))):l.length<=maxLen/\l.length*JT row<=reachBytes/\∀x∈l,c9 row (f x):=by
 simp only[Fit]at h;obtain⟨rows,e,⟨h1,h2⟩,h3⟩:=h;cases e;rw[length_map]at h1 h2;exact⟨h1,h2,λx hx=>h3 _ (mem_map.2 ⟨x,hx,rfl⟩)⟩
noncomputable def Wr:U CS:=(sE (X:=xx) 6 (.st SI.Rule)).getD []
theorem aiW{x:Int}(h:Fit (.int .i64) (.sc (.int .i64 x))):x<=9223372036854775807:=by
 obtain⟨n,e,hw⟩:=h;injection e with e;injection e with _ e;subst e;simp only[Lit.wf,aL,aV]at hw;exact hw.2
theorem ahh{a:bq}{s:VS}(hs:uc (X:=xx) (n+8) (.st SI.k8)=some s)(h:xz s (CT.tv xx.toSE (.st SI.k8) a)):Xs a.rules:=by
 have⟨l,h1,h2⟩:=ao8 hs h;have h3:((sE (X:=xx) (n+8) (.st SI.k8)).bind λl=>l[3]?)=some (.sl Wr):=by kernel_rfl
 rw[h1]at h3;have f3:=UN h2 (i:=3) h3 (x:= .sl (a.rules.map q8)) rfl;have⟨_,_,g3⟩:=ao9 f3;intro r hr;have k3:Wr[3]? =some (.int .i64):=by kernel_rfl
 have k4:Wr[4]? =some (.int .i64):=by kernel_rfl
 exact⟨aiW (UN (g3 r hr) k3 (x:= .sc (.int .i64 r.from_)) rfl),aiW (UN (g3 r hr) k4 (x:= .sc (.int .i64 r.cM)) rfl)⟩
theorem Ox{r:U Tree}:∀{l:U (List Tree)},r∈l->jG r<=A7 l
 |x::l,h=>by
  rw[A7];rcases aN.1 h with rfl |h
  .omega
  .have:=Ox h;omega
theorem aaT(r:bV):(toE (jp r)).wt<=jG (q8 r):=by
 have h:=Ow r.ga;rw[tL]at h;simp only[jp,toE,ET.wt,q8,jG,nq];omega
theorem aaU:∀l:U Int,l.length<=A7 (l.map λy=>[Tree.sc (.int .i64 y)])
 |[]=>by simp
 |x::l=>by
  have:=aaU l;simp only[aF,A7,jG,nq,bJ];omega
theorem apa{p:bq}(h:jG (UC p)<=1048576):Fz p:=by
 have hd:=JU p.defs;simp only[UC,jG,nq]at h;refine⟨by unfold il;omega,λr hr=>?_⟩;have h1:=aaT r;have h2:=Ox (mem_map.2 ⟨r,hr,rfl⟩:q8 r∈p.rules.map q8);omega
theorem apb{t:bT}(h:jG (JE t)<=1048576):aor t:=by
 have hd:=akj t;have hd2:=JU t.cj;simp only[JE,jG,nq]at h;refine⟨⟨by show rj (t.cj.map toD)<=_;omega,λr hr=>?_⟩,λl hl=>?_⟩
 .have h1:=aaT r;have h2:=Ox (mem_map.2 ⟨r,hr,rfl⟩:q8 r∈t.bj.map q8);omega
 .have h1:=aaU l.from_;have h2:=Ox (mem_map.2 ⟨l,hl,rfl⟩:Ld l∈t.land.map Ld);have h3:A7 (l.from_.map λy=>[Tree.sc (.int .i64 y)])<=jG (Ld l):=by simp only[Ld,jG,nq];omega
  omega
theorem J9{ss:U VS}(q:HL xx.toSE [.st SI.ov,.st SI.k8,.int .i64])(hs:zK (uc (X:=xx) 8) [.st SI.ov,.st SI.k8,.int .i64]=some ss)(hq:KD ss (HL.mm xx.toSE [.st SI.ov,.st SI.k8,.int .i64] q))(hb:xy (HL.mm xx.toSE [.st SI.ov,.st SI.k8,.int .i64] q)<=1048576):∃k,mM k q.1 q.2.1 q.2.2.1=some true:=by
 have h2:jG (JE q.1)+(jG (UC q.2.1)+(1+0))<=1048576:=hb;have⟨_,_,_,a1,_,b1⟩:=ae5 hs q hq;have⟨_,_,h3,_,h4,_⟩:=ae5 a1 q.2 b1;exact⟨5000003,IY an5 q.1 q.2.1 q.2.2.1 (apb (by omega)) (apa (by omega)) (ahh (n:=0) h3 h4)⟩
end Go.Proofs
