import Derived.Test.YthblhgapkimgcaaGreatS1
open Go.IntKind (i64)
open List (length_take mem_map all_eq_true getElem_mem length_map length_nil foldl_cons mem_filter length_singleton map_append)
namespace Go.Proofs
open Go.Gb Go.RowKit
variable {n:Nat}
theorem ant{p:bn}{ms:List bS}{zs:List ByteArray}{e:cu}(hp:Xs p)(hm:ms.length<=4000000)(hz:zs.length<=4000000)(he:(toE e).wt<=4000000)(hn:5000003<=n)(hn2:n<=9223372036854775000):∃v,vL n p ms zs e=some v:=by
 obtain⟨b,hb,hv⟩:=RZ (n:=n) (by omega) hn2 he;simp only[vL,y8,hb,af];cases b with
 |false=>exact⟨_,rfl⟩
 |true=>
  have⟨kn,ab,h1,_⟩:=Ld (n:=n) hp hm hz hn hn2;obtain⟨v,h2⟩:=Xr (n:=n) (a0:=p.defs) (a2:=p.zones) (a3:=p.rules) (a4:=p.caps) (a5:=p.views) (a6:=p.ml) (a7:=p.hours) (by omega) hp.tabs hz n e kn (hv rfl) he;simp only[Bool.not_true,ak,h1,af,gm,h2];exact⟨_,rfl⟩
section
variable {n:Nat} {d:List fA} {ts:List cB} {z:List dO} {r r':List bJ} {c c':List fV} {v v':List eU} {su sn:List bV} {h h':Int} {zs:List ByteArray}
theorem IG:∀(m:Nat)(e:cu)(kn:List (ByteArray×Int)),cK n m d ts z r c v su h zs e kn=cK n m d ts z r' c' v' sn h' zs e kn
 | 0,_,_=>rfl
 |m+1,e,kn=>by
  have ih:=IG m;have hs:fw n (cK n m) d ts z r c v su h zs e=fw n (cK n m) d ts z r' c' v' sn h' zs e:=by
   funext ⟨v1,v2,v3⟩;simp only[fw,ih]
  have hr:∀w,jm n d ts z r c v su h zs e w=jm n d ts z r' c' v' sn h' zs e w:=λ_=>rfl;show fE n (cK n m) d ts z r c v su h zs e kn=fE n (cK n m) d ts z r' c' v' sn h' zs e kn;simp only[fE,hs,y8,hr]
theorem agT{ms:List bS}:(mh n (bn.mk d ts z r c v su h) ms zs).map (λ q=>q.2.2.2.2.2.2.2.2.2)=(mh n (bn.mk d ts z r' c' v' sn h') ms zs).map (λ q=>q.2.2.2.2.2.2.2.2.2):=by
 have hs:∀w2 r1,gJ n (bn.mk d ts z r c v su h) zs w2 r1=gJ n (bn.mk d ts z r' c' v' sn h') zs w2 r1:=by
  intro w2 r1;funext ⟨v6,v7,v8⟩;have hv:∀e kn,gm n d ts z r c v su h zs e kn=gm n d ts z r' c' v' sn h' zs e kn:=λe kn=>IG n e kn;simp only[gJ,hv]
 have ho:nL n (bn.mk d ts z r c v su h)=nL n (bn.mk d ts z r' c' v' sn h'):=rfl;simp only[mh,hs,ho];cases iter (jY n ms) n ((0:Int),([]:(List (ByteArray×Int))),([]:(List (ByteArray×Bool))))with
 |none=>rfl
 |some w=>
  obtain⟨w1,w2⟩:=w;simp only[af];cases (decide ((d.length:Int)<=(d.length:Int))&&(decide (0<=(d.length:Int))&&zG (d.length:Int) 8))with
  |false=>rfl
  |true=>
   simp only[aj];cases nL n (bn.mk d ts z r' c' v' sn h')with
   |none=>rfl
   |some r1=>
    simp only[af];cases (r1.2.2 !=(0:Int))with
    |true=>
     simp only[aj];cases az (((d.length:Int):Int).toNat) (List.replicate ((d.length:Int):Int).toNat (0:Int)).length<;>rfl
    |false=>
     simp only[ak];cases iter (gJ n (bn.mk d ts z r' c' v' sn h') zs w2 r1) n ((0:Int),w1,(List.replicate ((d.length:Int):Int).toNat (0:Int)))with
     |none=>rfl
     |some q=>
      obtain⟨w3,w4⟩:=q;simp only[af];cases az (((d.length:Int):Int).toNat) w4.length<;>rfl
theorem agU{ms:List bS}{e:cu}(hp:ii d)(ht:MD ts)(hm:ms.length<=4000000)(hz:zs.length<=4000000)(hn:5000003<=n)(hn2:n<=9223372036854775000):vL n (bn.mk d ts z r c v su h) ms zs e=vL n (bn.mk d ts z r' c' v' sn h') ms zs e:=by
 have⟨kn,ab,h1,_⟩:=Ld (n:=n) (p:=bn.mk d ts z r c v su h) ⟨hp,ht⟩ hm hz hn hn2;have⟨kn2,out2,h2,_⟩:=Ld (n:=n) (p:=bn.mk d ts z r' c' v' sn h') ⟨hp,ht⟩ hm hz hn hn2;have h3:=agT (n:=n) (d:=d) (ts:=ts) (z:=z) (r:=r) (r':=r') (c:=c) (c':=c') (v:=v) (v':=v') (su:=su) (sn:=sn) (h:=h) (h':=h') (zs:=zs) (ms:=ms);rw[h1,h2]at h3;simp only[Option.map_some,aA,Prod.mk.injEq]at h3;obtain⟨rfl,rfl⟩:=h3;simp only[vL,h1,h2,af,gm,IG (r:=r) (r':=r') (c:=c) (c':=c') (v:=v) (v':=v') (su:=su) (sn:=sn) (h:=h) (h':=h')]
end
theorem SK{b:ax}{l:List dV}{s:List fQ}(ha:∀c∈s,c.area.length<=200)(hs:s.length<=1000)(hl:l.length<=1000)(hn:2000<=n):
 xW n b l s=some (EP b l&&(EQ s&&!(s.any λc=>decide (LR b l c.area<c.z1)))):=by
 unfold xW;rw[Xj b l hl hn];simp only[af];cases hv:EP b l with
 |false=>simp only[Bool.not_false,aj,af,Bool.false_and]
 |true=>
  have⟨v1,v2⟩:=(aeo b l).1 hv;simp only[Bool.not_true,ak,RX (n:=n) (s:=s) (λ x hx=>by have:=ha x hx;omega) (by omega),af,Bool.true_and];cases hr:EQ s with
  |false=>simp only[Bool.not_false,aj,Bool.false_and]
  |true=>
   have⟨_,sok,_⟩:=(Xl s).1 hr;simp only[Bool.not_true,ak,Bool.true_and];rw[sK (λ c=>decide (LR b l c.area<c.z1)) (λ c hc=>by
    have:=ha c hc;show rq n c b l=_;unfold rq;rw[SG v1 v2 (uy (sok c hc).rt).1 (by omega) hl hn];rfl) (by omega) (by omega)]
   simp only[af]
def vw(v:aH):List fQ:=[⟨v.er,v.eb,[iw v]⟩]
theorem aeE(v:aH):xS v=some (vw v):=rfl
def UF(b:ax)(p:dV)(v:aH):Bool:=EP b [p]&&(EQ (vw v)&&!((vw v).any λc=>decide (LR b [p] c.area<c.z1)))
def Qq(r:bJ):dV:=dV.mk r.gR r.gS r.jn r.jp
theorem abZ(v:aH)(b:ax)(r:bJ)(hn:2000<=n):jO n v b r=some (!UF b (Qq r) v):=by
 have h:=SK (n:=n) (b:=b) (l:=[Qq r]) (s:=vw v) (by simp[vw]) (by simp[vw]) (by simp) hn;unfold Qq at h;have hl:(vw v).length=1:=rfl;simp only[jO,aeE,af,bZ,aD,aj,show ∀x:dV,sub [x] 0 1=[x]from λ_=>rfl,length_singleton,h,UF,Qq];rfl
def Mz(r:bJ)(v:aH):Bool:=bits .and .i64 r.uses (i64.wrap (1*2 ^ (v.use:Int).toNat))==(0:Int)
theorem ab0{v:aH}(h:okV v=true)(r:bJ):jP v r=some (Mz r v):=by
 have hu:0<=v.use/\v.use<6:=by
  simp only[okV,aK,aS]at h;omega
 have hb:i64.bits=64:=rfl;simp only[jP,Mz,show(decide (0<=v.use)&&decide (v.use<=i64.bits))=true from by simp[hb];omega,aj]
def Pa(lot:Int)(r:bJ)(v:aH)(b:iD):Bool:=(dU b (l6.mk [] [] [] [] [] [] [] 0 [] [] [] [] [] 0 0 [] [] lot [] [] []) v r).getD false
theorem aeF{b:iD}{s:l6}{v:aH}{r:bJ}:dU b s v r=some (Pa s.cD r v b):=by
 have key:∃x,dU b (l6.mk [] [] [] [] [] [] [] 0 [] [] [] [] [] 0 0 [] [] s.cD [] [] []) v r=some x:=by
  simp only[dU,iT,alF,af];refine sM (cZ ⟨_,rfl⟩ (cZ ⟨_,rfl⟩ (cZ ⟨_,rfl⟩ ⟨_,rfl⟩))) λ_=>cZ ⟨_,rfl⟩ (sM (cZ (cZ ⟨_,rfl⟩ (cZ ⟨_,rfl⟩ ⟨_,rfl⟩)) (cZ ⟨_,rfl⟩ ⟨_,rfl⟩)) λ_=>cZ ⟨_,rfl⟩ ⟨_,rfl⟩)
 have e:dU b s v r=dU b (l6.mk [] [] [] [] [] [] [] 0 [] [] [] [] [] 0 0 [] [] s.cD [] [] []) v r:=rfl;obtain⟨x,hx⟩:=key;rw[e,Pa,hx];rfl
theorem zJ{l:List iD}{φ:(iD×Unit)->Option Bool}(p:iD->Bool)(h:∀x∈l,φ (x,())=some (p x))(hl:l.length<1099511627776)(hn:l.length<n):jQ n l φ=some (l.any p):=by
 have:qp n l φ=some (xG p l):=gD p h hl hn;simp only[jQ,this,af,xH]
def O2(built:List iD)(lot:Int)(r:bJ)(v:aH):Bool:=built.any (Pa lot r v)
theorem ab3{s:l6}{v:aH}{r:bJ}(hb:s.fS.length<=1000)(hn:2000<=n):jR n v s r=some (O2 s.fS s.cD r v):=by simp only[jR,rQ,zJ (n:=n) (l:=s.fS) (φ:=λ(y1:iD×Unit)=>dU y1.1 s v r) (Pa s.cD r v) (λ x _=>aeF) (by omega) (by omega),af,O2]
def jj(r:bJ):cu:=cu.mk r.kB r.mn r.mm r.i9 r.fW
def il(t:bT):bn:=bn.mk t.ci t.b8 t.b7 [] t.ct t.cj t.cz t.cm
structure Bf(t:bT):Prop where
 lots:∀l∈t.land,DA l
 land:t.land.length<=1000
 zd:t.bx.length<=900/\∀e∈t.bx,e.area.length<=900
 built:t.built.length<=1000
 zones:t.b7.length<=100
 caps:t.ct.length<=4000000
 rules:t.aE.length<=100
 rule:∀r∈t.aE,Xg r/\(toE (jj r)).wt<=4000000
 plan:Xs (il t)
def xt(d:bq):Prop:=Xn d/\IN d
def Oi(n:Nat):Prop:=5000003<=n/\n<=9223372036854775000
def nO(t:bT)(lot:bU):List ByteArray:=D3 t.b7 lot.area
def sL(t:bT)(lot:bU)(d:bq):l6:=l6.mk t.ci t.b8 t.b7 t.aE t.ct t.cj t.cz t.cm t.land t.bx t.windows t.built t.base lot.id lot.owner lot.area lot.from_ d.lot d.phases (kL d) (nO t lot)
theorem alY{d:bq}(h:Xn d)(hn:1001<=n):tO n d=some (kL d):=by
 obtain⟨h1,h2⟩:=h;unfold tO;have key:=p9 (step:=oJ d) (λ i=>((i:Int),(d.phases.take i).flatMap (·.cy))) (s:=((0:Int),([]:List aH))) d.phases.length (kL d) rfl (λ i hi=>by
  have hl:=dC (l:=d.phases.take i) λp hp=>h2 p (List.mem_of_mem_take hp);rw[length_take]at hl;have hv:=h2 _ (getElem_mem hi);generalize hL:(d.phases.take i).flatMap (·.cy)=L at hl;have hap:bQ L.length L.length d.phases[i].cy.length d.phases[i].cy.length 72=true:=dh (by omega) (by simp only[maxLen];omega);simp only[oJ,bO hi,aj,bB hi,af,hap,dN,aD,aL i];rw[gF hi,List.flatMap_append,hL];simp only[List.flatMap_cons,List.flatMap_nil,List.append_nil]) (by simp only[oJ,bX,ak,aD,aj,List.take_length,kL]) n (by omega)
 have hz:az 0 ([]:List aH).length=true:=rfl;simp only[hz,aj,key,af,bZ,aD]
def Wg(n:Nat)(t:bT)(d:bq):Bool:=(oC n (il t) (jo t.land d.lot).1 d).getD false
def wP(n:Nat)(t:bT)(d:bq):Int:=bif(jo t.land d.lot).2 then(bif Wg n t d then 0 else 1)else 4
def apd:l6:=l6.mk ([]) ([]) ([]) ([]) ([]) ([]) ([]) 0 ([]) ([]) ([]) ([]) ([]) 0 0 ([]) ([]) 0 ([]) ([]) ([])
theorem look_eq{t:bT}{d:bq}(ht:Bf t)(hd:xt d)(hn:Oi n):Ag n t d=some (bif wP n t d==0 then sL t (jo t.land d.lot).1 d else apd,wP n t d)/\(wP n t d=0->∀v∈kL d,okV v=true):=by
 obtain⟨hn1,hn2⟩:=hn;have hl:=ht.land;have e1:NG n t.land d.lot=some (jo t.land d.lot):=ajC ht.lots (by omega) (by omega);have hw:=aaz ht.lots d.lot;obtain⟨b,hb,hv⟩:=ajM (n:=n) (p:=il t) (lot:=(jo t.land d.lot).1) (d:=d) ht.caps hw.1 hd.1 hd.2 (by omega);have e2:oC n (bn.mk t.ci t.b8 t.b7 t.aE t.ct t.cj t.cz t.cm) (jo t.land d.lot).1 d=some b:=hb;have e3:CO n (bn.mk t.ci t.b8 t.b7 t.aE t.ct t.cj t.cz t.cm) (jo t.land d.lot).1.area=some (D3 t.b7 (jo t.land d.lot).1.area):=abT _ _ ht.zones hw.1 (by omega);have e4:Wg n t d=b:=by unfold Wg;rw[hb];rfl
 simp only[Ag,e1,e2,e3,alY hd.1 (show 1001<=n by omega),af,bZ,aD,aj,wP,e4];cases (jo t.land d.lot).2 with
 |false=>exact⟨rfl,λh=>absurd (show (4:Int)=0 from h) (by decide)⟩
 |true=>
  cases b with
  |false=>exact⟨rfl,λh=>absurd (show (1:Int)=0 from h) (by decide)⟩
  |true=>exact⟨rfl,λ_=>hv rfl⟩
def My(n:Nat)(t:bT)(lot:bU)(d:bq)(r:bJ):Bool:=((kz n (il t) lot d).bind λms=>vL n (il t) ms (nO t lot) (jj r)).getD 1==0
def Le(n:Nat)(t:bT)(lot:bU)(d:bq)(r:bJ):Bool:=
 bif r.kind==0 then My n t lot d r else bif r.kind==1 then(kL d).any (λ v=>!UF (JL lot.area).1 (Qq r) v)else bif r.kind==2 then(kL d).any (Mz r)else bif r.kind==3 then(kL d).any (O2 t.built d.lot r)else false
theorem Xt{t:bT}(ht:Bf t)(lot:bU):(nO t lot).length<=100:=Nat.le_trans (ank _ _) ht.zones
theorem ajN{t:bT}{lot:bU}{d:bq}{r:bJ}(ht:Bf t)(hl:lot.area.length<=900)(hd:xt d)(hv:∀v∈kL d,okV v=true)(hr:(toE (jj r)).wt<=4000000)(hn:Oi n):mJ n (sL t lot d) r=some (Le n t lot d r):=by
 obtain⟨hn1,hn2⟩:=hn;have hvl:=JM hd.1;have hz:=Xt ht lot;simp only[mJ,gK,Le];cases (r.kind==0)with
 |true=>
  have htb:=ht.plan.tabs;obtain⟨e1,e2,e3,e4,e5,e6,e7,e8,LI⟩:=an1 (n:=n) (p:=il t) (lot:=lot) (d:=d) ⟨by have:=htb.1;omega,by have:=htb.1;omega,λx hx=>by have:=htb.2 x hx;omega⟩ hl hd.1 (by omega);have h1:=LI t.aE;have h2:=LI [];have h2':kz n (il t) lot d=_:=h2;have h1':kz n (bn.mk t.ci t.b8 t.b7 t.aE t.ct t.cj t.cz t.cm) (bU.mk lot.id lot.owner lot.area lot.from_) (bq.mk d.lot d.phases)=_:=h1;obtain⟨v,hE⟩:=ant (n:=n) (p:=il t) (ms:=[⟨⟨#[97,114,101,97]⟩,e1⟩,⟨⟨#[99,111,118,101,114]⟩,e2⟩,⟨⟨#[102,108,111,111,114]⟩,e3⟩,⟨⟨#[102,108,111,111,114,115]⟩,e4⟩,⟨⟨#[104,101,105,103,104,116]⟩,e5⟩,⟨⟨#[104,111,109,101,115]⟩,e6⟩,⟨⟨#[114,117,110,111,102,102]⟩,e7⟩,⟨CY,uE (mY lot) (fH d)⟩,⟨⟨#[116,114,97,102,102,105,99]⟩,e8⟩]) (zs:=nO t lot) (e:=jj r) ht.plan (by simp) (by omega) hr hn1 hn2;have hE':=(agU (n:=n) (d:=t.ci) (ts:=t.b8) (z:=t.b7) (r:=t.aE) (r':=[]) (c:=t.ct) (v:=t.cj) (su:=t.cz) (h:=t.cm) (zs:=nO t lot) (ms:=[⟨⟨#[97,114,101,97]⟩,e1⟩,⟨⟨#[99,111,118,101,114]⟩,e2⟩,⟨⟨#[102,108,111,111,114]⟩,e3⟩,⟨⟨#[102,108,111,111,114,115]⟩,e4⟩,⟨⟨#[104,101,105,103,104,116]⟩,e5⟩,⟨⟨#[104,111,109,101,115]⟩,e6⟩,⟨⟨#[114,117,110,111,102,102]⟩,e7⟩,⟨CY,uE (mY lot) (fH d)⟩,⟨⟨#[116,114,97,102,102,105,99]⟩,e8⟩]) (e:=jj r) ht.plan.defs ht.plan.tabs (by simp) (by omega) hn1 hn2).trans hE;unfold jj at hE';simp only[aj,sL,h1',af,bZ,aD,hE',My,h2',hE,Option.getD_some]
 |false=>
  cases (r.kind==1)with
  |true=>
   simp only[aj,ak,show(sL t lot d).km=lot.area from rfl,show(sL t lot d).cy=kL d from rfl,Oe (n:=n) lot.area hl (by omega),af];rw[fU (λ v=>!UF (JL lot.area).1 (Qq r) v) (λ v _=>abZ v _ r (by omega)) (by omega) (by omega)];rfl
  |false=>
   cases (r.kind==2)with
   |true=>
    simp only[aj,ak,show(sL t lot d).cy=kL d from rfl];rw[fU (Mz r) (λ v hm=>ab0 (hv v hm) r) (by omega) (by omega)];rfl
   |false=>
    cases (r.kind==3)with
    |true=>
     simp only[aj,ak,show(sL t lot d).cy=kL d from rfl];rw[fU (O2 t.built d.lot r) (λ v _=>ab3 (s:=sL t lot d) ht.built (by omega)) (by omega) (by omega)];rfl
    |false=>rfl
def addN(ab:List ByteArray)(name:ByteArray)(bad:Bool):List ByteArray:=bif bad&&!(ab.any (lf name))then ab++[name]else ab
theorem aeG(ab:List ByteArray)(name:ByteArray)(bad:Bool):(addN ab name bad).length<=ab.length+1:=by
 unfold addN;cases (bad&&!(ab.any (lf name)))<;>simp
theorem aeH{name:ByteArray}{bad:Bool}{ab:List ByteArray}(hl:ab.length<=1000)(hn:2000<=n):jA n name bad ab=some (addN ab name bad):=by
 have hmx:maxLen=9223372036854775807:=rfl;have hap:bQ ab.length ab.length (sub [name] 0 1).length 1 16=true:=by simp[bQ,sub];omega
 simp only[jA,bZ,aD,aj,uO (n:=n) (l:=ab) (a:=name) (by omega) (by omega),af,addN,hap,dN];cases bad with
 |false=>rfl
 |true=>cases (ab.any (lf name))<;>rfl
def II(t:bT)(d:bq):Bool:=(kL d).any λv=>!J0 t.bx d.lot (vw v)
def Qr:ByteArray:=⟨#[101,97,115,101,109,101,110,116]⟩
def vz(n:Nat)(t:bT)(lot:bU)(d:bq)(l:List bJ):List ByteArray:=l.foldl (λ ab r=>addN ab r.name (Le n t lot d r)) []
theorem KJ(f:bJ->Bool):∀(l:List bJ)(ab:List ByteArray),(l.foldl (λ ab r=>addN ab r.name (f r)) ab).length<=ab.length+l.length
 |[],ab=>by simp
 |r::l,ab=>by
  have h1:=KJ f l (addN ab r.name (f r));have h2:=aeG ab r.name (f r);rw[foldl_cons,bG];omega
def applied(t:bT)(lot:bU)(day:Int):List bJ:=t.aE.filter (kF (nO t lot) day)
def iM(t:bT)(d:bq):bU:=(jo t.land d.lot).1
def vR(n:Nat)(t:bT)(d:bq)(day:Int):List ByteArray:=bif wP n t d==0 then addN (vz n t (iM t d) d (applied t (iM t d) day)) Qr (II t d)else []
theorem aaC{t:bT}{d:bq}(day:Int)(ht:Bf t)(hd:xt d)(hn:Oi n):oF n t d day=some (vR n t d day,wP n t d):=by
 obtain⟨hk,hv⟩:=look_eq (n:=n) ht hd hn;have hn1:=hn.1;have hvl:=JM hd.1;simp only[oF,hk,af,vR];by_cases h0:wP n t d=0
 ·have TC:(wP n t d==0)=true:=by simp[h0]
  have Tu:(wP n t d !=0)=false:=by simp[h0]
  have hw:=aaz ht.lots d.lot;have hz:=Xt ht (iM t d);have hA:tV n (bn.mk t.ci t.b8 t.b7 t.aE t.ct t.cj t.cz t.cm) (nO t (iM t d)) day=some ((Qo t.aE (nO t (iM t d)) day).map λ(i:Nat)=>(i:Int)):=SC _ _ _ (λ r hr=>(ht.rule r hr).1) ht.rules hz (by omega);have hal:(Qo t.aE (nO t (iM t d)) day).length<=100:=Nat.le_trans (List.length_filter_le _ _) (by rw[List.length_range];exact ht.rules);have hpick:(Qo t.aE (nO t (iM t d)) day).filterMap (λ i=>t.aE[i]?)=applied t (iM t d) day:=RY (kF (nO t (iM t d)) day) t.aE;have hloop:∀A:List Nat,A.length<=100->(∀ i∈A,i<t.aE.length)->iter (mU n t (sL t (iM t d) d,wP n t d) (A.map λ(i:Nat)=>(i:Int))) n ((0:Int),([]:List ByteArray))=some (vz n t (iM t d) d (A.filterMap λi=>t.aE[i]?)):=by
   intro A hA hAr
   have key:=fD (l:=A) (step:=mU n t (sL t (iM t d) d,wP n t d) (A.map λ(i:Nat)=>(i:Int))) (λ i (s:List ByteArray)=>((i:Int),s)) (λ i s=>match t.aE[i]? with
    |some r=>addN s r.name (Le n t (iM t d) d r)
    |none=>s) (λ s=>s) (λ i s=>s.length<=i) (λ i hi s hs=>by
    have hr:=hAr _ (getElem_mem hi);have hlm:(A.map λ(i:Nat)=>(i:Int)).length=A.length:=(by simp);have hg:bo (A.map λ(i:Nat)=>(i:Int)) (((0:Nat):Int)+(i:Int))=some ((A[i]:Nat):Int):=(by rw[aY (by omega)];simp);have hrr:=ht.rule _ (getElem_mem hr);have hb:=ajN (n:=n) (t:=t) (lot:=iM t d) (d:=d) ht hw.1 hd (hv h0) hrr.2 hn;have e:=dJ hr;simp only[mU,hlm,bO hi,aj,aU hi,hg,af,bB hr,hb,aD,aeH (n:=n) (name:=t.aE[A[i]].name) (bad:=Le n t (iM t d) d t.aE[A[i]]) (ab:=s) (by omega) (by omega),aL i,e];exact⟨trivial,Nat.le_trans (aeG _ _ _) (by omega)⟩) (λ s _=>by
    have hlm:(A.map λ(i:Nat)=>(i:Int)).length=A.length:=(by simp);simp only[mU,hlm,bX,ak,aD,aj]) n (by omega) [] (aC _)
   rw[show ((0:Nat):Int)=0 from rfl]at key;rw[key];congr 1;unfold vz;generalize ([]:List ByteArray)=s0;clear key hA
   induction A generalizing s0 with
   |nil=>rfl
   |cons a A ih=>
    have ha:=hAr a (by simp);rw[foldl_cons,List.filterMap_cons];simp only[dJ ha];rw[foldl_cons];exact ih (λ i hi=>hAr i (by simp[hi])) _
  have hlo:=hloop (Qo t.aE (nO t (iM t d)) day) hal (λ i hi=>by
   have:=(mem_filter.1 hi).1;simpa using this)
  rw[hpick]at hlo;have hrl:(vz n t (iM t d) d (applied t (iM t d) day)).length<=100:=by
   have h1:=KJ (Le n t (iM t d) d) (applied t (iM t d) day) [];have h2:(applied t (iM t d) day).length<=100:=Nat.le_trans (List.length_filter_le _ _) ht.rules;unfold vz;simp only[length_nil]at h1;omega
  have hany:gK n (sL t (iM t d) d) (λ (y1:aH×Unit)=>mR n y1.1 t d)=some (II t d):=by
   have hs:∀v,mR n v t d=some (!J0 t.bx d.lot (vw v)):=by
    intro v;have hl1:(vw v).length=1:=rfl;have h:=YX (n:=n) (l:=t.bx) (lot:=d.lot) (s:=vw v) ht.zd.1 ht.zd.2 (by simp[vw]) (by omega);simp only[mR,aeE,af,bZ,aD,aj,h]
   simp only[gK,show(sL t (iM t d) d).cy=kL d from rfl];rw[fU (λ v=>!J0 t.bx d.lot (vw v)) (λ v _=>hs v) (by omega) (by omega)];rfl
  have hsc:sL t (jo t.land d.lot).1 d=sL t (iM t d) d:=rfl;simp only[TC,Tu,aj,ak,hsc,show(sL t (iM t d) d).zones=nO t (iM t d)from rfl,hA,af,length_nil,aD,hlo,hany,aeH (n:=n) (name:=⟨#[101,97,115,101,109,101,110,116]⟩) (bad:=II t d) (ab:=vz n t (iM t d) d (applied t (iM t d) day)) (by omega) (by omega),bZ];rw[h0];rfl
 ·have TC:(wP n t d==0)=false:=by simpa using h0
  have Tu:(wP n t d !=0)=true:=by simpa using h0
  simp only[TC,Tu,aj,ak]
theorem ajO{t:bT}{d:bq}(day:Int)(ht:Bf t)(hd:xt d)(hn:Oi n):iX n t d day=some ((wP n t d==0)&&decide (vR n t d day=[])):=by
 simp only[iX,aaC day ht hd hn,af];cases (wP n t d==0)with
 |false=>rfl
 |true=>
  simp only[aj,Bool.true_and];cases vR n t d day with
  |nil=>rfl
  |cons x l=>
   have:(((x::l).length:Nat):Int)≠0:=(by simp;omega);rw[beq_eq_false_iff_ne.2 this];simp
theorem KL(r:ax):∃q,sG r=some q:=by rw[EM];cases ej r<;>exact⟨_,rfl⟩
theorem Xu(r:ax):∃q,oZ r=some q:=by
 unfold oZ;have⟨q,hq⟩:=KL r;rw[hq];simp only[af]
 first |exact⟨_,rfl⟩ |(cases q.2<;>exact⟨_,rfl⟩)
theorem ab5(r:ax)(d:Int):∃q,NA r d=some q:=by
 unfold NA;rw[iT];simp only[af];have key:∀c x:Bool,∃b,((bif c then some true else some x):Option Bool)=some b:=λc x=>cZ ⟨_,rfl⟩ ⟨_,rfl⟩;have⟨b,hb⟩:=key (!ej r) (decide (d<0));rw[hb];cases b with
 |true=>exact⟨_,rfl⟩
 |false=>
  simp only[af,ak];have⟨q,hq⟩:=KL (ax.mk (i64.wrap (r.x0+(min d (1048576:Int)))) (i64.wrap (r.y0+(min d (1048576:Int)))) (i64.wrap (r.x1 -(min d (1048576:Int)))) (i64.wrap (r.y1 -(min d (1048576:Int)))));rw[hq];exact⟨_,rfl⟩
theorem al0{lot:bU}(ha:lot.area.length<=900)(hn:4000002<=n)(i:Int):∃q,nE n lot i=some q:=by
 unfold nE;rw[Oe (n:=n) lot.area ha (by omega)];simp only[af];have key:∀c1 c2 c3:Bool,∃b,((bif c1 then some true else(bif c2 then some true else some c3)):Option Bool)=some b:=λc1 c2 c3=>cZ ⟨_,rfl⟩ (cZ ⟨_,rfl⟩ ⟨_,rfl⟩);have⟨b,hb⟩:=key (!(JL lot.area).2) (decide (i<0)) (decide (i>20));rw[hb];cases b with
 |true=>exact⟨_,rfl⟩
 |false=>
  simp only[af,ak];have⟨q,hq⟩:=ab5 (JL lot.area).1 i;rw[hq];simp only[af];cases q.2 with
  |false=>exact⟨_,rfl⟩
  |true=>
   have hcl:=Oa (keep:=λp q=>p&&q) lot.area [q.1];have hc:=N9 (n:=n) (a:=lot.area) (b:=[q.1]) (by omega) (by simp) (by omega) (by simp;omega) (by omega);have hA:=Lb (n:=n) (a:=(o8 (λ p q=>p&&q) lot.area [q.1]).1) (by omega) (by omega);have⟨z,hz⟩:=Xu q.1;simp only[Bool.not_true,ak,show ∀r:ax,sub [r] 0 1=[r]from λ_=>rfl,length_singleton,aD,aj,hc,af,hA,hz];cases ((o8 (λ p q=>p&&q) lot.area [q.1]).2==0)<;>exact⟨_,rfl⟩
def ir(n:Nat)(lot:bU)(i:Int):ax×Bool:=(nE n lot i).getD (⟨0,0,0,0⟩,false)
theorem ais{lot:bU}(ha:lot.area.length<=900)(hn:4000002<=n)(i:Int):nE n lot i=some (ir n lot i):=by
 have⟨q,hq⟩:=al0 ha hn i;unfold ir;rw[hq];rfl
def WD(r:ax):Int:=(oZ r).getD 0
theorem al2(r:ax):oZ r=some (WD r):=by
 have⟨q,hq⟩:=Xu r;unfold WD;rw[hq];rfl
def ud(lot:bU)(fL:Int)(k:Nat):aT:=aT.mk lot.id (Int.tmod (k:Int) 6) (i64.wrap ((i64.wrap (Int.tdiv (k:Int) 6))+1)) fL
theorem ajP(lot:bU)(v:Int)(l:List aT)(hl:l.length<=1000000)(hn:1000<=n):iter (lG lot v) n ((0:Int),l)=some (l++(List.range 72).map (ud lot v)):=by
 refine p9 (step:=lG lot v) (λ i=>((i:Int),l++(List.range i).map (ud lot v))) (s:=((0:Int),l)) 72 (l++(List.range 72).map (ud lot v)) (by simp) (λ i hi=>?_) ?_ n (by omega)
 ·have hap:bQ (l++(List.range i).map (ud lot v)).length (l++(List.range i).map (ud lot v)).length 1 1 32=true:=dh (by simp;omega) (by simp only[maxLen,dL,length_map,List.length_range];omega);have hlt:decide ((i:Int)<72)=true:=by simp;omega
  simp only[lG,hlt,aj,show((6:Nat) !=0)=true from rfl,show((6:Int) !=0)=true from rfl,show ∀r:aT,sub [r] 0 1=[r]from λ_=>rfl,length_singleton,hap,dN,aD,aL i];rw[List.range_succ,map_append,<- aM];rfl
 ·have hlt:decide (((72:Nat):Int)<72)=false:=by simp
  simp only[lG,hlt,ak,aD,aj]
abbrev Qs:=List (lC×Int)
def IJ(n:Nat)(lot:bU)(i:Nat)(s:Qs×List aT):Qs×List aT:=
 bif(ir n lot (i:Int)).2 then(rG (G9 (X:=xx) SI.en) (lC.mk lot.id (i:Int)) (WD (ir n lot (i:Int)).1) s.1,s.2++(List.range 72).map (ud lot (i:Int)))else s
def zt(n:Nat)(lot:bU)(s:Qs×List aT):Qs×List aT:=(List.range 21).foldl (λ s i=>IJ n lot i s) s
theorem aaD(n:Nat)(lot:bU)(i:Nat)(s:Qs×List aT):(IJ n lot i s).2.length<=s.2.length+72:=by
 unfold IJ;cases (ir n lot (i:Int)).2<;>simp
theorem aaE(n:Nat)(lot:bU):∀(l:List Nat)(s:Qs×List aT),(l.foldl (λ s i=>IJ n lot i s) s).2.length<=s.2.length+72*l.length
 |[],s=>by simp
 |i::l,s=>by
  have h1:=aaE n lot l (IJ n lot i s);have h2:=aaD n lot i s;rw[foldl_cons,bG];omega
theorem ajQ{lot:bU}(ha:lot.area.length<=900)(hn:4000002<=n)(s:Qs×List aT)(hs:s.2.length<=900000):iter (lH n lot) n ((0:Int),s.1,s.2)=some (zt n lot s):=by
 have key:=fD (l:=List.range 21) (step:=lH n lot) (λ i (s:Qs×List aT)=>((i:Int),s.1,s.2)) (λ i s=>IJ n lot i s) (λ s=>s) (λ i s=>s.2.length<=900000+72*i) (λ i hi s hs=>by
  rw[List.length_range]at hi;have hlt:decide ((i:Int)<21)=true:=by simp;omega
  have hg:(List.range 21)[i]'(by rw[List.length_range];exact hi)=i:=List.getElem_range _;rw[hg];refine⟨?_,by have:=aaD n lot i s;show(IJ n lot i s).2.length<=_;omega⟩;simp only[lH,hlt,aj,ais ha hn,af,IJ];cases hb:(ir n lot (i:Int)).2 with
  |false=>simp only[Bool.not_false,aj,ak,aD,af,aL i]
  |true=>simp only[Bool.not_true,aj,ak,al2,af,aD,ajP (n:=n) lot (i:Int) s.2 (by omega) (by omega),aL i]) (λ s _=>by
  have hlt:decide (((List.range 21).length:Int)<21)=false:=by simp
  simp only[lH,hlt,ak,aD,aj]) n (by rw[List.length_range];omega) s (by simpa using hs)
 exact key
def R4(lot:bU)(seen:List (Int×Bool)):Bool:=(fO js lot.id seen).getD false || (decide (lot.id<0) || decide (lot.id>1073741824))
abbrev xT:=Qs×List (Int×Bool)×List aT
def y9(n:Nat)(lot:bU)(s:xT):xT:=
 bif R4 lot s.2.1 then s else((zt n lot (s.1,s.2.2)).1,rG js lot.id true s.2.1,(zt n lot (s.1,s.2.2)).2)
def za(n:Nat)(land:List bU):xT:=land.foldl (λ s lot=>y9 n lot s) ([],[],[])
theorem al3(n:Nat)(lot:bU)(s:Qs×List aT):(zt n lot s).2.length<=s.2.length+1512:=by
 have:=aaE n lot (List.range 21) s;rw[List.length_range]at this;unfold zt;omega
theorem aaF(n:Nat)(lot:bU)(s:xT):(y9 n lot s).2.2.length<=s.2.2.length+1512:=by
 have:=al3 n lot (s.1,s.2.2);unfold y9;cases R4 lot s.2.1
 ·exact this
 ·simp
theorem Xv(n:Nat):∀(land:List bU)(s:xT),(land.foldl (λ s lot=>y9 n lot s) s).2.2.length<=s.2.2.length+1512*land.length
 |[],s=>by simp
 |lot::l,s=>by
  have h1:=Xv n l (y9 n lot s);have h2:=aaF n lot s;rw[foldl_cons,bG];omega
def fG(n:Nat)(land:List bU):List aT:=lu (α:=aT) (Nh vy (za n land).1) (za n land).2.2
theorem wQ(n:Nat)(land:List bU):(fG n land).Perm (za n land).2.2:=KY (α:=aT) (WJ vy (za n land).1) _
theorem ajR{land:List bU}(ha:∀l∈land,l.area.length<=900)(hl:land.length<=500)(hn:4000002<=n):tL n land=some (fG n land):=by
 have key:=fD (l:=land) (step:=lI n land) (λ i (s:xT)=>((i:Int),s.1,s.2.1,s.2.2)) (λ lot s=>y9 n lot s) (λ s=>(s.1,s.2.2)) (λ i s=>s.2.2.length<=1512*i) (λ i hi s hs=>by
  refine⟨?_,by have:=aaF n land[i] s;show(y9 n land[i] s).2.2.length<=_;omega⟩;simp only[lI,bO hi,aj,bB hi,af,y9];have hk:((bif ((fO js land[i].id s.2.1).getD false)then some true else(bif (decide (land[i].id<(0:Int)))then some true else some (decide (land[i].id>(1073741824:Int))))):Option (Bool))=some (R4 land[i] s.2.1):=by
   unfold R4;cases (fO js land[i].id s.2.1).getD false<;>cases decide (land[i].id<(0:Int))<;>rfl
  rw[hk];cases hb:R4 land[i] s.2.1 with
  |true=>simp only[af,aj,aD,aL i]
  |false=>simp only[af,ak,aj,aD,ajQ (n:=n) (ha _ (getElem_mem hi)) hn (s.1,s.2.2) (by show s.2.2.length<=_;omega),aL i]) (λ s _=>by simp only[lI,bX,ak,aD,aj]) n (by omega) ([],[],[]) (by simp)
 have hz:az 0 ([]:List aT).length=true:=rfl;rw[show ((0:Nat):Int)=0 from rfl]at key;have hlen:=Xv n land ([],[],[]);have aps:(za n land).2.2.length<=1512*land.length:=by unfold za;simpa using hlen
 have hS:=(wQ n land).length_eq;have hps:aic (za n land).2.2 (za n land).1=some (fG n land,(za n land).1):=by exact @rK xx SI.j7 SI.en (inferInstance:Inhabited aT) vy (za n land).2.2 (za n land).1 (show List.length (za n land).2.2<=_ by omega)
 have key':iter (lI n land) n ((0:Int),([]:List (lC×Int)),([]:List (Int×Bool)),([]:List aT))=some ((za n land).1,(za n land).2.2):=key;unfold tL;rw[hz,key'];simp only[aj,af,aD,hps,<- hS,bZ]
theorem al4{lot:bU}{s:Qs×List aT}{p:aT}(h:p∈(zt n lot s).2):p∈s.2\/∃i k:Nat,i<21/\k<72/\(ir n lot (i:Int)).2=true/\p=ud lot (i:Int) k:=by
 have gen:∀(l:List Nat)(s:Qs×List aT),(∀ i∈l,i<21)->p∈(l.foldl (λ s i=>IJ n lot i s) s).2->p∈s.2\/∃i k:Nat,i<21/\k<72/\(ir n lot (i:Int)).2=true/\p=ud lot (i:Int) k:=by
  intro l
  induction l with
  |nil=>intro s _ h;exact .inl h
  |cons i l ih=>
   intro s hl h;rcases ih (IJ n lot i s) (λ j hj=>hl j (by simp[hj])) h with h |h
   ·unfold IJ at h;cases hb:(ir n lot (i:Int)).2 with
    |false=>rw[hb]at h;exact .inl h
    |true=>
     rw[hb]at h;simp only[aj,bf,mem_map,List.mem_range]at h;rcases h with h |⟨k,hk,rfl⟩
     ·exact .inl h
     ·exact .inr ⟨i,k,hl i (by simp),hk,hb,rfl⟩
   ·exact .inr h
 exact gen (List.range 21) s (λ i hi=>List.mem_range.1 hi) h
theorem aaG(k k':Int)(v:Bool):∀l:List (Int×Bool),fO js k (rG js k' v l)=if k=k' then some v else fO js k l
 |[]=>by
  show(bif js k k' then some v else fO js k [])=_;by_cases h:k=k'
  ·subst h;simp[js]
  ·have e2:js k k'=false:=(by simp[js,h]);rw[e2,aQ h];rfl
 |p::l=>by
  have ih:=aaG k k' v l;show fO js k (bif js k' p.1 then(k',v)::l else p::rG js k' v l)=_;by_cases h1:k'=p.1
  ·have e1:js k' p.1=true:=(by simp[js,h1]);rw[e1];show(bif js k k' then some v else fO js k l)=if k=k' then some v else(bif js k p.1 then some p.2 else fO js k l)
   by_cases h:k=k'
   ·subst h;simp[js]
   ·have e2:js k k'=false:=(by simp[js,h]);have e3:js k p.1=false:=(by rw[<- h1];exact e2);rw[e2,e3,aQ h];rfl
  ·have e1:js k' p.1=false:=(by simp[js,h1]);rw[e1];show(bif js k p.1 then some p.2 else fO js k (rG js k' v l))=if k=k' then some v else(bif js k p.1 then some p.2 else fO js k l)
   rw[ih];by_cases h:k=k'
   ·subst h;rw[e1];simp
   ·rw[aQ h,aQ h]
structure OfP(n:Nat)(land:List bU)(p:aT)(lot:bU):Prop where
 T2:land.find? (λ x=>x.id==p.lot)=some lot
 id0:0<=lot.id
 id1:lot.id<=1073741824
 ex:∃i k:Nat,i<21/\k<72/\(ir n lot (i:Int)).2=true/\p=ud lot (i:Int) k
theorem ait(n:Nat)(land:List bU):∀i,i<=land.length->(∀ p∈((land.take i).foldl (λ s lot=>y9 n lot s) (([],[],[]):xT)).2.2,∃lot,OfP n land p lot)/\
 (∀ j (hj:j<land.length),j<i->0<=land[j].id->land[j].id<=1073741824->fO js land[j].id ((land.take i).foldl (λ s lot=>y9 n lot s) (([],[],[]):xT)).2.1=some true)
 | 0,_=>by simp
 |i+1,hi=>by
  obtain⟨h1,h2⟩:=ait n land i (by omega);rw[gF (show i<land.length by omega),List.foldl_append];generalize hs:(land.take i).foldl (λ s lot=>y9 n lot s) (([],[],[]):xT)=s at h1 h2;simp only[foldl_cons,List.foldl_nil];have hi':i<land.length:=by omega
  cases hb:R4 land[i] s.2.1 with
  |true=>
   have e:y9 n land[i] s=s:=(by unfold y9;rw[hb];rfl);rw[e];refine⟨h1,λj hj hji h0 h3=>?_⟩;rcases Nat.lt_or_ge j i with h |h
   ·exact h2 j hj h h0 h3
   ·obtain rfl:j=i:=(by omega);unfold R4 at hb;have e1:decide (land[j].id<0)=false:=(by simp;omega);have e2:decide (land[j].id>1073741824)=false:=(by simp;omega);rw[e1,e2]at hb;simp only[Bool.or_false]at hb;cases hm:fO js land[j].id s.2.1 with
    |none=>rw[hm]at hb;cases hb
    |some b=>rw[hm]at hb;simp only[Option.getD_some]at hb;rw[hb]
  |false=>
   have e:y9 n land[i] s=((zt n land[i] (s.1,s.2.2)).1,rG js land[i].id true s.2.1,(zt n land[i] (s.1,s.2.2)).2):=(by unfold y9;rw[hb];rfl);rw[e];simp only[R4,Bool.or_eq_false_iff,dK]at hb;obtain⟨b1,b2,b3⟩:=hb;refine⟨λ p hp=>?_,λj hj hji h0 h3=>?_⟩
   ·rcases al4 hp with hp |⟨a,k,ha,hk,hbs,rfl⟩
    ·exact h1 p hp
    ·refine⟨land[i],?_,by omega,by omega,a,k,ha,hk,hbs,rfl⟩;rw[List.find?_eq_some_iff_getElem];refine⟨by simp[ud],i,hi',rfl,λj hj=>?_⟩;simp only[ud,Bool.not_eq_true',beq_eq_false_iff_ne];intro hj2;have:=h2 j (by omega) hj (by rw[hj2];omega) (by rw[hj2];omega);rw[hj2]at this;rw[this]at b1;cases b1
   ·show fO js land[j].id (rG js land[i].id true s.2.1)=some true;rw[aaG];by_cases hij:land[j].id=land[i].id
    ·rw[aX hij]
    ·rw[aQ hij];rcases Nat.lt_or_ge j i with h |h
     ·exact h2 j hj h h0 h3
     ·obtain rfl:j=i:=(by omega);exact absurd rfl hij
theorem aaH{land:List bU}{p:aT}(h:p∈fG n land):∃lot,OfP n land p lot:=by
 have h1:=(wQ n land).mem_iff.1 h;have:=(ait n land land.length (aC _)).1 p;rw[List.take_length]at this;exact this h1
def ape(r:ax)(p:aT):aH:=aH.mk r.x0 r.y0 r.x1 r.y1 0 (i64.wrap (p.floors*3)) p.use (bif (p.use==(0:Int))then p.floors else 0) false
def Xw(n:Nat)(lot:bU)(p:aT):bq:=bq.mk p.lot [rJ.mk [ape (ir n lot p.fL).1 p] []]
def R5(n:Nat)(lot:bU)(p:aT):Bool:=(ir n lot p.fL).2&&(decide (p.lot=lot.id)&&(decide (0<=p.lot)&&(decide (p.lot<=1073741824)&&(decide (0<=p.use)&&(decide (p.use<6)&&(decide (1<=p.floors)&&decide (p.floors<=12)))))))
theorem aeJ{lot:bU}(ha:lot.area.length<=900)(hn:4000002<=n)(p:aT):qD n lot p=some (bif R5 n lot p then(Xw n lot p,true)else(bq.mk 0 [],false)):=by
 unfold qD;rw[ais ha hn];simp only[af];have hk:((bif (!(ir n lot p.fL).2)then some true else(bif (p.lot !=(lot.id:Int))then some true else(bif (decide (p.lot<(0:Int)))then some true else(bif (decide (p.lot>(1073741824:Int)))then some true else(bif (decide (p.use<(0:Int)))then some true else(bif (decide (p.use>=(6:Int)))then some true else(bif (decide (p.floors<(1:Int)))then some true else some (decide (p.floors>(12:Int)))))))))):Option (Bool))=some (!R5 n lot p):=by
  unfold R5;have e1:(p.lot !=lot.id)=!decide (p.lot=lot.id):=by rw[jZ];simp
  have e2:decide (p.lot<0)=!decide (0<=p.lot):=by rw[<- decide_not,decide_eq_decide];omega
  have e3:decide (p.lot>1073741824)=!decide (p.lot<=1073741824):=by rw[<- decide_not,decide_eq_decide];omega
  have e4:decide (p.use<0)=!decide (0<=p.use):=by rw[<- decide_not,decide_eq_decide];omega
  have e5:decide (p.use>=6)=!decide (p.use<6):=by rw[<- decide_not,decide_eq_decide];omega
  have e6:decide (p.floors<1)=!decide (1<=p.floors):=by rw[<- decide_not,decide_eq_decide];omega
  have e7:decide (p.floors>12)=!decide (p.floors<=12):=by rw[<- decide_not,decide_eq_decide];omega
  rw[e1,e2,e3,e4,e5,e6,e7];cases (ir n lot p.fL).2<;>cases decide (p.lot=lot.id)<;>cases decide (0<=p.lot)<;>cases decide (p.lot<=1073741824)<;>cases decide (0<=p.use)<;>cases decide (p.use<6)<;>cases decide (1<=p.floors)<;>rfl
 rw[hk];cases R5 n lot p with
 |false=>rfl
 |true=>
  simp only[Bool.not_true,af,ak,aj,Xw,ape];cases (p.use==(0:Int))<;>rfl
theorem aiu{land:List bU}{p:aT}{lot:bU}(h:OfP n land p lot):R5 n lot p=true:=by
 obtain⟨h1,h2,h3,i,k,hi,hk,hb,rfl⟩:=h;have e1:Int.tmod (k:Int) 6=((k%6:Nat):Int):=by rw[show (6:Int)=((6:Nat):Int)from rfl,<- Int.ofNat_tmod]
 have e2:Int.tdiv (k:Int) 6=((k/6:Nat):Int):=by rw[show (6:Int)=((6:Nat):Int)from rfl,<- Int.ofNat_tdiv]
 have e3:i64.wrap ((i64.wrap (Int.tdiv (k:Int) 6))+1)=((k/6+1:Nat):Int):=by rw[e2,M5 (by omega),bL (by omega)]
 simp only[R5,ud,e1,e3,hb,Bool.true_and,aK,aS];refine⟨trivial,h2,h3,?_,?_,?_,?_⟩<;>omega
theorem aiv(n:Nat)(lot:bU)(p:aT):xt (Xw n lot p):=by refine⟨⟨by simp[Xw],λq hq=>?_⟩,λq hq=>?_⟩<;> · simp only[Xw,aW]at hq;subst hq;simp
theorem aeK:xt (bq.mk 0 []):=by refine⟨⟨by simp,λq hq=>?_⟩,λq hq=>?_⟩<;>simp at hq
def Xx:aT:=aT.mk 0 0 0 0
def Y3(n:Nat)(t:bT)(d:bq)(day:Int):Bool:=(wP n t d==0)&&decide (vR n t d day=[])
theorem ab6{t:bT}{d:bq}(day:Int)(ht:Bf t)(hd:xt d)(hn:Oi n):iX n t d day=some (Y3 n t d day):=ajO day ht hd hn
def IK(land:List bU):Prop:=(∀ l∈land,l.area.length<=900)/\land.length<=500
def uP(n:Nat)(land:List bU)(p:aT):bq×Bool:=match land.find? λx=>x.id==p.lot with
 |none=>(bq.mk 0 [],false)
 |some lot=>bif R5 n lot p then(Xw n lot p,true)else(bq.mk 0 [],false)
theorem Oj(n:Nat)(land:List bU)(p:aT):xt (uP n land p).1:=by
 unfold uP;split
 ·exact aeK
 ·rename_i lot _;cases R5 n lot p
  ·exact aeK
  ·exact aiv _ _ _
theorem aiw{t:bT}(h:IK t.land)(hn:4000002<=n)(p:aT):tN n t p=some (uP n t.land p):=by
 unfold tN;have hl:=h.2;have hi:u6 n t.land (λ (y1:bU×Unit)=>qW y1.1 p)=some (xG (λ x:bU=>x.id==p.lot) t.land):=gD (l:=t.land) (φ:=λ(y1:bU×Unit)=>qW y1.1 p) (λ x:bU=>x.id==p.lot) (λ _ _=>rfl) (by omega) (by omega);rw[hi];simp only[af,akZ];unfold uP;cases ha:t.land.any λx:bU=>x.id==p.lot with
 |false=>
  have:t.land.find? (λ x=>x.id==p.lot)=none:=by
   rw[List.find?_eq_none];intro x hx hc;have:=List.any_eq_false.1 ha x hx;exact this hc
  rw[this];rfl
 |true=>
  have⟨i,hi,e,hf⟩:=adO ha;rw[e,hf];simp only[Bool.not_true,ak,bB hi,af,aeJ (n:=n) (h.1 _ (getElem_mem hi)) hn p,show ∀k:Nat,decide ((k:Int)<0)=false from λk=>by simp]
theorem Lf{land:List bU}{p:aT}(h:p∈fG n land):(uP n land p).2=true:=by
 have⟨lot,hp⟩:=aaH h;unfold uP;rw[hp.T2];simp only[aiu hp,aj]
def qP(n:Nat)(land:List bU)(p:aT):sD:=sD.mk p.lot p.use p.floors p.fL (uP n land p).1.lot (uP n land p).1.phases
theorem Lg(n:Nat)(land:List bU)(h:land.length<=500):(fG n land).length<=756000:=by
 have h1:=(wQ n land).length_eq;have h2:=Xv n land ([],[],[]);have h3:(za n land).2.2.length<=1512*land.length:=by unfold za;simpa using h2
 omega
theorem aeL{t:bT}(h:IK t.land)(hn:4000002<=n):qE n t=some ((fG n t.land).map (qP n t.land)):=by
 have hlen:=Lg n t.land h.2;unfold qE;rw[ajR h.1 h.2 hn];have hmem:∀p∈fG n t.land,(uP n t.land p).2=true:=λp hp=>Lf hp;generalize fG n t.land=L at hlen hmem;have key:=p9 (step:=pO n t L) (λ i=>((i:Int),(L.take i).map (qP n t.land))) (s:=((0:Int),([]:List sD))) L.length (L.map (qP n t.land)) rfl (λ i hi=>by
  have hm:=hmem _ (getElem_mem hi);have hap:bQ ((L.take i).map (qP n t.land)).length ((L.take i).map (qP n t.land)).length 1 1 64=true:=dh (by simp;omega) (by simp only[maxLen,length_map,length_take];omega);simp only[pO,bO hi,aj,aU hi,aY hi,af,aiw h hn,hm,show ∀r:sD,sub [r] 0 1=[r]from λ_=>rfl,length_singleton,hap,dN,aD,aL i];rw[gF hi,map_append];rfl) (by simp only[pO,bX,ak,aD,aj,List.take_length]) n (by omega)
 have hz:az 0 ([]:List sD).length=true:=rfl;simp only[af,hz,aj,key,bZ,aD]
def co(t:bT)(p:bn):bT:=bT.mk p.defs p.tables p.zones p.rules p.caps p.views p.ml p.hours t.land t.bx t.windows t.built t.base
def gL(n:Nat)(t:bT)(day:Int)(pl:bn)(p:aT):Bool:=Y3 n (co t pl) (uP n t.land p).1 day
def rU(l:List aT)(q:aT->Bool):aT×Bool:=match l.find? q with
 |some p=>(p,true)
 |none=>(Xx,false)
theorem anu{t:bT}{day:Int}{ps:List bn}{p:aT}(hp:∀q∈ps,Bf (co t q))(hl:ps.length<=1000)(hn:Oi n):iter (nZ n t day ps (qP n t.land p)) n ((0:Int),([]:List Bool))=some (ps.map λq=>gL n t day q p):=by
 have hn1:=hn.1;exact p9 (step:=nZ n t day ps (qP n t.land p)) (λ i=>((i:Int),(ps.take i).map λq=>gL n t day q p)) (s:=((0:Int),([]:List Bool))) ps.length (ps.map λq=>gL n t day q p) rfl (λ i hi=>by
  have hap:bQ ((ps.take i).map λq=>gL n t day q p).length ((ps.take i).map λq=>gL n t day q p).length 1 1 1=true:=dh (by simp;omega) (by simp only[maxLen,length_map,length_take];omega);have hu:witness_under t ps[i]=some (co t ps[i]):=rfl;have hL:iX n (co t ps[i]) (bq.mk (qP n t.land p).cD (qP n t.land p).cN) day=some (gL n t day ps[i] p):=ab6 (d:=(uP n t.land p).1) day (hp _ (getElem_mem hi)) (Oj n t.land p) hn;simp only[nZ,bO hi,aj,bB hi,af,hu,hL,show ∀r:Bool,sub [r] 0 1=[r]from λ_=>rfl,length_singleton,hap,dN,aD,aL i];rw[gF hi,map_append];rfl) (by simp only[nZ,bX,ak,aD,aj,List.take_length]) n (by omega)
theorem find_eq{t:bT}{day:Int}{φ:((List Bool)×Unit)->Option Bool}{ps:List bn}(q:List Bool->Bool)(hφ:∀v,v.length=ps.length->φ (v,())=some (q v))(h:IK t.land)(hp:∀q∈ps,Bf (co t q))(hl:ps.length<=1000)(hn:Oi n):
 pY n t day φ ps=some (rU (fG n t.land) λp=>q (ps.map λpl=>gL n t day pl p)):=by
 have hn1:=hn.1;have hlen:=Lg n t.land h.2;unfold pY;rw[aeL h (by omega)];generalize fG n t.land=L at hlen;have hz:az 0 ([]:List Bool).length=true:=rfl;have key:=pI (l:=L) (step:=ru n t day φ ps (L.map (qP n t.land))) (λ i=>(i:Int)) (λ p=>q (ps.map λpl=>gL n t day pl p)) () (λ i=>((L[i]?).getD Xx,true)) (λ i hi=>by
  have hi':i<(L.map (qP n t.land)).length:=by simpa using hi
  have hg:(L.map (qP n t.land))[i]=qP n t.land L[i]:=by simp
  simp only[ru,bO hi',aj,aU hi',aY hi',hg,af,hz,anu (n:=n) (t:=t) (day:=day) (ps:=ps) (p:=L[i]) hp hl hn,bZ,aD,hφ _ (length_map _),aL i,dJ hi,Option.getD_some];cases q (ps.map λpl=>gL n t day pl L[i])<;>rfl) (by
  have e:L.length=(L.map (qP n t.land)).length:=by simp
  rw[e];simp only[ru,bX,ak]) n (by omega)
 rw[show ((0:Nat):Int)=0 from rfl]at key;simp only[af,key];unfold rU;rcases Lc (λ p=>q (ps.map λpl=>gL n t day pl p)) L with ⟨i,hi,h1,h2⟩ |⟨h1,h2⟩
 ·rw[h1,h2];simp only[dJ hi,Option.getD_some,gu]
 ·rw[h1,h2];rfl
theorem aeM{t:bT}{a b:bn}{day:Int}(h:IK t.land)(ha:Bf (co t a))(hb:Bf (co t b))(hn:Oi n):gW n t a b day=some (rU (fG n t.land) λp=>!(gL n t day a p==gL n t day b p)):=by
 have e:=find_eq (n:=n) (t:=t) (day:=day) (φ:=λ(y1:(List Bool)×Unit)=>vk y1.1) (ps:=[a,b]) (λ v=>match v with |[x,y]=>!(x==y) |_=>false) (λ v hv=>by
  match v,hv with
  |[x,y],_=>rfl) h (λ q hq=>by simp only[aN,fq,or_false]at hq;rcases hq with rfl |rfl<;>assumption) (by simp) hn
 unfold gW;rw[show sub [a,b] 0 2=[a,b]from rfl,show az [a,b].length 2=true from rfl,e];rfl
theorem IL{t:bT}{a b:bn}{day:Int}(h:IK t.land)(ha:Bf (co t a))(hb:Bf (co t b))(hn:Oi n):eu n t a b day=some (!(rU (fG n t.land) λp=>gL n t day a p&&!gL n t day b p).2):=by
 have e:=find_eq (n:=n) (t:=t) (day:=day) (φ:=λ(y1:(List Bool)×Unit)=>qw y1.1) (ps:=[a,b]) (λ v=>match v with |[x,y]=>x&&!y |_=>false) (λ v hv=>by
  match v,hv with
  |[x,y],_=>cases x<;>rfl) h (λ q hq=>by simp only[aN,fq,or_false]at hq;rcases hq with rfl |rfl<;>assumption) (by simp) hn
 unfold eu;rw[show sub [a,b] 0 2=[a,b]from rfl,show az [a,b].length 2=true from rfl,e];rfl
def Xy(x a b m:Bool):Bool:=!(m==bif !(a==x)then a else b)
theorem al5{t:bT}{x a b m:bn}{day:Int}(h:IK t.land)(hx:Bf (co t x))(ha:Bf (co t a))(hb:Bf (co t b))(hm:Bf (co t m))(hn:Oi n):
 gX n t x a b m day=some (rU (fG n t.land) λp=>Xy (gL n t day x p) (gL n t day a p) (gL n t day b p) (gL n t day m p)):=by
 have e:=find_eq (n:=n) (t:=t) (day:=day) (φ:=λ(y1:(List Bool)×Unit)=>vo y1.1) (ps:=[x,a,b,m]) (λ v=>match v with |[x,a,b,m]=>Xy x a b m |_=>false) (λ v hv=>by
  match v,hv with
  |[x,a,b,m],_=>cases x<;>cases a<;>cases b<;>cases m<;>rfl) h (λ q hq=>by simp only[aN,fq,or_false]at hq;rcases hq with rfl |rfl |rfl |rfl<;>assumption) (by simp) hn
 unfold gX;rw[show sub [x,a,b,m] 0 4=[x,a,b,m]from rfl,show az [x,a,b,m].length 4=true from rfl,e];rfl
theorem Xz{t:bT}{a:bn}{p:aT}{day:Int}(h:IK t.land)(ha:Bf (co t a))(hn:Oi n):kC n t a p day=some ((uP n t.land p).2&&gL n t day a p):=by
 have hn1:=hn.1;have hu:witness_under t a=some (co t a):=rfl;unfold kC;rw[aiw h (by omega)];simp only[af,hu,ab6 day ha (Oj n t.land p) hn];cases (uP n t.land p).2<;>rfl
theorem aeN{t:bT}{a:bn}{day:Int}(h:IK t.land)(ha:Bf (co t a))(hn:Oi n):mV n t a day=some ((fG n t.land).map (gL n t day a)):=by
 have hn1:=hn.1;have hlen:=Lg n t.land h.2;unfold mV;rw[aeL h (by omega)];generalize fG n t.land=L at hlen;have key:=p9 (step:=mK n t a day (L.map (qP n t.land))) (λ i=>((i:Int),(L.take i).map (gL n t day a))) (s:=((0:Int),([]:List Bool))) L.length (L.map (gL n t day a)) rfl (λ i hi=>by
  have hi':i<(L.map (qP n t.land)).length:=by simpa using hi
  have hg:(L.map (qP n t.land))[i]=qP n t.land L[i]:=by simp
  have hap:bQ ((L.take i).map (gL n t day a)).length ((L.take i).map (gL n t day a)).length 1 1 1=true:=dh (by simp;omega) (by simp only[maxLen,length_map,length_take];omega);have hu:witness_under t a=some (co t a):=rfl;have hL:iX n (co t a) (bq.mk (qP n t.land L[i]).cD (qP n t.land L[i]).cN) day=some (gL n t day a L[i]):=ab6 (d:=(uP n t.land L[i]).1) day ha (Oj n t.land L[i]) hn;simp only[mK,bO hi',aj,aU hi',aY hi',hg,af,hu,hL,show ∀r:Bool,sub [r] 0 1=[r]from λ_=>rfl,length_singleton,hap,dN,aD,aL i];rw[gF hi,map_append];rfl) (by
  have e:L.length=(L.map (qP n t.land)).length:=by simp
  rw[e];simp only[mK,bX,ak,aD,aj,<- e,List.take_length]) n (by omega)
 have hz:az 0 ([]:List Bool).length=true:=rfl;simp only[af,hz,aj,key,bZ,aD]
theorem Ol(l:List aT)(q:aT->Bool):(∃ p,l.find? q=some p/\rU l q=(p,true)/\p∈l/\q p=true)\/(rU l q=(Xx,false)/\∀p∈l,q p=false):=by
 unfold rU;cases h:l.find? q with
 |none=>exact .inr ⟨rfl,λp hp=>by have:=List.find?_eq_none.1 h p hp;simpa using this⟩
 |some p=>exact .inl ⟨p,rfl,rfl,List.mem_of_find?_eq_some h,List.find?_some h⟩
theorem IQ{l:List aT}{q:aT->Bool}(h:∀p∈l,q p=false):rU l q=(Xx,false):=by
 unfold rU;rw[List.find?_eq_none.2 λp hp=>by rw[h p hp];decide]
theorem Om(j:Nat):decide (((j+1:Nat):Int)>0)=true:=by simp
theorem aeO:decide (((0:Nat):Int)>0)=false:=rfl
theorem pred_succ{j:Nat}(h:j<9223372036854775807):i64.wrap (((j+1:Nat):Int) -1)=(j:Int):=by rw[mO (by omega) (by omega)];simp
theorem Qt{i n:Nat}(h:¬i<n):decide ((i:Int)<(n:Int))=false:=by simp;omega
theorem aix(c1 c2:Bool):∃b,((bif c1 then some true else some c2):Option Bool)=some b:=cZ ⟨_,rfl⟩ ⟨_,rfl⟩
theorem qs2{a0 v2:List Int}{k:Nat}(hk:k<a0.length)(hl:v2.length<=1000)(hn:2000<=n):∃w:Nat,iter (qJ a0 (k:Int) v2) n (v2.length:Int)=some (w:Int)/\w<=v2.length:=by
 obtain⟨o,h1,w,rfl,h2⟩:=EJ (step:=qJ a0 (k:Int) v2) (λ v=>∃j:Nat,v=(j:Int)/\j<=v2.length) (λ o=>∃j:Nat,o=(j:Int)/\j<=v2.length) Int.toNat (by
  rintro v ⟨j,rfl,hj⟩;cases j with
  |zero=>simp only[qJ,aeO,ak,af];exact .inr ⟨_,rfl,0,rfl,hj⟩
  |succ j=>
   have hj':j<v2.length:=hj;simp only[qJ,Om,aj,pred_succ (show j<9223372036854775807 by omega),aU hj',aY hj',bB hk,af];cases decide (v2[j]>a0[k])with
   |false=>exact .inr ⟨_,rfl,j+1,rfl,hj⟩
   |true=>exact .inl ⟨_,rfl,⟨j,rfl,by omega⟩,by omega⟩) n _ ⟨_,rfl,aC _⟩ (by omega)
 exact⟨w,h1,h2⟩
theorem qs3{r1:List Int}{w m:Nat}(hm:r1.length=m+1)(hw:w<=m)(hl:m<=1000)(hn:2000<=n):∃o,iter (qK (w:Int) r1) n (i64.wrap ((r1.length:Int) -1),r1)=some o/\o.length=r1.length:=by
 rw[hm,pred_succ (by omega)];obtain⟨o,h1,h2⟩:=EJ (step:=qK (w:Int) r1) (λ v=>∃j:Nat,v.1=(j:Int)/\w<=j/\j<=m/\v.2.length=r1.length) (λ o=>o.length=r1.length) (λ v=>v.1.toNat) (by
  rintro⟨v,l⟩ ⟨j,rfl,hj,hjm,hlen⟩;simp only at hlen;by_cases h:w<j
  ·obtain⟨j,rfl⟩:∃i,j=i+1:=⟨j -1,by omega⟩;have e:decide (((j+1:Nat):Int)>(w:Int))=true:=(by simp;omega);have a1:j<r1.length:=(by omega);have a2:j<l.length:=(by omega);have a3:j+1<r1.length:=(by omega);have a4:j+1<l.length:=(by omega);simp only[qK,e,aj,pred_succ (show j<9223372036854775807 by omega),aU a1,aY a2,aU a3,aY a4,af];exact .inl ⟨_,rfl,⟨j,rfl,by omega,by omega,by simpa using hlen⟩,by simp⟩
  ·have e:decide ((j:Int)>(w:Int))=false:=(by simp;omega);simp only[qK,e,ak];exact .inr ⟨_,rfl,hlen⟩) n ((m:Int),r1) ⟨m,rfl,hw,aC _,rfl⟩ (by simp;omega)
 rw[<- hm];exact⟨o,h1,h2⟩
theorem al6{a0:List Int}(hl:a0.length<=1000)(hn:2000<=n):∃o,EB n a0=some o/\o.length<=a0.length:=by
 obtain⟨o,h1,h2⟩:=dH (step:=vP n a0) (λ i (v:Int×List Int)=>v.1=(i:Int)/\i<=a0.length/\v.2.length<=i) (λ o=>o.length<=a0.length) a0.length (λ k v h=>h.2.1) (by
  rintro i ⟨v,l⟩ ⟨hv,hi,rk⟩;simp only at hv rk;subst hv;by_cases hlt:i<a0.length
  ·obtain⟨w,e1,hw⟩:=qs2 (n:=n) (v2:=l) hlt (by omega) hn;have hv5:∃b,((bif (decide ((w:Int)>(0:Int)))then(ck (cC (i64.wrap ((w:Int) -1)) l.length) ((bo l ((0:Nat)+(i64.wrap ((w:Int) -1)):Int)).bind λx3=>some (x3==a0[i])))else some false):Option Bool)=some b:=by
    cases w with
    |zero=>exact⟨false,rfl⟩
    |succ w=>
     have hw':w<l.length:=hw;simp only[Om,aj,pred_succ (show w<9223372036854775807 by omega),aU hw',aY hw',af];exact⟨_,rfl⟩
   obtain⟨b,e2⟩:=hv5;have hap:bQ l.length l.length 1 1 8=true:=dh (by omega) (by simp only[maxLen];omega);obtain⟨o,e3,ho⟩:=qs3 (n:=n) (r1:=l++[0]) (w:=w) (m:=l.length) (by simp) hw (by omega) hn;have hz:sub ([0]:List Int) 0 1=[0]:=rfl;have ho':o.length=l.length+1:=(by rw[ho];simp);have i1:w<(l++[0]).length:=(by simp;omega);have i2:w<o.length:=(by omega);have e4:az (l++[0]).length (o.set ((0:Nat)+(w:Int):Int).toNat a0[i]).length=true:=(by rw[List.length_set,ho];exact aD _);simp only[vP,bO hlt,aj,e1,af,e2,hz,length_singleton,hap,dN,e3,bB hlt,aU i1,aY i2,e4,aL i];cases b with
   |true=>simp only[aj,aD,af];exact .inl ⟨_,rfl,rfl,hlt,by show l.length<=_;omega⟩
   |false=>simp only[ak,aD,af,aj];exact .inl ⟨_,rfl,rfl,hlt,by show(o.set _ _).length<=_;rw[List.length_set];omega⟩
  ·obtain rfl:i=a0.length:=(by omega);simp only[vP,bX,ak,aD,aj];exact .inr ⟨_,rfl,rk⟩) n 0 ((0:Int),([]:List Int)) ⟨rfl,Nat.zero_le _,aC _⟩ (by omega)
 have hz:az 0 ([]:List Int).length=true:=rfl;exact⟨o,by simp only[EB,hz,aj,h1,af,bZ,aD],h2⟩
theorem anv{a:List ax}(hl:a.length<=400)(hn:2000<=n):∃o,JG n a []=some o/\o.length<=2*a.length:=by
 obtain⟨o,h1,h2⟩:=dH (step:=xX a) (λ i (v:Int×List Int)=>v.1=(i:Int)/\i<=a.length/\v.2.length=2*i) (λ o=>o.length=2*a.length) a.length (λ k v h=>h.2.1) (by
  rintro i ⟨v,l⟩ ⟨hv,hi,rk⟩;simp only at hv rk;subst hv;by_cases hlt:i<a.length
  ·have hap:bQ l.length l.length 2 2 8=true:=dh (by omega) (by simp only[maxLen];omega);simp only[xX,bO hlt,aj,bB hlt,af,show ∀x y:Int,sub ([x,y]:List Int) 0 2=[x,y]from λ_ _=>rfl,bG,length_nil,Nat.zero_add,Nat.reduceAdd,hap,dN,aD,aL i];exact .inl ⟨_,rfl,rfl,hlt,by simp;omega⟩
  ·obtain rfl:i=a.length:=(by omega);simp only[xX,bX,ak,aD,aj];exact .inr ⟨_,rfl,rk⟩) n 0 ((0:Int),([]:List Int)) ⟨rfl,Nat.zero_le _,rfl⟩ (by omega)
 obtain⟨m,rfl⟩:∃m,n=m+1:=⟨n -1,by omega⟩;have e2:iter (EC []) (m+1) ((0:Int),o)=some o:=fF (by
  have hz:decide ((0:Int)<((([]:List ax).length:Int):Int))=false:=rfl;simp only[EC,hz,ak,aD,aj])
 obtain⟨p,e3,h3⟩:=al6 (n:=m+1) (a0:=o) (by omega) hn;have hz:az 0 ([]:List Int).length=true:=rfl;exact⟨p,by simp only[JG,hz,aj,h1,af,aD,e2,bZ,e3],by omega⟩
theorem qc2{a0:List ax}{k m:Nat}{r1 r2:List Int}(hk:k<a0.length)(h1:r1.length=m+1)(h2:r2.length=m+1)(hm:m<=1000)(hn:2000<=n):∃(w:Nat)(o1 o2:List Int),iter (qL a0 (k:Int) r1 r2) n ((m:Int),r1,r2)=some ((w:Int),o1,o2)/\w<=m/\o1.length=m+1/\o2.length=m+1:=by
 obtain⟨⟨o,o1,o2⟩,g1,w,rfl,g2⟩:=EJ (step:=qL a0 (k:Int) r1 r2) (λ v=>∃j:Nat,v.1=(j:Int)/\j<=m/\v.2.1.length=m+1/\v.2.2.length=m+1) (λ o=>∃j:Nat,o.1=(j:Int)/\j<=m/\o.2.1.length=m+1/\o.2.2.length=m+1) (λ v=>v.1.toNat) (by
  rintro⟨v,l1,l2⟩ ⟨j,rfl,hj,hl1,hl2⟩;simp only at hl1 hl2;cases j with
  |zero=>simp only[qL,aeO,ak,af];exact .inr ⟨_,rfl,0,rfl,hj,hl1,hl2⟩
  |succ j=>
   have a1:j<r1.length:=(by omega);have a2:j<l1.length:=(by omega);have a3:j+1<r1.length:=(by omega);have a4:j+1<l1.length:=(by omega);have b1:j<r2.length:=(by omega);have b2:j<l2.length:=(by omega);have b3:j+1<r2.length:=(by omega);have b4:j+1<l2.length:=(by omega);simp only[qL,Om,aj,pred_succ (show j<9223372036854775807 by omega),aU a1,aY a2,bB hk,aU a3,aY a4,aU b1,aY b2,aU b3,aY b4,af];cases decide (l1[j]>a0[k].y0)with
   |false=>exact .inr ⟨_,rfl,j+1,rfl,hj,hl1,hl2⟩
   |true=>exact .inl ⟨_,rfl,⟨j,rfl,by omega,by simpa using hl1,by simpa using hl2⟩,by simp⟩) n ((m:Int),r1,r2) ⟨m,rfl,aC _,h1,h2⟩ (by simp;omega)
 exact⟨w,o1,o2,g1,g2⟩
theorem qc1{a0:List ax}(x:Int)(hl:a0.length<=400)(hn:2000<=n):∃o1 o2:List Int,iter (qM n a0 x) n ((0:Int),([]:List Int),([]:List Int))=some (o1,o2)/\o1.length=o2.length/\o1.length<=a0.length:=by
 obtain⟨⟨o1,o2⟩,g1,g2⟩:=dH (step:=qM n a0 x) (λ i (v:Int×List Int×List Int)=>v.1=(i:Int)/\i<=a0.length/\v.2.1.length=v.2.2.length/\v.2.1.length<=i) (λ o=>o.1.length=o.2.length/\o.1.length<=a0.length) a0.length (λ k v h=>h.2.1) (by
  rintro i ⟨v,l1,l2⟩ ⟨hv,hi,rk,hl2⟩;simp only at hv rk hl2;subst hv;by_cases hlt:i<a0.length
  ·have hap:bQ l1.length l1.length 1 1 8=true:=dh (by omega) (by simp only[maxLen];omega);have BT:bQ l2.length l2.length 1 1 8=true:=rk ▸ hap;have hz:sub ([0]:List Int) 0 1=[0]:=rfl;obtain⟨w,p1,p2,e1,hw,hp1,hp2⟩:=qc2 (n:=n) (a0:=a0) (k:=i) (m:=l1.length) (r1:=l1++[0]) (r2:=l2++[0]) hlt (by simp) (by simp[rk]) (by omega) hn;have i1:w<(l1++[0]).length:=(by simp;omega);have i2:w<p1.length:=(by omega);have i3:w<(l2++[0]).length:=(by simp;omega);have i4:w<p2.length:=(by omega);have f1:∀y:Int,az (l1++[0]).length (p1.set ((0:Nat)+(w:Int):Int).toNat y).length=true:=λy=>(by rw[List.length_set,hp1];exact Ec (by simp));have f2:∀y:Int,az (l2++[0]).length (p2.set ((0:Nat)+(w:Int):Int).toNat y).length=true:=λy=>(by rw[List.length_set,hp2];exact Ec (by simp[rk]));have⟨b,hb⟩:=aix (decide (a0[i].x0>(x:Int))) (decide (a0[i].x1<=(x:Int)));simp only[qM,bO hlt,aj,bB hlt,af,hb,hz,length_singleton,hap,BT,dN,e1,aU i1,aY i2,aU i3,aY i4,f1,f2,aL i];cases b with
   |true=>simp only[aj,aD,af];exact .inl ⟨_,rfl,rfl,hlt,rk,by show l1.length<=_;omega⟩
   |false=>
    simp only[ak,aj,aD,af];exact .inl ⟨_,rfl,rfl,hlt,by simp only[List.length_set];omega,by simp only[List.length_set];omega⟩
  ·obtain rfl:i=a0.length:=(by omega);simp only[qM,bX,ak,aD,aj];exact .inr ⟨_,rfl,rk,hl2⟩) n 0 ((0:Int),([]:List Int),([]:List Int)) ⟨rfl,Nat.zero_le _,rfl,aC _⟩ (by omega)
 exact⟨o1,o2,g1,g2⟩
theorem aeP{a0:List ax}(x:Int)(hl:a0.length<=400)(hn:2000<=n):∃o,yX n a0 x=some o/\o.length<=2*a0.length:=by
 have⟨w4,w5,g1,g2,g3⟩:=qc1 (n:=n) (a0:=a0) x hl hn;obtain⟨o,h1,h2⟩:=dH (step:=qN w4 w5) (λ i (v:Int×List Int)=>v.1=(i:Int)/\i<=w4.length/\v.2.length<=2*i) (λ o=>o.length<=2*w4.length) w4.length (λ k v h=>h.2.1) (by
  rintro i ⟨v,l⟩ ⟨hv,hi,rk⟩;simp only at hv rk;subst hv;by_cases hlt:i<w4.length
  ·have xe:i<w5.length:=(by omega);have hap:bQ l.length l.length 2 2 8=true:=dh (by omega) (by simp only[maxLen];omega);have hs:∀x y:Int,sub ([x,y]:List Int) 0 2=[x,y]:=λ_ _=>rfl;cases hL:l.length with
   |zero=>
    have hz0:decide ((l.length:Int)>0)=false:=(by rw[hL];rfl);simp only[qN,bO hlt,aj,hz0,ak,af,aU hlt,aY hlt,aU xe,aY xe,hs,bG,length_nil,Nat.zero_add,Nat.reduceAdd,hap,dN,aD,aL i];exact .inl ⟨_,rfl,rfl,hlt,by simp;omega⟩
   |succ m=>
    have hm:m<l.length:=(by omega);have hpos:decide ((l.length:Int)>0)=true:=(by rw[hL];exact Om m);have hpred:i64.wrap ((l.length:Int) -1)=(m:Int):=(by rw[hL];exact pred_succ (by omega));have f1:∀y:Int,az l.length (l.set ((0:Nat)+(m:Int):Int).toNat y).length=true:=λy=>(by rw[List.length_set];exact aD _);simp only[qN,bO hlt,aj,hpos,hpred,af,aU hlt,aY hlt,aU xe,aY xe,aU hm,aY hm,hs,bG,length_nil,Nat.zero_add,Nat.reduceAdd,hap,dN,f1,aD,aL i];cases decide (w4[i]<=l[m])with
    |true=>exact .inl ⟨_,rfl,rfl,hlt,by show(l.set _ _).length<=_;rw[List.length_set];omega⟩
    |false=>exact .inl ⟨_,rfl,rfl,hlt,by show(l++_).length<=_;simp;omega⟩
  ·obtain rfl:i=w4.length:=(by omega);simp only[qN,bX,ak,aD,aj];exact .inr ⟨_,rfl,rk⟩) n 0 ((0:Int),([]:List Int)) ⟨rfl,Nat.zero_le _,aC _⟩ (by omega)
 have hz:az 0 ([]:List Int).length=true:=rfl;exact⟨o,by simp only[yX,hz,aj,g1,h1,af,bZ,aD],by omega⟩
theorem ajS{a0:List Int}(hl:a0.length<=1000)(hn:2000<=n):∃o,Aq n a0 [] 0=some o/\o.length<=a0.length:=by
 obtain⟨o,h1,h2⟩:=dH (step:=uo a0 [] 0) (λ i (v:Int×Int×Bool×List Int)=>v.1=(i:Int)/\v.2.1=0/\i<=a0.length/\v.2.2.2.length<=i) (λ o=>o.length<=a0.length) a0.length (λ k v h=>h.2.2.1) (by
  rintro i ⟨v,v2,v3,l⟩ ⟨hv,hv2,hi,rk⟩;simp only at hv hv2 rk;subst hv;subst hv2;have z1:decide ((0:Int)<((([]:List Int).length:Int):Int))=false:=rfl;have z2:decide ((0:Int)>=((([]:List Int).length:Int):Int))=true:=rfl;by_cases hlt:i<a0.length
  ·have hap:bQ l.length l.length 1 1 8=true:=dh (by omega) (by simp only[maxLen];omega);have be:∀x:Int,(x==x)=true:=λx=>(by simp);have⟨b,hb⟩:=aix (Int.tmod ((i+1:Nat):Int) 2==(1:Int)) (Int.tmod (0:Int) 2==(1:Int));simp only[uo,bO hlt,aj,z1,z2,bB hlt,af,be,ak,aL i,show((2:Nat) !=0)=true from rfl,show((2:Int) !=0)=true from rfl,hb,show((0:Int)==1)=false from rfl,show((0:Int)==2)=false from rfl,show ∀x:Int,sub ([x]:List Int) 0 1=[x]from λ_=>rfl,length_singleton,hap,dN,aD];cases (!(b==v3))with
   |true=>exact .inl ⟨_,rfl,rfl,rfl,hlt,by show(l++_).length<=_;simp;omega⟩
   |false=>exact .inl ⟨_,rfl,rfl,rfl,hlt,by show l.length<=_;omega⟩
  ·obtain rfl:i=a0.length:=(by omega);simp only[uo,bX,ak,z1,af,aD,aj];exact .inr ⟨_,rfl,rk⟩) n 0 ((0:Int),(0:Int),false,([]:List Int)) ⟨rfl,rfl,Nat.zero_le _,aC _⟩ (by omega)
 have hz:az 0 ([]:List Int).length=true:=rfl;exact⟨o,by simp only[Aq,hz,aj,h1,af,bZ,aD],h2⟩
theorem Wr{α O:Type}{l:List α}{step:Int->Option (Int⊕(Unit⊕O))}(h1:∀i (hi:i<l.length),(∃ o,step (i:Int)=some (.inr (.inr o)))\/step (i:Int)=some (.inl ((i+1:Nat):Int)))
 (h2:step (l.length:Int)=some (.inr (.inl ()))) (hn:l.length<n):(∃ o,iter step n (0:Int)=some (.inr o))\/iter step n (0:Int)=some (.inl ()):=by
 obtain⟨o,g1,_⟩:=dH (step:=step) (λ i (v:Int)=>v=(i:Int)/\i<=l.length) (λ _=>True) l.length (λ k v h=>h.2) (by
  rintro i v ⟨rfl,hi⟩;by_cases hlt:i<l.length
  ·rcases h1 i hlt with ⟨o,h⟩ |h
   ·exact .inr ⟨_,h,trivial⟩
   ·exact .inl ⟨_,h,rfl,hlt⟩
  ·obtain rfl:i=l.length:=(by omega);exact .inr ⟨_,h2,trivial⟩) n 0 0 ⟨rfl,Nat.zero_le _⟩ (by omega)
 rcases o with ⟨⟩ |o
 ·exact .inr g1
 ·exact .inl ⟨o,g1⟩
theorem aoH{a b:List Int}(hl:a.length<=1000)(hn:2000<=n):∃r,NJ n a b=some r:=by
 unfold NJ;by_cases h:a.length=b.length
 ·have e:((a.length:Int) !=(b.length:Int))=false:=by simp[h]
  rw[e];simp only[ak];rcases Wr (l:=a) (n:=n) (step:=Ar a b) (λ i hi=>by
   simp only[Ar,bO hi,aj,bB hi,bB (show i<b.length by omega),af,aL i];cases (a[i] !=b[i]'(by omega))with
   |true=>exact .inl ⟨_,rfl⟩
   |false=>exact .inr rfl) (by simp only[Ar,bX,ak]) (by omega)with ⟨o,h⟩ |h
  ·rw[h];exact⟨_,rfl⟩
  ·rw[h];exact⟨_,rfl⟩
 ·have e:((a.length:Int) !=(b.length:Int))=true:=by simpa using λe:(a.length:Int)=(b.length:Int)=>h (by omega)
  rw[e];exact⟨_,rfl⟩
theorem qf2{r1:List Int}{k:Nat}{v3:List ax}{q:Nat}(hk:k+1<r1.length)(hl:r1.length<=1000)(h3:v3.length<=100000)(hn:200000<=n):∃o,iter (wM r1 (k:Int) v3) n ((q:Int),v3)=some o/\o.length=v3.length:=by
 refine EJ (step:=wM r1 (k:Int) v3) (λ v=>∃j:Nat,v.1=(j:Int)/\v.2.length=v3.length) (λ o=>o.length=v3.length) (λ v=>v3.length -v.1.toNat) (by
  rintro⟨v,l⟩ ⟨j,rfl,hl⟩;simp only at hl;by_cases hlt:j<v3.length
  ·have hj:j<l.length:=(by omega);simp only[wM,bO hlt,aj,aL k,aU hk,aY hk,aU hlt,aY hj,af,aL j];exact .inl ⟨_,rfl,⟨j+1,rfl,by simpa using hl⟩,by simp only[Int.toNat_natCast];omega⟩
  ·simp only[wM,Qt hlt,ak];exact .inr ⟨_,rfl,hl⟩) n ((q:Int),v3) ⟨q,rfl,rfl⟩ (by omega)
theorem qf3{r1 r4:List Int}{k:Nat}{v3:List ax}(hk:k+1<r1.length)(hl:r1.length<=1000)(h4:r4.length<=1000)(h3:v3.length<=100000)(hn:200000<=n):∃o,iter (wN r1 (k:Int) r4) n ((0:Int),v3)=some o/\o.length<=v3.length+r4.length:=by
 refine EJ (step:=wN r1 (k:Int) r4) (λ v=>∃j:Nat,v.1=(j:Int)/\j<=r4.length/\v.2.length<=v3.length+j) (λ o=>o.length<=v3.length+r4.length) (λ v=>r4.length -v.1.toNat) (by
  rintro⟨v,l⟩ ⟨j,rfl,hj,hl⟩;simp only at hl;by_cases hlt:j+1<r4.length
  ·have hj:j<r4.length:=(by omega);have hk':k<r1.length:=(by omega);have hap:bQ l.length l.length 1 1 32=true:=dh (by omega) (by simp only[maxLen];omega);have w2:i64.wrap ((j:Int)+2)=((j+2:Nat):Int):=(by rw[dS (by omega) (by omega)];omega);simp only[wN,aL j,bO hlt,aj,aL k,aU hk,aY hk,aU hk',aY hk',aU hj,aY hj,aU hlt,aY hlt,af,show ∀x:ax,sub ([x]:List ax) 0 1=[x]from λ_=>rfl,length_singleton,hap,dN,aD,w2];exact .inl ⟨_,rfl,⟨j+2,rfl,by omega,by simp;omega⟩,by simp only[Int.toNat_natCast];omega⟩
  ·simp only[wN,aL j,Qt hlt,ak,aD,aj];exact .inr ⟨_,rfl,by omega⟩) n ((0:Int),v3) ⟨0,rfl,Nat.zero_le _,by simp⟩ (by simp;omega)
theorem aoI{a:List ax}(hl:a.length<=4)(hn:200000<=n):∃o,NK n a [] 0=some o:=by
 obtain⟨r1,e1,h1⟩:=anv (n:=n) (a:=a) (by omega) (by omega);obtain⟨o,g1,_⟩:=dH (step:=Au n a [] 0 r1) (λ i (v:Int×Int×List ax×List Int)=>(∃ q:Nat,v.1=(q:Int))/\v.2.1=(i:Int)/\i<=r1.length/\v.2.2.1.length<=8*i/\v.2.2.2.length<=8) (λ _=>True) r1.length (λ k v h=>h.2.2.1) (by
  rintro i ⟨v1,v2,v3,v4⟩ ⟨⟨q,hq⟩,hv,hi,h3,h4⟩;simp only at hq hv h3 h4;subst hq;subst hv;by_cases hlt:i+1<r1.length
  ·have hi':i<r1.length:=(by omega);obtain⟨r2,e2,h2⟩:=aeP (n:=n) (a0:=a) r1[i] (by omega) (by omega);obtain⟨r3,e3,h3'⟩:=aeP (n:=n) (a0:=[]) r1[i] (by simp) (by omega);obtain rfl:r3=[]:=List.eq_nil_of_length_eq_zero (by simpa using h3');obtain⟨r4,e4,h4'⟩:=ajS (n:=n) (a0:=r2) (by omega) (by omega);obtain⟨b5,e5⟩:=aoH (n:=n) (a:=r4) (b:=v4) (by omega) (by omega);have hv5:∃b,((bif (decide ((i:Int)>(0:Int)))then(bif (decide ((r4.length:Int)>(0:Int)))then some b5 else some false)else some false):Option Bool)=some b:=cZ (cZ ⟨_,rfl⟩ ⟨_,rfl⟩) ⟨_,rfl⟩;obtain⟨b,e6⟩:=hv5;obtain⟨o2,f2,k2⟩:=qf2 (n:=n) (r1:=r1) (k:=i) (v3:=v3) (q:=q) hlt (by omega) (by omega) hn;obtain⟨o3,f3,k3⟩:=qf3 (n:=n) (r1:=r1) (r4:=r4) (k:=i) (v3:=v3) hlt (by omega) (by omega) (by omega) hn;have e7:az v3.length o2.length=true:=Ec k2.symm;simp only[Au,aL i,bO hlt,aj,aU hi',aY hi',af,e2,e3,bZ,aD,e4,e5,e6,f2,f3,e7];cases b with
   |true=>exact .inl ⟨_,rfl,⟨q,rfl⟩,rfl,by omega,by show o2.length<=_;omega,h4⟩
   |false=>exact .inl ⟨_,rfl,⟨_,rfl⟩,rfl,by omega,by show o3.length<=_;omega,by show r4.length<=_;omega⟩
  ·simp only[Au,aL i,Qt hlt,ak,aD,aj];exact .inr ⟨_,rfl,trivial⟩) n 0 ((0:Int),(0:Int),([]:List ax),([]:List Int)) ⟨⟨0,rfl⟩,rfl,Nat.zero_le _,aC _,Nat.zero_le _⟩ (by omega)
 have hz:az 0 ([]:List ax).length=true:=rfl;have hz2:az 0 ([]:List Int).length=true:=rfl;exact⟨o,by simp only[NK,e1,af,hz,hz2,aj,g1,bZ,aD]⟩
theorem anw{a:List ax}(hl:a.length<=4)(hn:200000<=n):∃b,JI n a=some b:=by
 have⟨f,hf⟩:=aoI (n:=n) hl hn;have hO:∃o,OF n a=some o:=by
  unfold OF;have xj:decide ((a.length:Int)>400)=false:=by simp;omega
  rcases Wr (l:=a) (n:=n) (step:=JH a) (λ i hi=>by
   have hr:∃b,vO a[i]=some b:=by
    unfold vO;exact cZ (cZ (cZ (cZ (cZ ⟨_,rfl⟩ ⟨_,rfl⟩) ⟨_,rfl⟩) ⟨_,rfl⟩) ⟨_,rfl⟩) ⟨_,rfl⟩
   obtain⟨b,hb⟩:=hr;simp only[JH,bO hi,aj,bB hi,af,hb,aL i];cases b with
   |false=>exact .inl ⟨_,rfl⟩
   |true=>exact .inr rfl) (by simp only[JH,bX,ak]) (by omega)with ⟨o,h⟩ |h
  ·rw[h];exact⟨_,rfl⟩
  ·rw[h];simp only[d9,xj,ak,hf,af,bZ,aD,aj];exact cZ ⟨_,rfl⟩ ⟨_,rfl⟩
 obtain⟨o,ho⟩:=hO;unfold JI;rw[ho];simp only[af,bZ,aD,aj];refine cZ ?_ ⟨_,rfl⟩;have hS:∃r,NN n o.1 a=some r:=by
  unfold NN;by_cases h:o.1.length=a.length
  ·have e:((o.1.length:Int) !=(a.length:Int))=false:=(by simp[h]);rw[e];simp only[ak];rcases Wr (l:=o.1) (n:=n) (step:=Av o.1 a) (λ i hi=>by
    simp only[Av,bO hi,aj,bB hi,bB (show i<a.length by omega),af,aL i];generalize (!((o.1[i].x0==((a[i]'(by omega)).x0:Int))&&((o.1[i].y0==((a[i]'(by omega)).y0:Int))&&((o.1[i].x1==((a[i]'(by omega)).x1:Int))&&((o.1[i].y1==((a[i]'(by omega)).y1:Int))&&true)))))=c;cases c with
    |true=>exact .inl ⟨_,rfl⟩
    |false=>exact .inr rfl) (by simp only[Av,bX,ak]) (by omega)with ⟨o,h⟩ |h
   ·rw[h];exact⟨_,rfl⟩
   ·rw[h];exact⟨_,rfl⟩
  ·have e:((o.1.length:Int) !=(a.length:Int))=true:=(by simpa using λe:(o.1.length:Int)=(a.length:Int)=>h (by omega));rw[e];exact⟨_,rfl⟩
 obtain⟨r,hr⟩:=hS;rw[hr];exact⟨_,rfl⟩
theorem al8{a:List ax}(hl:a.length<=4)(hn:200000<=n):∃b,ED n a=some b:=by
 unfold ED;cases a with
 |nil=>exact⟨_,rfl⟩
 |cons r l=>
  have⟨b,hb⟩:=anw (n:=n) hl hn;have e:((((r::l).length:Nat):Int)==0)=false:=by simp;omega
  rw[hb,e];simp only[ak,af];refine cZ ⟨_,rfl⟩ ?_;have g0:bo (r::l) 0=some r:=rfl;obtain⟨o,g1,_⟩:=dH (step:=vQ (r::l) r) (λ i (v:Int×Int×Int×Int×Int)=>v.1=(i:Int)/\i<=(r::l).length) (λ _=>True) (r::l).length (λ k v h=>h.2) (by
   rintro i ⟨v,v3,v4,v5,v6⟩ ⟨hv,hi⟩;simp only at hv;subst hv;by_cases hlt:i<(r::l).length
   ·simp only[vQ,bO hlt,aj,bB hlt,af,aL i];exact .inl ⟨_,rfl,rfl,hlt⟩
   ·obtain rfl:i=(r::l).length:=(by omega);simp only[vQ,bX,ak];exact .inr ⟨_,rfl,trivial⟩) n 1 ((1:Int),r.x0,r.y0,r.x1,r.y1) ⟨rfl,by simp⟩ (by omega)
  simp only[g0,af,g1];exact⟨_,rfl⟩
theorem XA{α:Type}{l:List α}{step:Int->Option (Int⊕(Unit⊕Bool))}{good:α->Prop}(h1:∀i (hi:i<l.length),step (i:Int)=some (.inr (.inr false))\/(step (i:Int)=some (.inl ((i+1:Nat):Int))/\good l[i]))
 (h2:step (l.length:Int)=some (.inr (.inl ()))) (hn:l.length<n):iter step n (0:Int)=some (.inr false)\/(iter step n (0:Int)=some (.inl ())/\∀x∈l,good x):=by
 obtain⟨o,g1,g2⟩:=dH (step:=step) (λ i (v:Int)=>v=(i:Int)/\i<=l.length/\∀x∈l.take i,good x) (λ o=>o= .inr false\/(o= .inl ()/\∀x∈l,good x)) l.length (λ k v h=>h.2.1) (by
  rintro i v ⟨rfl,hi,hall⟩;by_cases hlt:i<l.length
  ·rcases h1 i hlt with h |⟨h,hg⟩
   ·exact .inr ⟨_,h,.inl rfl⟩
   ·refine .inl ⟨_,h,rfl,hlt,λx hx=>?_⟩;rw[List.take_add_one,dJ hlt,bf]at hx;rcases hx with hx |hx
    ·exact hall x hx
    ·simp at hx;subst hx;exact hg
  ·obtain rfl:i=l.length:=(by omega);exact .inr ⟨_,h2,.inr ⟨rfl,λx hx=>hall x (by rw[List.take_length];exact hx)⟩⟩) n 0 0 ⟨rfl,Nat.zero_le _,by simp⟩ (by omega)
 rcases g2 with rfl |⟨rfl,g2⟩
 ·exact .inl g1
 ·exact .inr ⟨g1,g2⟩
theorem ab7(hn:4000002<=n):∀(m:Nat)(e:cu),(toE e).wt<m->(toE e).wt<=4000000->∃r,vv n m e=some r
 | 0,_,h,_=>absurd h (by omega)
 |m+1,e,h,hw=>by
  have hla:=abY e;show ∃r,EA n (vv n m) e=some r;simp only[EA];obtain⟨o,g1,_⟩:=dH (step:=Ap (vv n m) e) (λ i (v:Int×Int)=>v.2=(i:Int)/\i<=e.args.length) (λ _=>True) e.args.length (λ k v h=>h.2) (by
   rintro i ⟨v1,v2⟩ ⟨hv,hi⟩;simp only at hv;subst hv;by_cases hlt:i<e.args.length
   ·have hwx:=XN (getElem_mem hlt);obtain⟨r,hr⟩:=ab7 hn m e.args[i] (by omega) (by omega);simp only[Ap,bO hlt,aj,bB hlt,af,hr,aL i];exact .inl ⟨_,rfl,rfl,hlt⟩
   ·obtain rfl:i=e.args.length:=(by omega);simp only[Ap,bX,ak];exact .inr ⟨_,rfl,trivial⟩) n 0 ((1:Int),(0:Int)) ⟨rfl,Nat.zero_le _⟩ (by omega)
  rw[g1];exact⟨_,rfl⟩
structure CZ(p:bn):Prop where
 defs:ii p.defs
 rules:∀r∈p.rules,(toE (jj r)).wt<=4000000
structure Oo(p:bn):Prop where
 defs:p.defs.length<=5
 rules:p.rules.length<=5
 rule:∀r∈p.rules,Xg r
 tabs:p.tables.length<=4/\∀t∈p.tables,t.rows.length<=8
 zones:p.zones.length<=5
 caps:p.caps.length<=3
theorem agV{p:bn}(hp:CZ p)(hn:4000002<=n):∃b,wL n p=some b/\(b=true->Oo p):=by
 have no:∃b,some false=some b/\(b=true->Oo p):=⟨false,rfl,λh=>(by cases h)⟩;unfold wL;have hk:((bif (decide ((p.defs.length:Int)>(5:Int)))then some true else(bif (decide ((p.rules.length:Int)>(5:Int)))then some true else(bif (decide ((p.tables.length:Int)>(4:Int)))then some true else(bif (decide ((p.zones.length:Int)>(5:Int)))then some true else some (decide ((p.caps.length:Int)>(3:Int))))))):Option (Bool))=some (decide (p.defs.length>5\/p.rules.length>5\/p.tables.length>4\/p.zones.length>5\/p.caps.length>3)):=by
  have c:∀a k:Nat,decide ((a:Int)>(k:Int))=decide (a>k):=λa k=>by rw[decide_eq_decide];omega
  have e1:=c p.defs.length 5;have e2:=c p.rules.length 5;have e3:=c p.tables.length 4;have e4:=c p.zones.length 5;have e5:=c p.caps.length 3;rw[show decide ((p.defs.length:Int)>(5:Int))=_ from e1,show decide ((p.rules.length:Int)>(5:Int))=_ from e2,show decide ((p.tables.length:Int)>(4:Int))=_ from e3,show decide ((p.zones.length:Int)>(5:Int))=_ from e4,show decide ((p.caps.length:Int)>(3:Int))=_ from e5,Bool.decide_or,Bool.decide_or,Bool.decide_or,Bool.decide_or];cases decide (p.defs.length>5)<;>cases decide (p.rules.length>5)<;>cases decide (p.tables.length>4)<;>cases decide (p.zones.length>5)<;>rfl
 rw[hk];by_cases hc:p.defs.length>5\/p.rules.length>5\/p.tables.length>4\/p.zones.length>5\/p.caps.length>3
 ·rw[decide_eq_true hc];exact no
 ·rw[decide_eq_false hc];simp only[af,ak];have s1:=XA (l:=p.defs) (n:=n) (step:=ug n p) (good:=λ_=>True) (λ i hi=>by
   obtain⟨r,hr⟩:=ab7 hn n _ (show _<n by have:=hp.defs.body (getElem_mem hi);omega) (hp.defs.body (getElem_mem hi));have hr':Ii n (cu.mk p.defs[i].io p.defs[i].lw p.defs[i].kw p.defs[i].ia p.defs[i].eo)=some r:=hr;simp only[ug,bO hi,aj,bB hi,af,hr',aL i];cases decide (r>30)with
   |true=>exact .inl rfl
   |false=>exact .inr ⟨rfl,trivial⟩) (by simp only[ug,bX,ak]) (by omega)
  have s2:=XA (l:=p.rules) (n:=n) (step:=uh n p) (good:=Xg) (λ i hi=>by
   obtain⟨r,hr⟩:=ab7 hn n (jj p.rules[i]) (show _<n by have:=hp.rules _ (getElem_mem hi);omega) (hp.rules _ (getElem_mem hi));have hr':Ii n (cu.mk p.rules[i].kB p.rules[i].mn p.rules[i].mm p.rules[i].i9 p.rules[i].fW)=some r:=hr;simp only[uh,bO hi,aj,bB hi,af,hr',aL i];by_cases c1:r>30
   ·simp only[c1,decide_true,aj,af];exact .inl rfl
   ·by_cases c2:(p.rules[i].zones.length:Int)>5
    ·simp only[c1,c2,decide_true,decide_false,aj,ak,af];exact .inl rfl
    ·by_cases c3:(p.rules[i].except.length:Int)>5
     ·simp only[c1,c2,c3,decide_true,decide_false,aj,ak,af];exact .inl rfl
     ·simp only[c1,c2,c3,decide_false,ak,af];exact .inr ⟨trivial,by omega,by omega⟩) (by simp only[uh,bX,ak]) (by omega)
  have s3:=XA (l:=p.tables) (n:=n) (step:=uj p) (good:=λt=>t.rows.length<=8) (λ i hi=>by
   simp only[uj,bO hi,aj,bB hi,af,aL i];by_cases c1:(p.tables[i].rows.length:Int)>8
   ·simp only[c1,decide_true,aj];exact .inl rfl
   ·simp only[c1,decide_false,ak];exact .inr ⟨trivial,by omega⟩) (by simp only[uj,bX,ak]) (by omega)
  have s4:=XA (l:=p.zones) (n:=n) (step:=ul p) (good:=λ_=>True) (λ i hi=>by
   simp only[ul,bO hi,aj,bB hi,af,aL i];cases decide ((p.zones[i].corners.length:Int)>12)with
   |true=>exact .inl rfl
   |false=>exact .inr ⟨rfl,trivial⟩) (by simp only[ul,bX,ak]) (by omega)
  have s5:=XA (l:=p.caps) (n:=n) (step:=um p) (good:=λ_=>True) (λ i hi=>by
   simp only[um,bO hi,aj,bB hi,af,aL i];cases decide ((p.caps[i].corners.length:Int)>12)with
   |true=>exact .inl rfl
   |false=>exact .inr ⟨rfl,trivial⟩) (by simp only[um,bX,ak]) (by omega)
  rcases s1 with h |⟨h,_⟩
  ·simpa only[h,gu]using no
  rcases s2 with h2 |⟨h2,g2⟩
  ·simpa only[h,h2,gu,d9]using no
  rcases s3 with h3 |⟨h3,g3⟩
  ·simpa only[h,h2,h3,gu,d9]using no
  rcases s4 with h4 |⟨h4,_⟩
  ·simpa only[h,h2,h3,h4,gu,d9]using no
  rcases s5 with h5 |⟨h5,_⟩
  ·simpa only[h,h2,h3,h4,h5,gu,d9]using no
  simp only[h,h2,h3,h4,h5,d9];exact⟨true,rfl,λ_=>⟨by omega,by omega,g2,⟨by omega,g3⟩,by omega,by omega⟩⟩
theorem ajT(lot:bU)(hn:4000002<=n):∃b,EF n lot=some b/\(b=true->lot.area.length<=4):=by
 unfold EF;by_cases h:(lot.area.length:Int)>4
 ·simp only[h,decide_true,aj];exact⟨false,rfl,λh=>(by cases h)⟩
 ·obtain⟨r,hr⟩:=al8 (n:=n) (a:=lot.area) (by omega) (by omega);simp only[h,decide_false,ak,hr,af];have:∃b,((bif (!r.2)then some true else(bif (decide ((i64.wrap (r.1.x1 -r.1.x0))<=(4:Int)))then some true else some (decide ((i64.wrap (r.1.y1 -r.1.y0))<=(4:Int))))):Option Bool)=some b:=cZ ⟨_,rfl⟩ (cZ ⟨_,rfl⟩ ⟨_,rfl⟩);obtain⟨b,hb⟩:=this;exact⟨b,hb,λ_=>by omega⟩
def m6(t:bT):bn:=bn.mk t.ci t.b8 t.b7 t.aE t.ct t.cj t.cz t.cm
structure R6(t:bT):Prop where
 land:t.land.length<=2/\∀l∈t.land,l.area.length<=4
 zd:t.bx.length<=3/\∀e∈t.bx,e.area.length<=4
 built:t.built.length<=6
theorem al9{t:bT}(hp:CZ (m6 t))(hn:4000002<=n):∃b,EI n t=some b/\(b=true->Oo (m6 t)/\R6 t):=by
 have no:∃b,some false=some b/\(b=true->Oo (m6 t)/\R6 t):=⟨false,rfl,λh=>(by cases h)⟩;have⟨b,hb,hf⟩:=agV hp hn;have hb':wL n (bn.mk t.ci t.b8 t.b7 t.aE t.ct t.cj t.cz t.cm)=some b:=hb;unfold EI;rw[hb'];cases b with
 |false=>exact no
 |true=>
  simp only[af,Bool.not_true,ak];by_cases c1:(t.land.length:Int)>2
  ·simp only[c1,decide_true,aj,af];exact no
  by_cases c2:(t.bx.length:Int)>3
  ·simp only[c1,c2,decide_true,decide_false,aj,ak,af];exact no
  by_cases c3:(t.built.length:Int)>6
  ·simp only[c1,c2,c3,decide_true,decide_false,aj,ak,af];exact no
  simp only[c1,c2,c3,decide_false,ak,af];have s1:=XA (l:=t.land) (n:=n) (step:=EG n t) (good:=λl=>l.area.length<=4) (λ i hi=>by
   have⟨b,hb,h4⟩:=ajT (n:=n) t.land[i] hn;simp only[EG,bO hi,aj,bB hi,af,hb,aL i];cases b with
   |false=>exact .inl rfl
   |true=>exact .inr ⟨rfl,h4 rfl⟩) (by simp only[EG,bX,ak]) (by omega)
  have s2:=XA (l:=t.bx) (n:=n) (step:=EH t) (good:=λe=>e.area.length<=4) (λ i hi=>by
   simp only[EH,bO hi,aj,bB hi,af,aL i];by_cases c1:(t.bx[i].area.length:Int)>4
   ·simp only[c1,decide_true,aj];exact .inl rfl
   ·simp only[c1,decide_false,ak];exact .inr ⟨trivial,by omega⟩) (by simp only[EH,bX,ak]) (by omega)
  rcases s1 with h |⟨h,g1⟩
  ·simpa only[h,gu]using no
  rcases s2 with h2 |⟨h2,g2⟩
  ·simpa only[h,h2,gu,d9]using no
  simp only[h,h2,d9];exact⟨true,rfl,λ_=>⟨hf rfl,⟨by omega,g1⟩,⟨by omega,g2⟩,by omega⟩⟩
def GP(t:bT)(i:Nat):Int×(List fA)×(List cB)×(List dO)×(List bJ)×(List fV)×(List eU)×(List bV)×Int×(List bU)×(List jh)×(List Ei)×(List iD)×(List bS):=
 ((i:Int),t.ci,t.b8,t.b7,t.aE,t.ct,t.cj,t.cz,t.cm,t.land,t.bx,t.windows,t.built,t.base)
theorem ama{t:bT}{l:List bn}(hp:CZ (m6 t))(hl:∀p∈l,CZ p)(hll:l.length<=1000)(hn:4000002<=n):∃b,NP n t l=some b/\(b=true->∀p∈l,Oo p/\R6 t):=by
 have no:∃b,some false=some b/\(b=true->∀p∈l,Oo p/\R6 t):=⟨false,rfl,λh=>(by cases h)⟩;unfold NP
 obtain⟨o,g1,g2⟩:=dH (step:=rR n l) (λ i v=>i<=l.length/\(∃ u:bT,v=GP u i/\CZ (m6 u)/\u.land=t.land/\u.bx=t.bx/\u.built=t.built)/\∀p∈l.take i,Oo p/\R6 t)
  (λ o=>o= .inr false\/∃u:bT,o= .inl (GP u 0).2/\CZ (m6 u)/\∀p∈l,Oo p/\R6 t) l.length (λ k v h=>h.1) (by
  rintro i v ⟨hi,⟨u,rfl,hz,e1,e2,e3⟩,hall⟩;have hst:rR n l (GP u i)=rR n l ((i:Int),u.ci,u.b8,u.b7,u.aE,u.ct,u.cj,u.cz,u.cm,u.land,u.bx,u.windows,u.built,u.base):=rfl;rw[hst];by_cases hlt:i<l.length
  ·have hz':CZ (m6 (co u l[i])):=hl _ (getElem_mem hlt);have⟨b,hb,hf⟩:=al9 (n:=n) (t:=co u l[i]) hz' hn;have hb':EI n (bT.mk l[i].defs l[i].tables l[i].zones l[i].rules l[i].caps l[i].views l[i].ml l[i].hours u.land u.bx u.windows u.built u.base)=some b:=hb;simp only[rR,bO hlt,aj,bB hlt,af,hb',aL i];cases b with
   |false=>exact .inr ⟨_,rfl,.inl rfl⟩
   |true=>
    have⟨f1,f2⟩:=hf rfl;refine .inl ⟨_,rfl,hlt,⟨co u l[i],rfl,hz',e1,e2,e3⟩,λp hp=>?_⟩;rw[List.take_add_one,dJ hlt,bf]at hp;rcases hp with hp |hp
    ·exact hall p hp
    ·simp at hp;subst hp;refine⟨f1,⟨?_,?_,?_⟩⟩
     ·rw[<- e1];exact f2.land
     ·rw[<- e2];exact f2.zd
     ·rw[<- e3];exact f2.built
  ·obtain rfl:i=l.length:=(by omega);simp only[rR,bX,ak];refine .inr ⟨_,rfl,.inr ⟨u,rfl,hz,λp hp=>hall p (by rw[List.take_length];exact hp)⟩⟩) n 0 (GP t 0) ⟨Nat.zero_le _,⟨t,rfl,hp,rfl,rfl,rfl⟩,by simp⟩ (by omega)
 have g1':iter (rR n l) n ((0:Int),t.ci,t.b8,t.b7,t.aE,t.ct,t.cj,t.cz,t.cm,t.land,t.bx,t.windows,t.built,t.base)=some o:=g1;rw[g1'];rcases g2 with rfl |⟨u,rfl,hz,hall⟩
 ·exact no
 ·have⟨b,hb,_⟩:=al9 (n:=n) (t:=u) hz hn;refine⟨b,?_,λ_=>hall⟩;simp only[GP,d9];have hb':EI n (bT.mk u.ci u.b8 u.b7 u.aE u.ct u.cj u.cz u.cm u.land u.bx u.windows u.built u.base)=some b:=hb;rw[hb'];rfl
theorem anx{t:bT}{p:bn}(hz:CZ p)(hf:Oo p)(ht:R6 t)(hr:∀l∈t.land,l.from_.length*8<=140737488355328):Bf (co t p) where
 lots:=λl hl=>⟨by have:=ht.land.2 l hl;omega,hr l hl⟩
 land:=by have:=ht.land.1;show t.land.length<=_;omega
 zd:=⟨by have:=ht.zd.1;show t.bx.length<=_;omega,λe he=>by have:=ht.zd.2 e he;omega⟩
 built:=by have:=ht.built;show t.built.length<=_;omega
 zones:=by have:=hf.zones;show p.zones.length<=_;omega
 caps:=by have:=hf.caps;show p.caps.length<=_;omega
 rules:=by have:=hf.rules;show p.rules.length<=_;omega
 rule:=λr hr=>⟨hf.rule r hr,hz.rules r hr⟩
 plan:=⟨hz.defs,by have:=hf.tabs.1;show p.tables.length<=_;omega,λx hx=>by have:=hf.tabs.2 x hx;omega⟩
theorem amb{t:bT}(ht:R6 t):IK t.land:=⟨λ l hl=>by have:=ht.land.2 l hl;omega,by have:=ht.land.1;omega⟩
def G1(x y:aT):Bool:=(x.lot==(y.lot:Int))&&((x.use==(y.use:Int))&&((x.floors==(y.floors:Int))&&((x.fL==(y.fL:Int))&&true)))
theorem ab8(x y:aT):G1 x y=true↔x=y:=by
 cases x;cases y;simp[G1]
structure apq(n:Nat)(t:bT)(l:List bn):Prop where
 land:IK t.land
 plans:∀p∈l,Bf (co t p)
 n:Oi n
theorem n42:Oi 5000003:=⟨aC _,by omega⟩
structure an2(t:bT):Prop where
 plan:CZ (m6 t)
 yz:∀l∈t.land,l.from_.length*8<=140737488355328
theorem ab9{ab:List ByteArray}{name:ByteArray}{bad:Bool}(h:ab≠[]):addN ab name bad≠[]:=by
 unfold addN;cases (bad&&!(ab.any (lf name)))with
 |false=>exact h
 |true=>simp
def xA(t:bT)(l:List bJ):bT:=bT.mk t.ci t.b8 t.b7 l t.ct t.cj t.cz t.cm t.land t.bx t.windows t.built t.base
theorem aiy(f:bJ->Bool):∀(l:List bJ){ab:List ByteArray},ab≠[]->l.foldl (λ ab r=>addN ab r.name (f r)) ab≠[]
 |[],_,h=>h
 |r::l,_,h=>by rw[foldl_cons];exact aiy f l (ab9 h)
theorem aeQ(f:bJ->Bool):∀l:List bJ,l.foldl (λ ab r=>addN ab r.name (f r)) []=[]↔∀r∈l,f r=false
 |[]=>by simp
 |r::l=>by
  rw[foldl_cons];cases hr:f r with
  |false=>
   rw[show addN [] r.name false=[]from rfl,aeQ f l];simp[hr]
  |true=>
   refine⟨λ h=>absurd h (aiy f l (by rw[show addN [] r.name true=[r.name]from rfl];simp)),λh=>?_⟩;have:=h r (by simp);rw[hr]at this;cases this
theorem amc{t:bT}{d:bq}{day:Int}{l:List bJ}(hs:∀r∈l,r∈t.aE)(h:Y3 n t d day=true):Y3 n (xA t l) d day=true:=by
 unfold Y3 at h ⊢;have he:wP n (xA t l) d=wP n t d:=rfl;rw[aK,aS]at h ⊢;obtain⟨h1,h2⟩:=h;refine⟨h1,?_⟩;unfold vR at h2 ⊢;rw[he];rw[h1]at h2 ⊢;simp only[aj]at h2 ⊢;have hr:vz n t (iM t d) d (applied t (iM t d) day)=[]:=pz λhne=>ab9 hne h2;have hr':vz n (xA t l) (iM t d) d (applied (xA t l) (iM t d) day)=[]:=by
  have hf:(λ (ab:List ByteArray) (r:bJ)=>addN ab r.name (Le n (xA t l) (iM t d) d r))=λab r=>addN ab r.name (Le n t (iM t d) d r):=rfl;unfold vz at hr ⊢;rw[hf];rw[aeQ]at hr ⊢;intro r hm;have hm:r∈l.filter (kF (nO t (iM t d)) day):=hm;rw[mem_filter]at hm;exact hr r (mem_filter.2 ⟨hs r hm.1,hm.2⟩)
 have hl:iM (xA t l) d=iM t d:=rfl;have HG:II (xA t l) d=II t d:=rfl;rw[hr]at h2;rw[hl,hr',HG];exact h2
theorem ajU{t:bT}{d:bq}{day:Int}{r:bJ}(h:Y3 n t d day=true)(h2:Y3 n (xA t (([]++t.aE)++[r])) d day=false):(wP n t d==0)=true/\vR n (xA t (([]++t.aE)++[r])) d day=[r.name]:=by
 unfold Y3 at h h2;have he:wP n (xA t (([]++t.aE)++[r])) d=wP n t d:=rfl;rw[aK,aS]at h;obtain⟨h1,h3⟩:=h;refine⟨h1,?_⟩;rw[he,h1,Bool.true_and,dK]at h2;unfold vR at h2 h3 ⊢;rw[he]at h2 ⊢;rw[h1]at h2 h3 ⊢;simp only[aj]at h2 h3 ⊢;have hr:vz n t (iM t d) d (applied t (iM t d) day)=[]:=pz λhne=>ab9 hne h3;rw[hr]at h3;have HG:II t d=false:=by
  cases h4:II t d with
  |false=>rfl
  |true=>rw[h4]at h3;exact absurd h3 (by rw[show addN [] Qr true=[Qr]from rfl];simp)
 have hl:iM (xA t (([]++t.aE)++[r])) d=iM t d:=rfl;have heb:II (xA t (([]++t.aE)++[r])) d=II t d:=rfl;have ha:applied (xA t (([]++t.aE)++[r])) (iM t d) day=applied t (iM t d) day++[r].filter (kF (nO t (iM t d)) day):=by
  show((([]++t.aE)++[r]).filter _)=_;rw[bR,List.filter_append];rfl
 have hR:vz n (xA t (([]++t.aE)++[r])) (iM t d) d (applied (xA t (([]++t.aE)++[r])) (iM t d) day)=([r].filter (kF (nO t (iM t d)) day)).foldl (λ ab r=>addN ab r.name (Le n t (iM t d) d r)) []:=by
  have hf:(λ (ab:List ByteArray) (x:bJ)=>addN ab x.name (Le n (xA t (([]++t.aE)++[r])) (iM t d) d x))=λab x=>addN ab x.name (Le n t (iM t d) d x):=rfl;have hr':(applied t (iM t d) day).foldl (λ ab x=>addN ab x.name (Le n t (iM t d) d x)) []=[]:=hr;unfold vz;rw[ha,hf,List.foldl_append,hr']
 rw[hl,hR,heb,HG]at h2 ⊢;cases hap:kF (nO t (iM t d)) day r with
 |false=>
  rw[List.filter_cons,hap]at h2;exact absurd rfl h2
 |true=>
  have e:[r].filter (kF (nO t (iM t d)) day)=[r]:=by rw[List.filter_cons,hap];rfl
  rw[e]at h2 ⊢;simp only[foldl_cons,List.foldl_nil]at h2 ⊢;cases hb:Le n t (iM t d) d r with
  |false=>rw[hb]at h2;exact absurd rfl h2
  |true=>rfl
def Ay(a:bn)(r:bJ):bn:=bn.mk a.defs a.tables a.zones (([]++a.rules)++[r]) a.caps a.views a.ml a.hours
theorem anz(a:bn)(r:bJ)(hl:a.rules.length<=1048576):iter (iR a r true) 5000003 (0:Int)=some (.inl ())\/iter (iR a r true) 5000003 (0:Int)=some (.inr true):=by
 obtain⟨o,h1,h2⟩:=dH (step:=iR a r true) (λ i (v:Int)=>v=(i:Int)/\i<=a.rules.length) (λ o=>o= .inl ()\/o= .inr true) a.rules.length (λ k v h=>h.2) (by
  rintro i v ⟨rfl,hi⟩;by_cases hlt:i<a.rules.length
  ·simp only[iR,bO hlt,aj,bB hlt,af,aL i];cases (ByteArray.toList a.rules[i].name==ByteArray.toList r.name)with
   |true=>exact .inr ⟨_,rfl,.inr rfl⟩
   |false=>exact .inl ⟨_,rfl,rfl,hlt⟩
  ·obtain rfl:i=a.rules.length:=(by omega);simp only[iR,bX,ak];exact .inr ⟨_,rfl,.inl rfl⟩) 5000003 0 (0:Int) ⟨rfl,Nat.zero_le _⟩ (by omega)
 rcases h2 with rfl |rfl
 ·exact .inl h1
 ·exact .inr h1
theorem Qu(hs:CP 5000003=some true)(t:bT)(a:bn)(r:bJ)(day:Int)(ht:an2 t)(ha:CZ a)(hr:(toE (jj r)).wt<=4000000)(hl:a.rules.length<=1048576):rz 5000003 t a r day=some true:=by
 have hb:CZ (Ay a r):=⟨ha.defs,λx hx=>by
  have hx:x∈([]++a.rules)++[r]:=hx;rw[bR]at hx;rcases bf.1 hx with h |h
  ·exact ha.rules x h
  ·rw[aW.1 h];exact hr⟩
 have hmem:∀p∈[a,Ay a r],CZ p:=λp hp=>by simp only[aN,fq,or_false]at hp;rcases hp with rfl |rfl<;>assumption
 obtain⟨few,hf,Sx⟩:=ama (n:=5000003) (t:=t) (l:=[a,Ay a r]) ht.plan hmem (by simp) (by omega);have SZ:bQ 0 0 a.rules.length a.rules.length 232=true:=by rw[ajg,aK,aS,aS];exact⟨by omega,by simp only[maxLen];omega⟩
 have BT:bQ ([]++a.rules:List bJ).length ([]++a.rules:List bJ).length 1 1 232=true:=dh (by simp;omega) (by simp only[maxLen,bR];omega);have hs1:∀r:bJ,sub [r] 0 1=[r]:=λ_=>rfl;have hs2:∀x y:bn,sub [x,y] 0 2=[x,y]:=λ_ _=>rfl;have hf':NP 5000003 t [a,bn.mk a.defs a.tables a.zones (([]++a.rules)++[r]) a.caps a.views a.ml a.hours]=some few:=hf;have hkey:∀c:Bool,((bif (!few)then some true else some c):Option Bool)=some (!few || c):=λc=>by cases few<;>rfl
 unfold rz;rw[hs];simp only[af,SZ,BT,aj,dN,hs1,hs2,length_singleton,bZ,aD,bG,length_nil,Nat.zero_add,Nat.reduceAdd,hf',hkey];cases hq:(!few || ByteArray.toList r.name==ByteArray.toList (⟨#[101,97,115,101,109,101,110,116]⟩))with
 |true=>rfl
 |false=>
  rw[Bool.or_eq_false_iff]at hq;obtain⟨q1,q2⟩:=hq;have hfe:few=true:=by
   cases few with
   |true=>rfl
   |false=>cases q1
  have hF:=Sx hfe;have hW:apq 5000003 t [a,Ay a r]:=⟨amb (hF a (by simp)).2,λp hp=>anx (hmem p hp) (hF p hp).1 (hF p hp).2 ht.yz,n42⟩;have hA:=hW.plans a (by simp);have hB:=hW.plans (Ay a r) (by simp);simp only[ak];rcases anz a r hl with h1 |h1
  ·have e1:=IL (day:=day) hW.land hB hA n42;have e2:=aeM (day:=day) hW.land hA hB n42;have e3:=IL (day:=day) hW.land hA hB n42;have mono:∀p,gL 5000003 t day (Ay a r) p=true->gL 5000003 t day a p=true:=λp h=>amc (t:=co t (Ay a r)) (l:=a.rules) (λ x hx=>by
    show x∈([]++a.rules)++[r];simp[hx]) h
   rw[IQ λp _=>by
    cases h:gL 5000003 t day (Ay a r) p with
    |false=>rfl
    |true=>rw[mono p h];rfl]at e1
   have E2:eu 5000003 t (bn.mk a.defs a.tables a.zones (([]++a.rules)++[r]) a.caps a.views a.ml a.hours) a day=some true:=e1;have e2':gW 5000003 t a (bn.mk a.defs a.tables a.zones (([]++a.rules)++[r]) a.caps a.views a.ml a.hours) day=some _:=e2;have e3':eu 5000003 t a (bn.mk a.defs a.tables a.zones (([]++a.rules)++[r]) a.caps a.views a.ml a.hours) day=some _:=e3;simp only[h1,d9,E2,e2',e3',af,Bool.not_true,ak];rcases Ol (fG 5000003 t.land) (λ p=>!(gL 5000003 t day a p==gL 5000003 t day (Ay a r) p))with ⟨p,_,hrr,hp,hd⟩ |⟨hrr,hd⟩
   ·rw[hrr];simp only[Bool.not_true,ak];have hvb:gL 5000003 t day (Ay a r) p=false:=by
     cases h:gL 5000003 t day (Ay a r) p with
     |false=>rfl
     |true=>rw[mono p h,h]at hd;cases hd
    have hva:gL 5000003 t day a p=true:=by
     rw[hvb]at hd;cases h:gL 5000003 t day a p with
     |true=>rfl
     |false=>rw[h]at hd;cases hd
    have hdr:=Lf hp;have⟨lot,hof⟩:=aaH hp;have hfits:=aiu hof;have hD:(uP 5000003 t.land p).1=Xw 5000003 lot p:=by
     unfold uP;rw[hof.T2];simp only[hfits,aj]
    unfold gL at hva hvb;rw[hD]at hva hvb;have⟨b1,b2⟩:=ajU (t:=co t a) (r:=r) hva hvb;have hbr:=aaC (n:=5000003) (t:=co t (Ay a r)) (d:=Xw 5000003 lot p) day hB (aiv _ _ _) n42;have SU:oF 5000003 (bT.mk a.defs a.tables a.zones (([]++a.rules)++[r]) a.caps a.views a.ml a.hours t.land t.bx t.windows t.built t.base) (Xw 5000003 lot p) day=some ([r.name],wP 5000003 (co t a) (Xw 5000003 lot p)):=by
     have:vR 5000003 (co t (Ay a r)) (Xw 5000003 lot p) day=[r.name]:=b2;rw[this]at hbr;exact hbr
    have hwl:=Xz (p:=p) (day:=day) hW.land hA n42;rw[hdr]at hwl;have Rg:gL 5000003 t day a p=true:=(by unfold gL;rw[hD];exact hva);rw[Rg]at hwl;obtain⟨RR,k,hk,hlk,hbef⟩:=List.find?_eq_some_iff_getElem.1 hof.T2;have ha9:=hW.land.1 _ (getElem_mem hk);rw[hlk]at ha9;have hn1:=n42.1;have apt:=hW.land.2;have loop:iter (kD 5000003 t a r day true (([]++a.rules)++[r]) (p,true)) 5000003 (0:Int)=some (.inr true):=by
     refine p9 (step:=kD 5000003 t a r day true (([]++a.rules)++[r]) (p,true)) (λ i=>(i:Int)) (s:=(0:Int)) k (.inr true) rfl (λ i hi=>?_) ?_ 5000003 (by omega)
     ·have hne:=hbef i hi;have hne2:(t.land[i].id !=p.lot)=true:=(by simpa[bne]using hne);simp only[kD,bO (show i<t.land.length by omega),aj,bB (show i<t.land.length by omega),af,hne2,aL i]
     ·have hne2:(lot.id !=p.lot)=false:=(by rw[bne,RR];rfl);have hnm:(ByteArray.toList r.name==ByteArray.toList r.name)=true:=(by simp);have h0:bo [r.name] 0=some r.name:=rfl;simp only[kD,bO hk,aj,bB hk,hlk,af,hne2,ak,aeJ (n:=5000003) ha9 (by omega) p,hfits,bZ,SU,b1,length_singleton];have h1:(((1:Nat):Int)==(1:Int))=true:=rfl;have h2:cC 0 1=true:=rfl;have h3:bo [r.name] ((0:Nat)+0:Int)=some r.name:=rfl;simp only[h1,h2,h3,aj,af,hnm,hwl];rfl
    simp only[loop,gu,bZ]
   ·rw[hrr];rw[IQ λp hp=>by
     have:=hd p hp;cases h:gL 5000003 t day a p<;>cases h2:gL 5000003 t day (Ay a r) p<;>simp_all]
    rfl
  ·simp only[h1,gu]
def eJ:List bU:=[bU.mk 1 0 [ax.mk 0 0 4 4] []]
def ev:bT:=bT.mk [] [] [] [] [] [] [] 0 eJ [] [] [] []
def iY(k:Int):bn:=bn.mk [] [] [] [(bJ.mk (⟨#[97]⟩) ([]) ([]) 0 0 0 false 0 12 0 (⟨#[]⟩) (⟨#[]⟩) [(cu.mk 1 0 (⟨#[104,101,105,103,104,116]⟩) (⟨#[]⟩) ([])),(cu.mk 0 k (⟨#[]⟩) (⟨#[]⟩) ([]))] 0 0 0 0 0 0 0)] [] [] [] 0
theorem anA(k:Int):fC k=some (iY k):=rfl
theorem Bg(k:Int):Bf (co ev (iY k)) where
 lots:=λl hl=>by
  have hl:l∈eJ:=hl;simp only[eJ,aW]at hl;subst hl;exact⟨by decide,by decide⟩
 land:=by show eJ.length<=1000;decide
 zd:=⟨Nat.zero_le _,λe he=>by have he:e∈([]:List jh):=he;simp at he⟩
 built:=Nat.zero_le _
 zones:=Nat.zero_le _
 caps:=Nat.zero_le _
 rules:=by show 1<=100;decide
 rule:=λr hr=>by
  have hr:r∈(iY k).rules:=hr;simp only[iY,aW]at hr;subst hr;exact⟨⟨Nat.zero_le _,Nat.zero_le _⟩,Nat.le_of_ble_eq_true (by kernel_rfl)⟩
 plan:=⟨Nat.le_of_ble_eq_true (by kernel_rfl),⟨Nat.zero_le _,λx hx=>by have hx:x∈([]:List cB):=hx;simp at hx⟩⟩
theorem IU:IK ev.land:=⟨λ l hl=>by
 have hl:l∈eJ:=hl;simp only[eJ,aW]at hl;subst hl;decide,by show eJ.length<=500;decide⟩
def SL(k:Int)(p:aT):Bool:=gL 5000003 ev 0 (iY k) p
def lv:List aT:=(List.range 2).flatMap λ(i:Nat)=>(List.range 72).map λ(k:Nat)=>aT.mk 1 ((k%6:Nat):Int) ((k/6+1:Nat):Int) (i:Int)
def IH:Qs:=[(lC.mk 1 0,16),(lC.mk 1 1,4)]
theorem aiz:((za 5000003 eJ).1,(za 5000003 eJ).2.2)=(IH,lv):=by kernel_rfl
def uF:bU:=bU.mk 1 0 [ax.mk 0 0 4 4] []
def uK(p:aT):bq:=(uP 5000003 eJ p).1
set_option maxRecDepth 100000 in
theorem anB:(lv.all λp=>p.lot==1&&(wP 5000003 (co ev (iY 0)) (uK p)==0&&!II (co ev (iY 0)) (uK p)))=true:=by kernel_rfl
set_option maxRecDepth 100000 in
theorem aoJ:(lv.all λp=>((kz 5000003 (il (co ev (iY 0))) uF (uK p)).bind λms=>(ms[4]?).map λe=>e.n)==some (p.floors*3))=true:=by kernel_rfl
def IF(k:Int):bJ:=bJ.mk (⟨#[97]⟩) ([]) ([]) 0 0 0 false 0 12 0 (⟨#[]⟩) (⟨#[]⟩) [(cu.mk 1 0 (⟨#[104,101,105,103,104,116]⟩) (⟨#[]⟩) ([])),(cu.mk 0 k (⟨#[]⟩) (⟨#[]⟩) ([]))] 0 0 0 0 0 0 0
def M3(e1 e2 e3 e4 e5 e6 e7 e8 e9:Int):List bS:=[⟨⟨#[97,114,101,97]⟩,e1⟩,⟨⟨#[99,111,118,101,114]⟩,e2⟩,⟨⟨#[102,108,111,111,114]⟩,e3⟩,⟨⟨#[102,108,111,111,114,115]⟩,e4⟩,⟨⟨#[104,101,105,103,104,116]⟩,e5⟩,⟨⟨#[104,111,109,101,115]⟩,e6⟩,⟨⟨#[114,117,110,111,102,102]⟩,e7⟩,⟨CY,e8⟩,⟨⟨#[116,114,97,102,102,105,99]⟩,e9⟩]
def tU:List Int:=[3,5,6,7,9]
def C2:List Int:=[1,2,3,4,5,6,7,8,9,10,11,12]
theorem amf(e1 e2 e3 e4 e6 e7 e8 e9:Int):(tU.all λk=>C2.all λf=>(vL 5000003 (il (co ev (iY 0))) (M3 e1 e2 e3 e4 (f*3) e6 e7 e8 e9) [] (jj (IF k))==some (bif decide (f*3<=k)then 1 else 0)))=true:=by kernel_rfl
theorem apf{k:Int}(hk:k∈tU){p:aT}(hp:p∈lv)(hf:p.floors∈C2):SL k p=decide (p.floors*3<=k):=by
 have h1:=all_eq_true.1 anB p hp;have h2:=all_eq_true.1 aoJ p hp;simp only[aK,beq_iff_eq,Bool.not_eq_true']at h1 h2;obtain⟨hl,HF,HG⟩:=h1;have hD:xt (uK p):=Oj _ _ _;have Sf:iM (co ev (iY k)) (uK p)=uF:=by
  have hd:(uK p).lot=1:=by
   have he:wP 5000003 (co ev (iY 0)) (uK p)=0:=HF;unfold wP at he;cases hc:(jo (co ev (iY 0)).land (uK p).lot).2 with
   |false=>rw[hc]at he;cases he
   |true=>
    have:jo eJ (uK p).lot=if (1:Int)=(uK p).lot then(uF,true)else(MM,false):=by
     unfold jo eJ;simp only[List.find?_cons,List.find?_nil];by_cases h:(1:Int)=(uK p).lot
     ·have hb:((1:Int)==(uK p).lot)=true:=(by simpa using h);rw[aX h,hb];rfl
     ·have hb:((1:Int)==(uK p).lot)=false:=(by simpa using h);rw[aQ h,hb]
    have hc':(jo eJ (uK p).lot).2=true:=hc;rw[this]at hc';by_cases h:(1:Int)=(uK p).lot
    ·exact h.symm
    ·rw[aQ h]at hc';cases hc'
  show(jo eJ (uK p).lot).1=_;rw[hd];rfl
 obtain⟨e1,e2,e3,e4,e5,e6,e7,e8,LI⟩:=an1 (n:=5000003) (p:=il (co ev (iY 0))) (lot:=uF) (d:=uK p) ⟨Nat.zero_lt_succ _,Nat.zero_le _,λx hx=>by have hx:x∈([]:List cB):=hx;simp at hx⟩ (by decide) hD.1 (by omega);have hms:kz 5000003 (il (co ev (iY 0))) uF (uK p)=some (M3 e1 e2 e3 e4 e5 e6 e7 (uE (mY uF) (fH (uK p))) e8):=LI [];have h5:e5=p.floors*3:=by
  rw[hms]at h2;have:some e5=some (p.floors*3):=h2;injection this
 have hev:=all_eq_true.1 (all_eq_true.1 (amf e1 e2 e3 e4 e6 e7 (uE (mY uF) (fH (uK p))) e8) k hk) p.floors hf;rw[beq_iff_eq]at hev;have Se:kz 5000003 (il (co ev (iY k))) uF (uK p)=some (M3 e1 e2 e3 e4 (p.floors*3) e6 e7 (uE (mY uF) (fH (uK p))) e8):=h5 ▸ hms;have hz:nO (co ev (iY k)) uF=[]:=rfl;have hb:Le 5000003 (co ev (iY k)) uF (uK p) (IF k)=!decide (p.floors*3<=k):=by
  have ht:My 5000003 (co ev (iY k)) uF (uK p) (IF k)=!decide (p.floors*3<=k):=by
   unfold My;rw[Se,hz];have SD:vL 5000003 (il (co ev (iY k))) (M3 e1 e2 e3 e4 (p.floors*3) e6 e7 (uE (mY uF) (fH (uK p))) e8) [] (jj (IF k))=_:=hev;simp only[af,SD,Option.getD_some];cases decide (p.floors*3<=k)<;>rfl
  unfold Le;exact ht
 have hap:applied (co ev (iY k)) uF 0=[IF k]:=rfl;have HE:wP 5000003 (co ev (iY k)) (uK p)=0:=HF;have SJ:II (co ev (iY k)) (uK p)=false:=HG;show Y3 5000003 (co ev (iY k)) (uK p) 0=_;unfold Y3 vR;rw[HE,Sf,hap,SJ];unfold vz;simp only[foldl_cons,List.foldl_nil,hb];cases decide (p.floors*3<=k)<;>rfl
theorem agW:(lv.all λp=>C2.contains p.floors)=true:=by kernel_rfl
theorem rV{k:Int}(hk:k∈tU){p:aT}(hp:p∈lv):SL k p=decide (p.floors*3<=k):=
 apf hk hp (by have:=all_eq_true.1 agW p hp;simpa using this)
theorem aeR:(za 5000003 eJ).1=IH:=congrArg Prod.fst aiz
theorem aeS:(za 5000003 eJ).2.2=lv:=congrArg Prod.snd aiz
theorem UG{p:aT}:p∈fG 5000003 eJ↔p∈lv:=by rw[(wQ 5000003 eJ).mem_iff,aeS]
def Wf(x y:aT):Bool:=Nh vy IH x y
theorem anC(x:aT):Wf x x=false:=(WJ vy IH).irrefl x
theorem agX:List.Pairwise (α:=aT) (λ x y=>Wf y x=false) (fG 5000003 eJ):=by
 have:=M7 (α:=aT) (WJ vy (za 5000003 eJ).1) (za 5000003 eJ).2.2;rw[aeR]at this;have e:fG 5000003 eJ=lu (α:=aT) (Nh vy IH) (za 5000003 eJ).2.2:=by unfold fG;rw[aeR]
 rw[e];exact this
theorem JN{q q':aT->Bool}(hq:∀p∈lv,q p=q' p){p0:aT}(h0:(lv.any λp=>G1 p p0)=true)(h1:q' p0=true)(h2:(lv.all λp=>!q' p || (G1 p p0 || Wf p0 p))=true):rU (fG 5000003 eJ) q=(p0,true):=by
 obtain⟨p1,hp1,he⟩:=List.any_eq_true.1 h0;rw[ab8]at he;subst he;have hmem:=UG.2 hp1;have hs:=agX;have hin:∀p∈fG 5000003 eJ,p∈lv:=λp hp=>UG.1 hp;generalize fG 5000003 eJ=L at hmem hs hin;rcases Ol L q with ⟨p,hf,hr,hp,hqp⟩ |⟨_,hn⟩
 ·have hpr:=hin p hp;rw[hq p hpr]at hqp;have:=all_eq_true.1 h2 p hpr;rw[hqp,Bool.not_true,Bool.false_or,Bool.or_eq_true]at this;rcases this with h |h
  ·rw[ab8]at h;rw[hr,h]
  ·exfalso;obtain⟨_,i,hi,rfl,hbef⟩:=List.find?_eq_some_iff_getElem.1 hf;obtain⟨j,hj,rfl⟩:=List.getElem_of_mem hmem;rcases Nat.lt_trichotomy i j with hij |hij |hij
   ·rw[List.pairwise_iff_getElem]at hs;rw[hs i j hi hj hij]at h;cases h
   ·subst hij;rw[anC]at h;cases h
   ·have:=hbef j hij;rw[hq _ (hin _ hmem),h1]at this;cases this
 ·have:=hn p1 hmem;rw[hq p1 hp1,h1]at this;cases this
theorem XB{q:aT->Bool}(hq:∀p∈lv,q p=false):rU (fG 5000003 eJ) q=(Xx,false):=IQ λp hp=>hq p (UG.1 hp)
def SQ(k:Int)(p:aT):Bool:=decide (p.floors*3<=k)
theorem an3(a b:Int)(ha:a∈tU)(hb:b∈tU):gW 5000003 ev (iY a) (iY b) 0=some (rU (fG 5000003 eJ) λp=>!(SL a p==SL b p)):=aeM IU (Bg a) (Bg b) n42
theorem anD:gW 5000003 ev (iY 6) (iY 9) 0=some (aT.mk 1 0 3 1,true):=by rw[an3 6 9 (by decide) (by decide),JN (q':=λp=>!(SQ 6 p==SQ 9 p)) (p0:=aT.mk 1 0 3 1) (λ p hp=>by rw[rV (by decide) hp,rV (by decide) hp];rfl) (by kernel_rfl) (by kernel_rfl) (by kernel_rfl)]
theorem anE:gW 5000003 ev (iY 6) (iY 7) 0=some (Xx,false):=by
 rw[an3 6 7 (by decide) (by decide),XB λp hp=>by
  rw[rV (by decide) hp,rV (by decide) hp];have e:decide (p.floors*3<=6)=decide (p.floors*3<=7):=by rw[decide_eq_decide];omega
  rw[e];cases decide (p.floors*3<=7)<;>rfl]
theorem We(x a b m:Int):gX 5000003 ev (iY x) (iY a) (iY b) (iY m) 0=some (rU (fG 5000003 eJ) λp=>Xy (SL x p) (SL a p) (SL b p) (SL m p)):=al5 IU (Bg x) (Bg a) (Bg b) (Bg m) n42
theorem ajV:gX 5000003 ev (iY 6) (iY 9) (iY 3) (iY 6) 0=some (aT.mk 1 0 2 1,true):=by rw[We,JN (q':=λp=>Xy (SQ 6 p) (SQ 9 p) (SQ 3 p) (SQ 6 p)) (p0:=aT.mk 1 0 2 1) (λ p hp=>by rw[rV (by decide) hp,rV (by decide) hp,rV (by decide) hp];rfl) (by kernel_rfl) (by kernel_rfl) (by kernel_rfl)]
theorem ajW:gX 5000003 ev (iY 6) (iY 9) (iY 3) (iY 9) 0=some (aT.mk 1 0 2 1,true):=by rw[We,JN (q':=λp=>Xy (SQ 6 p) (SQ 9 p) (SQ 3 p) (SQ 9 p)) (p0:=aT.mk 1 0 2 1) (λ p hp=>by rw[rV (by decide) hp,rV (by decide) hp,rV (by decide) hp];rfl) (by kernel_rfl) (by kernel_rfl) (by kernel_rfl)]
theorem ajX:gX 5000003 ev (iY 6) (iY 9) (iY 6) (iY 9) 0=some (Xx,false):=by rw[We,XB λp _=>by cases SL 6 p<;>cases SL 9 p<;>rfl]
theorem an4(a b:Int):eu 5000003 ev (iY a) (iY b) 0=some (!(rU (fG 5000003 eJ) λp=>SL a p&&!SL b p).2):=IL IU (Bg a) (Bg b) n42
theorem anF:eu 5000003 ev (iY 6) (iY 9) 0=some true:=by
 rw[an4,XB λp hp=>by
  rw[rV (by decide) hp,rV (by decide) hp];by_cases h:p.floors*3<=6
  ·have h2:p.floors*3<=9:=(by omega);simp[h2]
  ·simp[h]]
 rfl
theorem anG:eu 5000003 ev (iY 9) (iY 6) 0=some false:=by
 rw[an4,JN (q':=λp=>SQ 9 p&&!SQ 6 p) (p0:=aT.mk 1 0 3 1) (λ p hp=>by rw[rV (by decide) hp,rV (by decide) hp];rfl) (by kernel_rfl) (by kernel_rfl) (by kernel_rfl)];rfl
theorem aiB:aT.mk 1 0 2 1∈lv:=by
 have:(lv.any λp=>G1 p (aT.mk 1 0 2 1))=true:=by kernel_rfl
 obtain⟨p,hp,he⟩:=List.any_eq_true.1 this;rw[ab8]at he;rw[<- he];exact hp
theorem an5(k:Int)(hk:k∈tU):kC 5000003 ev (iY k) (aT.mk 1 0 2 1) 0=some (decide (6<=k)):=by
 have:=Xz (n:=5000003) (p:=aT.mk 1 0 2 1) (day:=0) IU (Bg k) n42;rw[this];have h1:(uP 5000003 ev.land (aT.mk 1 0 2 1)).2=true:=Lf (UG.2 aiB);have h2:gL 5000003 ev 0 (iY k) (aT.mk 1 0 2 1)=decide (2*3<=k):=rV hk aiB;rw[h1,h2];rfl
theorem aoK:∃l,mV 5000003 ev (iY 6) 0=some l/\l.length=144:=by
 refine⟨_,aeN IU (Bg 6) n42,?_⟩;rw[length_map];show(fG 5000003 eJ).length=144;rw[(wQ 5000003 eJ).length_eq,aeS];rfl
theorem anH:CP 5000003=some true:=by
 have a1:=anD;have a2:=anE;have a3:=ajV;have a4:=ajW;have a5:=ajX;have a6:=anF;have a7:=anG;have a8:=an5 6 (by decide);have a9:=an5 5 (by decide);obtain⟨l,b1,b2⟩:=aoK;have hs:∀r:ax,sub [r] 0 1=[r]:=λ_=>rfl;have hs2:∀r:bU,sub [r] 0 1=[r]:=λ_=>rfl;simp only[ev,eJ]at a1 a2 a3 a4 a5 a6 a7 a8 a9 b1;simp only[CP,anA,af,hs,hs2,length_singleton,aD,aj,a1,a2,a3,a4,a5,a6,a7,a8,a9,b1,b2];rfl
mutual
theorem anI:∀g:cu,(toE g).wt<=iZ (qV g)
 |⟨op,n,s,key,args⟩=>by
  have:=Oq args;simp only[toE,ET.wt,qV,iZ,mw];omega
theorem Oq:∀l:List cu,ET.te (Ic l)<=xD (tu l)
 |[]=>by simp[Ic,ET.te]
 |x::xs=>by
  have h1:=anI x;have h2:=Oq xs;simp only[Ic,ET.te,tu,xD];omega
end
theorem JO:∀l:List fA,ri (l.map toD)<=xD (l.map Eh)
 |[]=>by simp[ri]
 |x::xs=>by
  have h1:=JO xs;have h2:=Oq x.eo;simp only[ri]at h1;simp only[aF,ri,List.foldr_cons,toD,ET.wt,xD,Eh,iZ,mw,<- tC];omega
theorem ajY(t:bT):ri (t.ci.map toD)<=iZ (JA t):=by
 have:=JO t.ci;simp only[JA,iZ,mw];omega
theorem Ot{r:List Tree}:∀{l:List (List Tree)},r∈l->iZ r<=xD l
 |x::l,h=>by
  rw[xD];rcases aN.1 h with rfl |h
  ·omega
  ·have:=Ot h;omega
theorem Qv(r:bJ):(toE (jj r)).wt<=iZ (nC r):=by
 have h:=Oq r.fW;rw[tC]at h;simp only[jj,toE,ET.wt,nC,iZ,mw];omega
theorem aaI:∀l:List Int,l.length<=xD (l.map λy=>[Tree.sc (.int .i64 y)])
 |[]=>by simp
 |x::l=>by
  have:=aaI l;simp only[aF,xD,iZ,mw,bG];omega
theorem aoL{p:bn}(h:iZ (Jw p)<=1048576):CZ p:=by
 have hd:=JO p.defs;simp only[Jw,iZ,mw]at h;refine⟨by unfold ii;omega,λr hr=>?_⟩;have h1:=Qv r;have h2:=Ot (mem_map.2 ⟨r,hr,rfl⟩:nC r∈p.rules.map nC);omega
theorem aoM{t:bT}(h:iZ (JA t)<=1048576):an2 t:=by
 have hd:=ajY t;have hd2:=JO t.ci;simp only[JA,iZ,mw]at h;refine⟨⟨by show ri (t.ci.map toD)<=_;omega,λr hr=>?_⟩,λl hl=>?_⟩
 ·have h1:=Qv r;have h2:=Ot (mem_map.2 ⟨r,hr,rfl⟩:nC r∈t.aE.map nC);omega
 ·have h1:=aaI l.from_;have h2:=Ot (mem_map.2 ⟨l,hl,rfl⟩:K5 l∈t.land.map K5);have h3:xD (l.from_.map λy=>[Tree.sc (.int .i64 y)])<=iZ (K5 l):=by simp only[K5,iZ,mw];omega
  omega
theorem aaJ:∀l:List bJ,l.length<=xD (l.map nC)
 |[]=>by simp
 |x::l=>by
  have:=aaJ l;simp only[aF,xD,nC,iZ,mw,bG];omega
theorem SS(q:HL xx.toSE [.st SI.pP,.st SI.pr,.st SI.Rule,.int .i64])(hb:xy (HL.nq xx.toSE [.st SI.pP,.st SI.pr,.st SI.Rule,.int .i64] q)<=1048576):∃k,rz k q.1 q.2.1 q.2.2.1 q.2.2.2.1=some true:=by
 have h2:iZ (JA q.1)+(iZ (Jw q.2.1)+(iZ (nC q.2.2.1)+(1+0)))<=1048576:=hb;have h3:=Qv q.2.2.1;have h4:=aaJ q.2.1.rules;have h5:xD (q.2.1.rules.map nC)<=iZ (Jw q.2.1):=by simp only[Jw,iZ,mw];omega
 exact⟨5000003,Qu anH q.1 q.2.1 q.2.2.1 q.2.2.2.1 (aoM (by omega)) (aoL (by omega)) (by omega) (by omega)⟩
end Go.Proofs
