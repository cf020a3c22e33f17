import Derived.Test.YthblhgapkimgcacGreatS1
open Go.IntKind (i64)
open List (mem_map all_eq_true getElem_mem length_nil foldl_cons any_eq_true length_singleton)
namespace Go.Proofs
open Go.Gb Go.RowKit
variable {n:Nat}
theorem aou{p:bS}{ms:U bW}{zs:U ByteArray}{e:cB}(hp:PA p)(hm:ms.length<=4000000)(hz:zs.length<=4000000)(he:(toE e).wt<=4000000)(hn:5000003<=n)(hn2:n<=9223372036854775000):∃v,tV n p ms zs e=some v:=by
 obtain⟨b,hb,hv⟩:=Sg (n:=n) (by omega) hn2 he;simp only[tV,wR,hb,af];cases b with
 |false=>exact⟨_,rfl⟩
 |true=>
  have⟨kn,ab,h1,_⟩:=Ff (n:=n) hp hm hz hn hn2;obtain⟨v,h2⟩:=XD (n:=n) (a0:=p.defs) (a2:=p.zones) (a3:=p.rules) (a4:=p.caps) (a5:=p.views) (a6:=p.uk) (a7:=p.hours) (by omega) hp.tabs hz n e kn (hv rfl) he;simp only[Bool.not_true,ak,h1,af,fE,h2];exact⟨_,rfl⟩
section
variable {n:Nat} {d:List eu} {ts:List dh} {z:List dJ} {r r':List bI} {c c':List gq} {v v':List fq} {su sq:List cu} {h h':Int} {zs:List ByteArray}
theorem I8:∀(m:Nat)(e:cB)(kn:U (ByteArray×Int)),cO n m d ts z r c v su h zs e kn=cO n m d ts z r' c' v' sq h' zs e kn
 | 0,_,_=>rfl
 |m+1,e,kn=>by
  have ih:=I8 m;have hs:fB n (cO n m) d ts z r c v su h zs e=fB n (cO n m) d ts z r' c' v' sq h' zs e:=by
   funext ⟨v1,v2,v3⟩;simp only[fB,ih]
  have hr:∀w,ji n d ts z r c v su h zs e w=ji n d ts z r' c' v' sq h' zs e w:=λ_=>rfl;show fF n (cO n m) d ts z r c v su h zs e kn=fF n (cO n m) d ts z r' c' v' sq h' zs e kn;simp only[fF,hs,wR,hr]
theorem ahn{ms:U bW}:(mE n (bS.mk d ts z r c v su h) ms zs).map (λ q=>q.2.2.2.2.2.2.2.2.2)=(mE n (bS.mk d ts z r' c' v' sq h') ms zs).map (λ q=>q.2.2.2.2.2.2.2.2.2):=by
 have hs:∀w2 r1,gJ n (bS.mk d ts z r c v su h) zs w2 r1=gJ n (bS.mk d ts z r' c' v' sq h') zs w2 r1:=by
  intro w2 r1;funext ⟨v6,v7,v8⟩;have hv:∀e kn,fE n d ts z r c v su h zs e kn=fE n d ts z r' c' v' sq h' zs e kn:=λe kn=>I8 n e kn;simp only[gJ,hv]
 have ho:jE n (bS.mk d ts z r c v su h)=jE n (bS.mk d ts z r' c' v' sq h'):=rfl;simp only[mE,hs,ho];cases iter (jY n ms) n ((0:Int),([]:(List (ByteArray×Int))),([]:(List (ByteArray×Bool))))with
 |none=>rfl
 |some w=>
  obtain⟨w1,w2⟩:=w;simp only[af];cases (decide ((d.length:Int)<=(d.length:Int))&&(decide (0<=(d.length:Int))&&xE (d.length:Int) 8))with
  |false=>rfl
  |true=>
   simp only[aj];cases jE n (bS.mk d ts z r' c' v' sq h')with
   |none=>rfl
   |some r1=>
    simp only[af];cases (r1.2.2 !=(0:Int))with
    |true=>
     simp only[aj];cases aE (((d.length:Int):Int).toNat) (List.replicate ((d.length:Int):Int).toNat (0:Int)).length<;>rfl
    |false=>
     simp only[ak];cases iter (gJ n (bS.mk d ts z r' c' v' sq h') zs w2 r1) n ((0:Int),w1,(List.replicate ((d.length:Int):Int).toNat (0:Int)))with
     |none=>rfl
     |some q=>
      obtain⟨w3,w4⟩:=q;simp only[af];cases aE (((d.length:Int):Int).toNat) w4.length<;>rfl
theorem aho{ms:U bW}{e:cB}(hp:ia d)(ht:On ts)(hm:ms.length<=4000000)(hz:zs.length<=4000000)(hn:5000003<=n)(hn2:n<=9223372036854775000):tV n (bS.mk d ts z r c v su h) ms zs e=tV n (bS.mk d ts z r' c' v' sq h') ms zs e:=by
 have⟨kn,ab,h1,_⟩:=Ff (n:=n) (p:=bS.mk d ts z r c v su h) ⟨hp,ht⟩ hm hz hn hn2;have⟨kn2,out2,h2,_⟩:=Ff (n:=n) (p:=bS.mk d ts z r' c' v' sq h') ⟨hp,ht⟩ hm hz hn hn2;have h3:=ahn (n:=n) (d:=d) (ts:=ts) (z:=z) (r:=r) (r':=r') (c:=c) (c':=c') (v:=v) (v':=v') (su:=su) (sq:=sq) (h:=h) (h':=h') (zs:=zs) (ms:=ms);rw[h1,h2]at h3;simp only[Option.map_some,aA,Prod.mk.injEq]at h3;obtain⟨rfl,rfl⟩:=h3;simp only[tV,h1,h2,af,fE,I8 (r:=r) (r':=r') (c:=c) (c':=c') (v:=v) (v':=v') (su:=su) (sq:=sq) (h:=h) (h':=h')]
end
theorem Te{b:ax}{l:U dW}{s:U fT}(ha:∀c∈s,c.area.length<=200)(hs:s.length<=1000)(hl:l.length<=1000)(hn:2000<=n):
 xV n b l s=some (E8 b l&&(E9 s&&!(s.any λc=>decide (Mu b l c.area<c.z1)))):=by
 unfold xV;rw[Xv b l hl hn];simp only[af];cases hv:E8 b l with
 |false=>simp only[Bool.not_false,aj,af,Bool.false_and]
 |true=>
  have⟨v1,v2⟩:=(aeK b l).1 hv;simp only[Bool.not_true,ak,Sd (n:=n) (s:=s) (λ x hx=>by have:=ha x hx;omega) (by omega),af,Bool.true_and];cases hr:E9 s with
  |false=>simp only[Bool.not_false,aj,Bool.false_and]
  |true=>
   have⟨_,sok,_⟩:=(Xx s).1 hr;simp only[Bool.not_true,ak,Bool.true_and];rw[sJ (λ c=>decide (Mu b l c.area<c.z1)) (λ c hc=>by
    have:=ha c hc;show rz n c b l=_;unfold rz;rw[Td v1 v2 (uD (sok c hc).rt).1 (by omega) hl hn];rfl) (by omega) (by omega)]
   simp only[af]
def vz(v:aH):U fT:=[⟨v.eQ,v.ep,[iq v]⟩]
theorem aeY(v:aH):xR v=some (vz v):=rfl
def UL(b:ax)(p:dW)(v:aH):Bool:=E8 b [p]&&(E9 (vz v)&&!((vz v).any λc=>decide (Mu b [p] c.area<c.z1)))
def Qv(r:bI):dW:=dW.mk r.iv r.ix r.kf r.kh
theorem acg(v:aH)(b:ax)(r:bI)(hn:2000<=n):jM n v b r=some (!UL b (Qv r) v):=by
 have h:=Te (n:=n) (b:=b) (l:=[Qv r]) (s:=vz v) (by simp[vz]) (by simp[vz]) (by simp) hn;unfold Qv at h;have hl:(vz v).length=1:=rfl;simp only[jM,aeY,af,bX,aC,aj,show ∀x:dW,sub [x] 0 1=[x]from λ_=>rfl,length_singleton,h,UL,Qv];rfl
def Ok(r:bI)(v:aH):Bool:=bits .and .i64 r.uses (i64.wrap (1*2 ^ (v.use:Int).toNat))==(0:Int)
theorem ach{v:aH}(h:okV v=true)(r:bI):jN v r=some (Ok r v):=by
 have hu:0<=v.use/\v.use<6:=by
  simp only[okV,aL,aV]at h;omega
 have hb:i64.bits=64:=rfl;simp only[jN,Ok,show(decide (0<=v.use)&&decide (v.use<=i64.bits))=true from by simp[hb];omega,aj]
def Pu(lot:Int)(r:bI)(v:aH)(b:jd):Bool:=(dV b (l9.mk [] [] [] [] [] [] [] 0 [] [] [] [] [] 0 0 [] [] lot [] [] []) v r).getD false
theorem aeZ{b:jd}{s:l9}{v:aH}{r:bI}:dV b s v r=some (Pu s.ee r v b):=by
 have key:∃x,dV b (l9.mk [] [] [] [] [] [] [] 0 [] [] [] [] [] 0 0 [] [] s.ee [] [] []) v r=some x:=by
  simp only[dV,iQ,amh,af];refine sK (dn ⟨_,rfl⟩ (dn ⟨_,rfl⟩ (dn ⟨_,rfl⟩ ⟨_,rfl⟩))) λ_=>dn ⟨_,rfl⟩ (sK (dn (dn ⟨_,rfl⟩ (dn ⟨_,rfl⟩ ⟨_,rfl⟩)) (dn ⟨_,rfl⟩ ⟨_,rfl⟩)) λ_=>dn ⟨_,rfl⟩ ⟨_,rfl⟩)
 have e:dV b s v r=dV b (l9.mk [] [] [] [] [] [] [] 0 [] [] [] [] [] 0 0 [] [] s.ee [] [] []) v r:=rfl;obtain⟨x,hx⟩:=key;rw[e,Pu,hx];rfl
theorem zK{l:U jd}{φ:(jd×Unit)->J Bool}(p:jd->Bool)(h:∀x∈l,φ (x,())=some (p x))(hl:l.length<1099511627776)(hn:l.length<n):jO n l φ=some (l.any p):=by
 have:qC n l φ=some (wW p l):=fJ p h hl hn;simp only[jO,this,af,xH]
def Pr(built:U jd)(lot:Int)(r:bI)(v:aH):Bool:=built.any (Pu lot r v)
theorem ack{s:l9}{v:aH}{r:bI}(hb:s.dg.length<=1000)(hn:2000<=n):jP n v s r=some (Pr s.dg s.ee r v):=by simp only[jP,rP,zK (n:=n) (l:=s.dg) (φ:=λ(y1:jd×Unit)=>dV y1.1 s v r) (Pu s.ee r v) (λ x _=>aeZ) (by omega) (by omega),af,Pr]
def iu(r:bI):cB:=cB.mk r.lf r.mC r.mA r.ke r.gd
def iz(t:bR):bS:=bS.mk t.cm t.br t.bu [] t.cx t.b9 t.cE t.ca
structure sN(t:bR):Prop where
 lots:∀l∈t.land,DH l
 land:t.land.length<=1000
 xy:t.co.length<=900/\∀e∈t.co,e.area.length<=900
 built:t.built.length<=1000
 zones:t.bu.length<=100
 caps:t.cx.length<=4000000
 rules:t.az.length<=100
 rule:∀r∈t.az,Qs r/\(toE (iu r)).wt<=4000000
 plan:PA (iz t)
def Tf(d:bn):Prop:=Xz d/\Jn d
def Oz(n:Nat):Prop:=5000003<=n/\n<=9223372036854775000
def iR(t:bR)(lot:cK):U ByteArray:=E4 t.bu lot.area
def sR(t:bR)(lot:cK)(d:bn):l9:=l9.mk t.cm t.br t.bu t.az t.cx t.b9 t.cE t.ca t.land t.co t.windows t.built t.base lot.id lot.owner lot.area lot.from_ d.lot d.phases (kJ d) (iR t lot)
theorem amD{d:bn}(h:Xz d)(hn:1001<=n):tT n d=some (kJ d):=by
 obtain⟨h1,h2⟩:=h;unfold tT;have key:=qf (step:=oP d) (λ i=>((i:Int),(d.phases.take i).flatMap (·.cM))) (s:=((0:Int),([]:U aH))) d.phases.length (kJ d) rfl (λ i hi=>by
  have hl:=ed (l:=d.phases.take i) λp hp=>h2 p (List.mem_of_mem_take hp);rw[List.length_take]at hl;have hv:=h2 _ (getElem_mem hi);generalize hL:(d.phases.take i).flatMap (·.cM)=L at hl;have hap:bP L.length L.length d.phases[i].cM.length d.phases[i].cM.length 72=true:=cZ (by omega) (by simp only[maxLen];omega);simp only[oP,bJ hi,aj,bf hi,af,hap,dO,aC,aK i];rw[iJ hi,List.flatMap_append,hL];simp only[List.flatMap_cons,List.flatMap_nil,List.append_nil]) (by simp only[oP,bU,ak,aC,aj,List.take_length,kJ]) n (by omega)
 have hz:aE 0 ([]:U aH).length=true:=rfl;simp only[hz,aj,key,af,bX,aC]
def XN(n:Nat)(t:bR)(d:bn):Bool:=(oG n (iz t) (mR t.land d.lot).1 d).getD false
def zL(n:Nat)(t:bR)(d:bn):Int:=bif(mR t.land d.lot).2 then(bif XN n t d then 0 else 1)else 4
def aqm:l9:=l9.mk ([]) ([]) ([]) ([]) ([]) ([]) ([]) 0 ([]) ([]) ([]) ([]) ([]) 0 0 ([]) ([]) 0 ([]) ([]) ([])
theorem look_eq{t:bR}{d:bn}(ht:sN t)(hd:Tf d)(hn:Oz n):Aj n t d=some (bif zL n t d==0 then sR t (mR t.land d.lot).1 d else aqm,zL n t d)/\(zL n t d=0->∀v∈kJ d,okV v=true):=by
 obtain⟨hn1,hn2⟩:=hn;have hl:=ht.land;have e1:NV n t.land d.lot=some (mR t.land d.lot):=akf ht.lots (by omega) (by omega);have hw:=Qt ht.lots d.lot;obtain⟨b,hb,hv⟩:=akp (n:=n) (p:=iz t) (lot:=(mR t.land d.lot).1) (d:=d) ht.caps hw.1 hd.1 hd.2 (by omega);have e2:oG n (bS.mk t.cm t.br t.bu t.az t.cx t.b9 t.cE t.ca) (mR t.land d.lot).1 d=some b:=hb;have e3:sG n (bS.mk t.cm t.br t.bu t.az t.cx t.b9 t.cE t.ca) (mR t.land d.lot).1.area=some (E4 t.bu (mR t.land d.lot).1.area):=Ou _ _ ht.zones hw.1 (by omega);have e4:XN n t d=b:=by unfold XN;rw[hb];rfl
 simp only[Aj,e1,e2,e3,amD hd.1 (show 1001<=n by omega),af,bX,aC,aj,zL,e4];cases (mR t.land d.lot).2 with
 |false=>exact⟨rfl,λh=>absurd (show (4:Int)=0 from h) (by decide)⟩
 |true=>
  cases b with
  |false=>exact⟨rfl,λh=>absurd (show (1:Int)=0 from h) (by decide)⟩
  |true=>exact⟨rfl,λ_=>hv rfl⟩
def GW(n:Nat)(t:bR)(lot:cK)(d:bn)(r:bI):Bool:=((jm n (iz t) lot d).bind λms=>tV n (iz t) ms (iR t lot) (iu r)).getD 1==0
def OA(n:Nat)(t:bR)(lot:cK)(d:bn)(r:bI):Bool:=
 bif r.kind==0 then GW n t lot d r else bif r.kind==1 then(kJ d).any (λ v=>!UL (Kc lot.area).1 (Qv r) v)else bif r.kind==2 then(kJ d).any (Ok r)else bif r.kind==3 then(kJ d).any (Pr t.built d.lot r)else false
theorem Fh{t:bR}(ht:sN t)(lot:cK):(iR t lot).length<=100:=Nat.le_trans (aon _ _) ht.zones
theorem akq{t:bR}{lot:cK}{d:bn}{r:bI}(ht:sN t)(hl:lot.area.length<=900)(hd:Tf d)(hv:∀v∈kJ d,okV v=true)(hr:(toE (iu r)).wt<=4000000)(hn:Oz n):mQ n (sR t lot d) r=some (OA n t lot d r):=by
 obtain⟨hn1,hn2⟩:=hn;have hvl:=Ke hd.1;have hz:=Fh ht lot;simp only[mQ,gK,OA];cases (r.kind==0)with
 |true=>
  have htb:=ht.plan.tabs;obtain⟨e1,e2,e3,e4,e5,e6,e7,e8,B8⟩:=ao7 (n:=n) (p:=iz t) (lot:=lot) (d:=d) ⟨by have:=htb.1;omega,by have:=htb.1;omega,λx hx=>by have:=htb.2 x hx;omega⟩ hl hd.1 (by omega);have h1:=B8 t.az;have h2:=B8 [];have h2':jm n (iz t) lot d=_:=h2;have h1':jm n (bS.mk t.cm t.br t.bu t.az t.cx t.b9 t.cE t.ca) (cK.mk lot.id lot.owner lot.area lot.from_) (bn.mk d.lot d.phases)=_:=h1;obtain⟨v,hE⟩:=aou (n:=n) (p:=iz t) (ms:=[⟨⟨#[97,114,101,97]⟩,e1⟩,⟨⟨#[99,111,118,101,114]⟩,e2⟩,⟨⟨#[102,108,111,111,114]⟩,e3⟩,⟨⟨#[102,108,111,111,114,115]⟩,e4⟩,⟨⟨#[104,101,105,103,104,116]⟩,e5⟩,⟨⟨#[104,111,109,101,115]⟩,e6⟩,⟨⟨#[114,117,110,111,102,102]⟩,e7⟩,⟨Dk,wQ (oq lot) (fP d)⟩,⟨⟨#[116,114,97,102,102,105,99]⟩,e8⟩]) (zs:=iR t lot) (e:=iu r) ht.plan (by simp) (by omega) hr hn1 hn2;have hE':=(aho (n:=n) (d:=t.cm) (ts:=t.br) (z:=t.bu) (r:=t.az) (r':=[]) (c:=t.cx) (v:=t.b9) (su:=t.cE) (h:=t.ca) (zs:=iR t lot) (ms:=[⟨⟨#[97,114,101,97]⟩,e1⟩,⟨⟨#[99,111,118,101,114]⟩,e2⟩,⟨⟨#[102,108,111,111,114]⟩,e3⟩,⟨⟨#[102,108,111,111,114,115]⟩,e4⟩,⟨⟨#[104,101,105,103,104,116]⟩,e5⟩,⟨⟨#[104,111,109,101,115]⟩,e6⟩,⟨⟨#[114,117,110,111,102,102]⟩,e7⟩,⟨Dk,wQ (oq lot) (fP d)⟩,⟨⟨#[116,114,97,102,102,105,99]⟩,e8⟩]) (e:=iu r) ht.plan.defs ht.plan.tabs (by simp) (by omega) hn1 hn2).trans hE;unfold iu at hE';simp only[aj,sR,h1',af,bX,aC,hE',GW,h2',hE,Option.getD_some]
 |false=>
  cases (r.kind==1)with
  |true=>
   simp only[aj,ak,show(sR t lot d).kO=lot.area from rfl,show(sR t lot d).cM=kJ d from rfl,Ow (n:=n) lot.area hl (by omega),af];rw[fV (λ v=>!UL (Kc lot.area).1 (Qv r) v) (λ v _=>acg v _ r (by omega)) (by omega) (by omega)];rfl
  |false=>
   cases (r.kind==2)with
   |true=>
    simp only[aj,ak,show(sR t lot d).cM=kJ d from rfl];rw[fV (Ok r) (λ v hm=>ach (hv v hm) r) (by omega) (by omega)];rfl
   |false=>
    cases (r.kind==3)with
    |true=>
     simp only[aj,ak,show(sR t lot d).cM=kJ d from rfl];rw[fV (Pr t.built d.lot r) (λ v _=>ack (s:=sR t lot d) ht.built (by omega)) (by omega) (by omega)];rfl
    |false=>rfl
def addN(ab:U ByteArray)(name:ByteArray)(bad:Bool):U ByteArray:=bif bad&&!(ab.any (lv name))then ab++[name]else ab
theorem ae0(ab:U ByteArray)(name:ByteArray)(bad:Bool):(addN ab name bad).length<=ab.length+1:=by
 unfold addN;cases (bad&&!(ab.any (lv name)))<;>simp
theorem ae1{name:ByteArray}{bad:Bool}{ab:U ByteArray}(hl:ab.length<=1000)(hn:2000<=n):jv n name bad ab=some (addN ab name bad):=by
 have hmx:maxLen=9223372036854775807:=rfl;have hap:bP ab.length ab.length (sub [name] 0 1).length 1 16=true:=by simp[bP,sub];omega
 simp only[jv,bX,aC,aj,uO (n:=n) (l:=ab) (a:=name) (by omega) (by omega),af,addN,hap,dO];cases bad with
 |false=>rfl
 |true=>cases (ab.any (lv name))<;>rfl
def LL(t:bR)(d:bn):Bool:=(kJ d).any λv=>!Lt t.co d.lot (vz v)
def akr:ByteArray:=⟨#[101,97,115,101,109,101,110,116]⟩
def Br(n:Nat)(t:bR)(lot:cK)(d:bn)(l:U bI):U ByteArray:=l.foldl (λ ab r=>addN ab r.name (OA n t lot d r)) []
theorem Le(f:bI->Bool):∀(l:U bI)(ab:U ByteArray),(l.foldl (λ ab r=>addN ab r.name (f r)) ab).length<=ab.length+l.length
 |[],ab=>by simp
 |r::l,ab=>by
  have h1:=Le f l (addN ab r.name (f r));have h2:=ae0 ab r.name (f r);rw[foldl_cons,bC];omega
def applied(t:bR)(lot:cK)(day:Int):U bI:=t.az.filter (ni (iR t lot) day)
def nS(t:bR)(d:bn):cK:=(mR t.land d.lot).1
def rD(n:Nat)(t:bR)(d:bn)(day:Int):U ByteArray:=bif zL n t d==0 then addN (Br n t (nS t d) d (applied t (nS t d) day)) akr (LL t d)else []
theorem aaM{t:bR}{d:bn}(day:Int)(ht:sN t)(hd:Tf d)(hn:Oz n):oI n t d day=some (rD n t d day,zL n t d):=by
 obtain⟨hk,hv⟩:=look_eq (n:=n) ht hd hn;have hn1:=hn.1;have hvl:=Ke hd.1;simp only[oI,hk,af,rD];by_cases h0:zL n t d=0
 .have T2:(zL n t d==0)=true:=by simp[h0]
  have T1:(zL n t d !=0)=false:=by simp[h0]
  have hw:=Qt ht.lots d.lot;have hz:=Fh ht (nS t d);have hA:nL n (bS.mk t.cm t.br t.bu t.az t.cx t.b9 t.cE t.ca) (iR t (nS t d)) day=some ((za t.az (iR t (nS t d)) day).map λ(i:Nat)=>(i:Int)):=FR _ _ _ (λ r hr=>(ht.rule r hr).1) ht.rules hz (by omega);have hal:(za t.az (iR t (nS t d)) day).length<=100:=Nat.le_trans (List.length_filter_le _ _) (by rw[List.length_range];exact ht.rules);have hpick:(za t.az (iR t (nS t d)) day).filterMap (λ i=>t.az[i]?)=applied t (nS t d) day:=I6 (ni (iR t (nS t d)) day) t.az;have hloop:∀A:U Nat,A.length<=100->(∀ i∈A,i<t.az.length)->iter (mZ n t (sR t (nS t d) d,zL n t d) (A.map λ(i:Nat)=>(i:Int))) n ((0:Int),([]:U ByteArray))=some (Br n t (nS t d) d (A.filterMap λi=>t.az[i]?)):=by
   intro A hA hAr
   have key:=fA (l:=A) (step:=mZ n t (sR t (nS t d) d,zL n t d) (A.map λ(i:Nat)=>(i:Int))) (λ i (s:List ByteArray)=>((i:Int),s)) (λ i s=>match t.az[i]? with
    |some r=>addN s r.name (OA n t (nS t d) d r)
    |none=>s) (λ s=>s) (λ i s=>s.length<=i) (λ i hi s hs=>by
    have hr:=hAr _ (getElem_mem hi);have hlm:(A.map λ(i:Nat)=>(i:Int)).length=A.length:=(by simp);have hg:bo (A.map λ(i:Nat)=>(i:Int)) (((0:Nat):Int)+(i:Int))=some ((A[i]:Nat):Int):=(by rw[aW (by omega)];simp);have hrr:=ht.rule _ (getElem_mem hr);have hb:=akq (n:=n) (t:=t) (lot:=nS t d) (d:=d) ht hw.1 hd (hv h0) hrr.2 hn;have e:=dQ hr;simp only[mZ,hlm,bJ hi,aj,aU hi,hg,af,bf hr,hb,aC,ae1 (n:=n) (name:=t.az[A[i]].name) (bad:=OA n t (nS t d) d t.az[A[i]]) (ab:=s) (by omega) (by omega),aK i,e];exact⟨trivial,Nat.le_trans (ae0 _ _ _) (by omega)⟩) (λ s _=>by
    have hlm:(A.map λ(i:Nat)=>(i:Int)).length=A.length:=(by simp);simp only[mZ,hlm,bU,ak,aC,aj]) n (by omega) [] (aD _)
   rw[show ((0:Nat):Int)=0 from rfl]at key;rw[key];congr 1;unfold Br;generalize ([]:U ByteArray)=s0;clear key hA
   induction A generalizing s0 with
   |nil=>rfl
   |cons a A ih=>
    have ha:=hAr a (by simp);rw[foldl_cons,List.filterMap_cons];simp only[dQ ha];rw[foldl_cons];exact ih (λ i hi=>hAr i (by simp[hi])) _
  have hlo:=hloop (za t.az (iR t (nS t d)) day) hal (λ i hi=>by
   have:=(List.mem_filter.1 hi).1;simpa using this)
  rw[hpick]at hlo;have hrl:(Br n t (nS t d) d (applied t (nS t d) day)).length<=100:=by
   have h1:=Le (OA n t (nS t d) d) (applied t (nS t d) day) [];have h2:(applied t (nS t d) day).length<=100:=Nat.le_trans (List.length_filter_le _ _) ht.rules;unfold Br;simp only[length_nil]at h1;omega
  have hany:gK n (sR t (nS t d) d) (λ (y1:aH×Unit)=>mY n y1.1 t d)=some (LL t d):=by
   have hs:∀v,mY n v t d=some (!Lt t.co d.lot (vz v)):=by
    intro v;have hl1:(vz v).length=1:=rfl;have h:=Y5 (n:=n) (l:=t.co) (lot:=d.lot) (s:=vz v) ht.xy.1 ht.xy.2 (by simp[vz]) (by omega);simp only[mY,aeY,af,bX,aC,aj,h]
   simp only[gK,show(sR t (nS t d) d).cM=kJ d from rfl];rw[fV (λ v=>!Lt t.co d.lot (vz v)) (λ v _=>hs v) (by omega) (by omega)];rfl
  have hsc:sR t (mR t.land d.lot).1 d=sR t (nS t d) d:=rfl;simp only[T2,T1,aj,ak,hsc,show(sR t (nS t d) d).zones=iR t (nS t d)from rfl,hA,af,length_nil,aC,hlo,hany,ae1 (n:=n) (name:=⟨#[101,97,115,101,109,101,110,116]⟩) (bad:=LL t d) (ab:=Br n t (nS t d) d (applied t (nS t d) day)) (by omega) (by omega),bX];rw[h0];rfl
 .have T2:(zL n t d==0)=false:=by simpa using h0
  have T1:(zL n t d !=0)=true:=by simpa using h0
  simp only[T2,T1,aj,ak]
theorem aks{t:bR}{d:bn}(day:Int)(ht:sN t)(hd:Tf d)(hn:Oz n):mF n t d day=some ((zL n t d==0)&&decide (rD n t d day=[])):=by
 simp only[mF,aaM day ht hd hn,af];cases (zL n t d==0)with
 |false=>rfl
 |true=>
  simp only[aj,Bool.true_and];cases rD n t d day with
  |nil=>rfl
  |cons x l=>
   have:(((x::l).length:Nat):Int)≠0:=(by simp;omega);rw[beq_eq_false_iff_ne.2 this];simp
theorem Lf(r:ax):∃q,sw r=some q:=by rw[EZ];cases eI r<;>exact⟨_,rfl⟩
theorem XE(r:ax):∃q,pE r=some q:=by
 unfold pE;have⟨q,hq⟩:=Lf r;rw[hq];simp only[af]
 first |exact⟨_,rfl⟩ |(cases q.2<;>exact⟨_,rfl⟩)
theorem acn(r:ax)(d:Int):∃q,NQ r d=some q:=by
 unfold NQ;rw[iQ];simp only[af];have key:∀c x:Bool,∃b,((bif c then some true else some x):J Bool)=some b:=λc x=>dn ⟨_,rfl⟩ ⟨_,rfl⟩;have⟨b,hb⟩:=key (!eI r) (decide (d<0));rw[hb];cases b with
 |true=>exact⟨_,rfl⟩
 |false=>
  simp only[af,ak];have⟨q,hq⟩:=Lf (ax.mk (i64.wrap (r.x0+(min d (1048576:Int)))) (i64.wrap (r.y0+(min d (1048576:Int)))) (i64.wrap (r.x1 -(min d (1048576:Int)))) (i64.wrap (r.y1 -(min d (1048576:Int)))));rw[hq];exact⟨_,rfl⟩
theorem amF{lot:cK}(ha:lot.area.length<=900)(hn:4000002<=n)(i:Int):∃q,nM n lot i=some q:=by
 unfold nM;rw[Ow (n:=n) lot.area ha (by omega)];simp only[af];have key:∀c1 c2 c3:Bool,∃b,((bif c1 then some true else(bif c2 then some true else some c3)):J Bool)=some b:=λc1 c2 c3=>dn ⟨_,rfl⟩ (dn ⟨_,rfl⟩ ⟨_,rfl⟩);have⟨b,hb⟩:=key (!(Kc lot.area).2) (decide (i<0)) (decide (i>20));rw[hb];cases b with
 |true=>exact⟨_,rfl⟩
 |false=>
  simp only[af,ak];have⟨q,hq⟩:=acn (Kc lot.area).1 i;rw[hq];simp only[af];cases q.2 with
  |false=>exact⟨_,rfl⟩
  |true=>
   have hcl:=Oo (keep:=λp q=>p&&q) lot.area [q.1];have hc:=Om (n:=n) (a:=lot.area) (b:=[q.1]) (by omega) (by simp) (by omega) (by simp;omega) (by omega);have hA:=LQ (n:=n) (a:=(pJ (λ p q=>p&&q) lot.area [q.1]).1) (by omega) (by omega);have⟨z,hz⟩:=XE q.1;simp only[Bool.not_true,ak,show ∀r:ax,sub [r] 0 1=[r]from λ_=>rfl,length_singleton,aC,aj,hc,af,hA,hz];cases ((pJ (λ p q=>p&&q) lot.area [q.1]).2==0)<;>exact⟨_,rfl⟩
def jp(n:Nat)(lot:cK)(i:Int):ax×Bool:=(nM n lot i).getD (⟨0,0,0,0⟩,false)
theorem aiZ{lot:cK}(ha:lot.area.length<=900)(hn:4000002<=n)(i:Int):nM n lot i=some (jp n lot i):=by
 have⟨q,hq⟩:=amF ha hn i;unfold jp;rw[hq];rfl
def Xs(r:ax):Int:=(pE r).getD 0
theorem amH(r:ax):pE r=some (Xs r):=by
 have⟨q,hq⟩:=XE r;unfold Xs;rw[hq];rfl
def ut(lot:cK)(iS:Int)(k:Nat):bB:=bB.mk lot.id (Int.tmod (k:Int) 6) (i64.wrap ((i64.wrap (Int.tdiv (k:Int) 6))+1)) iS
theorem akt(lot:cK)(v:Int)(l:U bB)(hl:l.length<=1000000)(hn:1000<=n):iter (lM lot v) n ((0:Int),l)=some (l++(List.range 72).map (ut lot v)):=by
 refine qf (step:=lM lot v) (λ i=>((i:Int),l++(List.range i).map (ut lot v))) (s:=((0:Int),l)) 72 (l++(List.range 72).map (ut lot v)) (by simp) (λ i hi=>?_) ?_ n (by omega)
 .have hap:bP (l++(List.range i).map (ut lot v)).length (l++(List.range i).map (ut lot v)).length 1 1 32=true:=cZ (by simp;omega) (by simp only[maxLen,dM,List.length_map,List.length_range];omega);have hlt:decide ((i:Int)<72)=true:=by simp;omega
  simp only[lM,hlt,aj,show((6:Nat) !=0)=true from rfl,show((6:Int) !=0)=true from rfl,show ∀r:bB,sub [r] 0 1=[r]from λ_=>rfl,length_singleton,hap,dO,aC,aK i];rw[List.range_succ,List.map_append,<- aM];rfl
 .have hlt:decide (((72:Nat):Int)<72)=false:=by simp
  simp only[lM,hlt,ak,aC,aj]
abbrev Qw:=List (lu×Int)
def I9(n:Nat)(lot:cK)(i:Nat)(s:Qw×List bB):Qw×List bB:=
 bif(jp n lot (i:Int)).2 then(o6 (H7 (X:=xx) SI.eK) (lu.mk lot.id (i:Int)) (Xs (jp n lot (i:Int)).1) s.1,s.2++(List.range 72).map (ut lot (i:Int)))else s
def An(n:Nat)(lot:cK)(s:Qw×List bB):Qw×List bB:=(List.range 21).foldl (λ s i=>I9 n lot i s) s
theorem aaN(n:Nat)(lot:cK)(i:Nat)(s:Qw×List bB):(I9 n lot i s).2.length<=s.2.length+72:=by
 unfold I9;cases (jp n lot (i:Int)).2<;>simp
theorem aaO(n:Nat)(lot:cK):∀(l:U Nat)(s:Qw×List bB),(l.foldl (λ s i=>I9 n lot i s) s).2.length<=s.2.length+72*l.length
 |[],s=>by simp
 |i::l,s=>by
  have h1:=aaO n lot l (I9 n lot i s);have h2:=aaN n lot i s;rw[foldl_cons,bC];omega
theorem aku{lot:cK}(ha:lot.area.length<=900)(hn:4000002<=n)(s:Qw×List bB)(hs:s.2.length<=900000):iter (lN n lot) n ((0:Int),s.1,s.2)=some (An n lot s):=by
 have key:=fA (l:=List.range 21) (step:=lN n lot) (λ i (s:Qw×List bB)=>((i:Int),s.1,s.2)) (λ i s=>I9 n lot i s) (λ s=>s) (λ i s=>s.2.length<=900000+72*i) (λ i hi s hs=>by
  rw[List.length_range]at hi;have hlt:decide ((i:Int)<21)=true:=by simp;omega
  have hg:(List.range 21)[i]'(by rw[List.length_range];exact hi)=i:=List.getElem_range _;rw[hg];refine⟨?_,by have:=aaN n lot i s;show(I9 n lot i s).2.length<=_;omega⟩;simp only[lN,hlt,aj,aiZ ha hn,af,I9];cases hb:(jp n lot (i:Int)).2 with
  |false=>simp only[Bool.not_false,aj,ak,aC,af,aK i]
  |true=>simp only[Bool.not_true,aj,ak,amH,af,aC,akt (n:=n) lot (i:Int) s.2 (by omega) (by omega),aK i]) (λ s _=>by
  have hlt:decide (((List.range 21).length:Int)<21)=false:=by simp
  simp only[lN,hlt,ak,aC,aj]) n (by rw[List.length_range];omega) s (by simpa using hs)
 exact key
def Sj(lot:cK)(seen:U (Int×Bool)):Bool:=(eY gj lot.id seen).getD false || (decide (lot.id<0) || decide (lot.id>1073741824))
abbrev ym:=Qw×List (Int×Bool)×List bB
def zb(n:Nat)(lot:cK)(s:ym):ym:=
 bif Sj lot s.2.1 then s else((An n lot (s.1,s.2.2)).1,o6 gj lot.id true s.2.1,(An n lot (s.1,s.2.2)).2)
def ze(n:Nat)(land:U cK):ym:=land.foldl (λ s lot=>zb n lot s) ([],[],[])
theorem amI(n:Nat)(lot:cK)(s:Qw×List bB):(An n lot s).2.length<=s.2.length+1512:=by
 have:=aaO n lot (List.range 21) s;rw[List.length_range]at this;unfold An;omega
theorem aaP(n:Nat)(lot:cK)(s:ym):(zb n lot s).2.2.length<=s.2.2.length+1512:=by
 have:=amI n lot (s.1,s.2.2);unfold zb;cases Sj lot s.2.1
 .exact this
 .simp
theorem XF(n:Nat):∀(land:U cK)(s:ym),(land.foldl (λ s lot=>zb n lot s) s).2.2.length<=s.2.2.length+1512*land.length
 |[],s=>by simp
 |lot::l,s=>by
  have h1:=XF n l (zb n lot s);have h2:=aaP n lot s;rw[foldl_cons,bC];omega
def fG(n:Nat)(land:U cK):U bB:=lq (α:=bB) (Nz we (ze n land).1) (ze n land).2.2
theorem AP(n:Nat)(land:U cK):(fG n land).Perm (ze n land).2.2:=LB (α:=bB) (WT we (ze n land).1) _
theorem aaQ{land:U cK}(ha:∀l∈land,l.area.length<=900)(hl:land.length<=500)(hn:4000002<=n):pG n land=some (fG n land):=by
 have key:=fA (l:=land) (step:=lQ n land) (λ i (s:ym)=>((i:Int),s.1,s.2.1,s.2.2)) (λ lot s=>zb n lot s) (λ s=>(s.1,s.2.2)) (λ i s=>s.2.2.length<=1512*i) (λ i hi s hs=>by
  refine⟨?_,by have:=aaP n land[i] s;show(zb n land[i] s).2.2.length<=_;omega⟩;simp only[lQ,bJ hi,aj,bf hi,af,zb];have hk:((bif ((eY gj land[i].id s.2.1).getD false)then some true else(bif (decide (land[i].id<(0:Int)))then some true else some (decide (land[i].id>(1073741824:Int))))):J (Bool))=some (Sj land[i] s.2.1):=by
   unfold Sj;cases (eY gj land[i].id s.2.1).getD false<;>cases decide (land[i].id<(0:Int))<;>rfl
  rw[hk];cases hb:Sj land[i] s.2.1 with
  |true=>simp only[af,aj,aC,aK i]
  |false=>simp only[af,ak,aj,aC,aku (n:=n) (ha _ (getElem_mem hi)) hn (s.1,s.2.2) (by show s.2.2.length<=_;omega),aK i]) (λ s _=>by simp only[lQ,bU,ak,aC,aj]) n (by omega) ([],[],[]) (by simp)
 have hz:aE 0 ([]:U bB).length=true:=rfl;rw[show ((0:Nat):Int)=0 from rfl]at key;have hlen:=XF n land ([],[],[]);have aqG:(ze n land).2.2.length<=1512*land.length:=by unfold ze;simpa using hlen
 have hS:=(AP n land).length_eq;have hps:aiO (ze n land).2.2 (ze n land).1=some (fG n land,(ze n land).1):=by exact @rL xx SI.kx SI.eK (inferInstance:Inhabited bB) we (ze n land).2.2 (ze n land).1 (show List.length (ze n land).2.2<=_ by omega)
 have key':iter (lQ n land) n ((0:Int),([]:U (lu×Int)),([]:U (Int×Bool)),([]:U bB))=some ((ze n land).1,(ze n land).2.2):=key;unfold pG;rw[hz,key'];simp only[aj,af,aC,hps,<- hS,bX]
theorem amJ{lot:cK}{s:Qw×List bB}{p:bB}(h:p∈(An n lot s).2):p∈s.2\/∃i k:Nat,i<21/\k<72/\(jp n lot (i:Int)).2=true/\p=ut lot (i:Int) k:=by
 have gen:∀(l:U Nat)(s:Qw×List bB),(∀ i∈l,i<21)->p∈(l.foldl (λ s i=>I9 n lot i s) s).2->p∈s.2\/∃i k:Nat,i<21/\k<72/\(jp n lot (i:Int)).2=true/\p=ut lot (i:Int) k:=by
  intro l
  induction l with
  |nil=>intro s _ h;exact .inl h
  |cons i l ih=>
   intro s hl h;rcases ih (I9 n lot i s) (λ j hj=>hl j (by simp[hj])) h with h |h
   .unfold I9 at h;cases hb:(jp n lot (i:Int)).2 with
    |false=>rw[hb]at h;exact .inl h
    |true=>
     rw[hb]at h;simp only[aj,aZ,mem_map,List.mem_range]at h;rcases h with h |⟨k,hk,rfl⟩
     .exact .inl h
     .exact .inr ⟨i,k,hl i (by simp),hk,hb,rfl⟩
   .exact .inr h
 exact gen (List.range 21) s (λ i hi=>List.mem_range.1 hi) h
theorem Qx(k k':Int)(v:Bool):∀l:U (Int×Bool),eY gj k (o6 gj k' v l)=if k=k' then some v else eY gj k l
 |[]=>by
  show(bif gj k k' then some v else eY gj k [])=_;by_cases h:k=k'
  .subst h;simp[gj]
  .have e2:gj k k'=false:=(by simp[gj,h]);rw[e2,aS h];rfl
 |p::l=>by
  have ih:=Qx k k' v l;show eY gj k (bif gj k' p.1 then(k',v)::l else p::o6 gj k' v l)=_;by_cases h1:k'=p.1
  .have e1:gj k' p.1=true:=(by simp[gj,h1]);rw[e1];show(bif gj k k' then some v else eY gj k l)=if k=k' then some v else(bif gj k p.1 then some p.2 else eY gj k l)
   by_cases h:k=k'
   .subst h;simp[gj]
   .have e2:gj k k'=false:=(by simp[gj,h]);have e3:gj k p.1=false:=(by rw[<- h1];exact e2);rw[e2,e3,aS h];rfl
  .have e1:gj k' p.1=false:=(by simp[gj,h1]);rw[e1];show(bif gj k p.1 then some p.2 else eY gj k (o6 gj k' v l))=if k=k' then some v else(bif gj k p.1 then some p.2 else eY gj k l)
   rw[ih];by_cases h:k=k'
   .subst h;rw[e1];simp
   .rw[aS h,aS h]
structure OfP(n:Nat)(land:List cK)(p:bB)(lot:cK):Prop where
 Up:land.find? (λ x=>x.id==p.lot)=some lot
 id0:0<=lot.id
 id1:lot.id<=1073741824
 ex:∃i k:Nat,i<21/\k<72/\(jp n lot (i:Int)).2=true/\p=ut lot (i:Int) k
theorem ai0(n:Nat)(land:U cK):∀i,i<=land.length->(∀ p∈((land.take i).foldl (λ s lot=>zb n lot s) (([],[],[]):ym)).2.2,∃lot,OfP n land p lot)/\
 (∀ j (hj:j<land.length),j<i->0<=land[j].id->land[j].id<=1073741824->eY gj land[j].id ((land.take i).foldl (λ s lot=>zb n lot s) (([],[],[]):ym)).2.1=some true)
 | 0,_=>by simp
 |i+1,hi=>by
  obtain⟨h1,h2⟩:=ai0 n land i (by omega);rw[iJ (show i<land.length by omega),List.foldl_append];generalize hs:(land.take i).foldl (λ s lot=>zb n lot s) (([],[],[]):ym)=s at h1 h2;simp only[foldl_cons,List.foldl_nil];have hi':i<land.length:=by omega
  cases hb:Sj land[i] s.2.1 with
  |true=>
   have e:zb n land[i] s=s:=(by unfold zb;rw[hb];rfl);rw[e];refine⟨h1,λj hj hji h0 h3=>?_⟩;rcases Nat.lt_or_ge j i with h |h
   .exact h2 j hj h h0 h3
   .obtain rfl:j=i:=(by omega);unfold Sj at hb;have e1:decide (land[j].id<0)=false:=(by simp;omega);have e2:decide (land[j].id>1073741824)=false:=(by simp;omega);rw[e1,e2]at hb;simp only[Bool.or_false]at hb;cases hm:eY gj land[j].id s.2.1 with
    |none=>rw[hm]at hb;cases hb
    |some b=>rw[hm]at hb;simp only[Option.getD_some]at hb;rw[hb]
  |false=>
   have e:zb n land[i] s=((An n land[i] (s.1,s.2.2)).1,o6 gj land[i].id true s.2.1,(An n land[i] (s.1,s.2.2)).2):=(by unfold zb;rw[hb];rfl);rw[e];simp only[Sj,Bool.or_eq_false_iff,dP]at hb;obtain⟨b1,b2,b3⟩:=hb;refine⟨λ p hp=>?_,λj hj hji h0 h3=>?_⟩
   .rcases amJ hp with hp |⟨a,k,ha,hk,hbs,rfl⟩
    .exact h1 p hp
    .refine⟨land[i],?_,by omega,by omega,a,k,ha,hk,hbs,rfl⟩;rw[List.find?_eq_some_iff_getElem];refine⟨by simp[ut],i,hi',rfl,λj hj=>?_⟩;simp only[ut,Bool.not_eq_true',beq_eq_false_iff_ne];intro hj2;have:=h2 j (by omega) hj (by rw[hj2];omega) (by rw[hj2];omega);rw[hj2]at this;rw[this]at b1;cases b1
   .show eY gj land[j].id (o6 gj land[i].id true s.2.1)=some true;rw[Qx];by_cases hij:land[j].id=land[i].id
    .rw[aX hij]
    .rw[aS hij];rcases Nat.lt_or_ge j i with h |h
     .exact h2 j hj h h0 h3
     .obtain rfl:j=i:=(by omega);exact absurd rfl hij
theorem akv{land:U cK}{p:bB}(h:p∈fG n land):∃lot,OfP n land p lot:=by
 have h1:=(AP n land).mem_iff.1 h;have:=(ai0 n land land.length (aD _)).1 p;rw[List.take_length]at this;exact this h1
def aqn(r:ax)(p:bB):aH:=aH.mk r.x0 r.y0 r.x1 r.y1 0 (i64.wrap (p.floors*3)) p.use (bif (p.use==(0:Int))then p.floors else 0) false
def Dl(n:Nat)(lot:cK)(p:bB):bn:=bn.mk p.lot [tF.mk [aqn (jp n lot p.iS).1 p] []]
def Lg(n:Nat)(lot:cK)(p:bB):Bool:=(jp n lot p.iS).2&&(decide (p.lot=lot.id)&&(decide (0<=p.lot)&&(decide (p.lot<=1073741824)&&(decide (0<=p.use)&&(decide (p.use<6)&&(decide (1<=p.floors)&&decide (p.floors<=12)))))))
theorem amK{lot:cK}(ha:lot.area.length<=900)(hn:4000002<=n)(p:bB):vM n lot p=some (bif Lg n lot p then(Dl n lot p,true)else(bn.mk 0 [],false)):=by
 unfold vM;rw[aiZ ha hn];simp only[af];have hk:((bif (!(jp n lot p.iS).2)then some true else(bif (p.lot !=(lot.id:Int))then some true else(bif (decide (p.lot<(0:Int)))then some true else(bif (decide (p.lot>(1073741824:Int)))then some true else(bif (decide (p.use<(0:Int)))then some true else(bif (decide (p.use>=(6:Int)))then some true else(bif (decide (p.floors<(1:Int)))then some true else some (decide (p.floors>(12:Int)))))))))):J (Bool))=some (!Lg n lot p):=by
  unfold Lg;have e1:(p.lot !=lot.id)=!decide (p.lot=lot.id):=by rw[jZ];simp
  have e2:decide (p.lot<0)=!decide (0<=p.lot):=by rw[<- decide_not,decide_eq_decide];omega
  have e3:decide (p.lot>1073741824)=!decide (p.lot<=1073741824):=by rw[<- decide_not,decide_eq_decide];omega
  have e4:decide (p.use<0)=!decide (0<=p.use):=by rw[<- decide_not,decide_eq_decide];omega
  have e5:decide (p.use>=6)=!decide (p.use<6):=by rw[<- decide_not,decide_eq_decide];omega
  have e6:decide (p.floors<1)=!decide (1<=p.floors):=by rw[<- decide_not,decide_eq_decide];omega
  have e7:decide (p.floors>12)=!decide (p.floors<=12):=by rw[<- decide_not,decide_eq_decide];omega
  rw[e1,e2,e3,e4,e5,e6,e7];cases (jp n lot p.iS).2<;>cases decide (p.lot=lot.id)<;>cases decide (0<=p.lot)<;>cases decide (p.lot<=1073741824)<;>cases decide (0<=p.use)<;>cases decide (p.use<6)<;>cases decide (1<=p.floors)<;>rfl
 rw[hk];cases Lg n lot p with
 |false=>rfl
 |true=>
  simp only[Bool.not_true,af,ak,aj,Dl,aqn];cases (p.use==(0:Int))<;>rfl
theorem aov{land:U cK}{p:bB}{lot:cK}(h:OfP n land p lot):Lg n lot p=true:=by
 obtain⟨h1,h2,h3,i,k,hi,hk,hb,rfl⟩:=h;have e1:Int.tmod (k:Int) 6=((k%6:Nat):Int):=by rw[show (6:Int)=((6:Nat):Int)from rfl,<- Int.ofNat_tmod]
 have e2:Int.tdiv (k:Int) 6=((k/6:Nat):Int):=by rw[show (6:Int)=((6:Nat):Int)from rfl,<- Int.ofNat_tdiv]
 have e3:i64.wrap ((i64.wrap (Int.tdiv (k:Int) 6))+1)=((k/6+1:Nat):Int):=by rw[e2,Nl (by omega),bL (by omega)]
 simp only[Lg,ut,e1,e3,hb,Bool.true_and,aL,aV];refine⟨trivial,h2,h3,?_,?_,?_,?_⟩<;>omega
theorem ai1(n:Nat)(lot:cK)(p:bB):Tf (Dl n lot p):=by refine⟨⟨by simp[Dl],λq hq=>?_⟩,λq hq=>?_⟩<;> · simp only[Dl,aP]at hq;subst hq;simp
theorem amL:Tf (bn.mk 0 []):=by refine⟨⟨by simp,λq hq=>?_⟩,λq hq=>?_⟩<;>simp at hq
def GT:bB:=bB.mk 0 0 0 0
def zf(n:Nat)(t:bR)(d:bn)(day:Int):Bool:=(zL n t d==0)&&decide (rD n t d day=[])
theorem aow{t:bR}{d:bn}(day:Int)(ht:sN t)(hd:Tf d)(hn:Oz n):mF n t d day=some (zf n t d day):=aks day ht hd hn
def LI(land:U cK):Prop:=(∀ l∈land,l.area.length<=900)/\land.length<=500
def W8(n:Nat)(land:U cK)(p:bB):bn×Bool:=match land.find? λx=>x.id==p.lot with
 |none=>(bn.mk 0 [],false)
 |some lot=>bif Lg n lot p then(Dl n lot p,true)else(bn.mk 0 [],false)
def oT(t:bR)(p:bS):bR:=bR.mk p.defs p.tables p.zones p.rules p.caps p.views p.uk p.hours t.land t.co t.windows t.built t.base
def vB(l:U bB)(q:bB->Bool):bB×Bool:=match l.find? q with
 |some p=>(p,true)
 |none=>(GT,false)
theorem aco(l:U bB)(q:bB->Bool):(∃ p,l.find? q=some p/\vB l q=(p,true)/\p∈l/\q p=true)\/(vB l q=(GT,false)/\∀p∈l,q p=false):=by
 unfold vB;cases h:l.find? q with
 |none=>exact .inr ⟨rfl,λp hp=>by have:=List.find?_eq_none.1 h p hp;simpa using this⟩
 |some p=>exact .inl ⟨p,rfl,rfl,List.mem_of_find?_eq_some h,List.find?_some h⟩
theorem ae5{l:U bB}{q:bB->Bool}(h:∀p∈l,q p=false):vB l q=(GT,false):=by
 unfold vB;rw[List.find?_eq_none.2 λp hp=>by rw[h p hp];decide]
theorem acp{l:U bB}{q q':bB->Bool}(h:∀p∈l,q p=q' p):vB l q=vB l q':=by
 unfold vB;have:l.find? q=l.find? q':=by
  induction l with
  |nil=>rfl
  |cons a l ih=>rw[List.find?_cons,List.find?_cons,h a (by simp),ih λp hp=>h p (by simp[hp])]
 rw[this]
theorem OC(j:Nat):decide (((j+1:Nat):Int)>0)=true:=by simp
theorem ae6:decide (((0:Nat):Int)>0)=false:=rfl
theorem pred_succ{j:Nat}(h:j<9223372036854775807):i64.wrap (((j+1:Nat):Int) -1)=(j:Int):=by rw[mV (by omega) (by omega)];simp
theorem Qy{i n:Nat}(h:¬i<n):decide ((i:Int)<(n:Int))=false:=by simp;omega
theorem ai2(c1 c2:Bool):∃b,((bif c1 then some true else some c2):J Bool)=some b:=dn ⟨_,rfl⟩ ⟨_,rfl⟩
theorem qs2{a0 v2:U Int}{k:Nat}(hk:k<a0.length)(hl:v2.length<=1000)(hn:2000<=n):∃w:Nat,iter (qM a0 (k:Int) v2) n (v2.length:Int)=some (w:Int)/\w<=v2.length:=by
 obtain⟨o,h1,w,rfl,h2⟩:=AJ (step:=qM a0 (k:Int) v2) (λ v=>∃j:Nat,v=(j:Int)/\j<=v2.length) (λ o=>∃j:Nat,o=(j:Int)/\j<=v2.length) Int.toNat (by
  rintro v ⟨j,rfl,hj⟩;cases j with
  |zero=>simp only[qM,ae6,ak,af];exact .inr ⟨_,rfl,0,rfl,hj⟩
  |succ j=>
   have hj':j<v2.length:=hj;simp only[qM,OC,aj,pred_succ (show j<9223372036854775807 by omega),aU hj',aW hj',bf hk,af];cases decide (v2[j]>a0[k])with
   |false=>exact .inr ⟨_,rfl,j+1,rfl,hj⟩
   |true=>exact .inl ⟨_,rfl,⟨j,rfl,by omega⟩,by omega⟩) n _ ⟨_,rfl,aD _⟩ (by omega)
 exact⟨w,h1,h2⟩
theorem qs3{r1:U Int}{w m:Nat}(hm:r1.length=m+1)(hw:w<=m)(hl:m<=1000)(hn:2000<=n):∃o,iter (qN (w:Int) r1) n (i64.wrap ((r1.length:Int) -1),r1)=some o/\o.length=r1.length:=by
 rw[hm,pred_succ (by omega)];obtain⟨o,h1,h2⟩:=AJ (step:=qN (w:Int) r1) (λ v=>∃j:Nat,v.1=(j:Int)/\w<=j/\j<=m/\v.2.length=r1.length) (λ o=>o.length=r1.length) (λ v=>v.1.toNat) (by
  rintro⟨v,l⟩ ⟨j,rfl,hj,hjm,hlen⟩;simp only at hlen;by_cases h:w<j
  .obtain⟨j,rfl⟩:∃i,j=i+1:=⟨j -1,by omega⟩;have e:decide (((j+1:Nat):Int)>(w:Int))=true:=(by simp;omega);have a1:j<r1.length:=(by omega);have a2:j<l.length:=(by omega);have a3:j+1<r1.length:=(by omega);have a4:j+1<l.length:=(by omega);simp only[qN,e,aj,pred_succ (show j<9223372036854775807 by omega),aU a1,aW a2,aU a3,aW a4,af];exact .inl ⟨_,rfl,⟨j,rfl,by omega,by omega,by simpa using hlen⟩,by simp⟩
  .have e:decide ((j:Int)>(w:Int))=false:=(by simp;omega);simp only[qN,e,ak];exact .inr ⟨_,rfl,hlen⟩) n ((m:Int),r1) ⟨m,rfl,hw,aD _,rfl⟩ (by simp;omega)
 rw[<- hm];exact⟨o,h1,h2⟩
theorem amN{a0:U Int}(hl:a0.length<=1000)(hn:2000<=n):∃o,EP n a0=some o/\o.length<=a0.length:=by
 obtain⟨o,h1,h2⟩:=dI (step:=vR n a0) (λ i (v:Int×List Int)=>v.1=(i:Int)/\i<=a0.length/\v.2.length<=i) (λ o=>o.length<=a0.length) a0.length (λ k v h=>h.2.1) (by
  rintro i ⟨v,l⟩ ⟨hv,hi,rm⟩;simp only at hv rm;subst hv;by_cases hlt:i<a0.length
  .obtain⟨w,e1,hw⟩:=qs2 (n:=n) (v2:=l) hlt (by omega) hn;have hv5:∃b,((bif (decide ((w:Int)>(0:Int)))then(ck (cN (i64.wrap ((w:Int) -1)) l.length) ((bo l ((0:Nat)+(i64.wrap ((w:Int) -1)):Int)).bind λx3=>some (x3==a0[i])))else some false):J Bool)=some b:=by
    cases w with
    |zero=>exact⟨false,rfl⟩
    |succ w=>
     have hw':w<l.length:=hw;simp only[OC,aj,pred_succ (show w<9223372036854775807 by omega),aU hw',aW hw',af];exact⟨_,rfl⟩
   obtain⟨b,e2⟩:=hv5;have hap:bP l.length l.length 1 1 8=true:=cZ (by omega) (by simp only[maxLen];omega);obtain⟨o,e3,ho⟩:=qs3 (n:=n) (r1:=l++[0]) (w:=w) (m:=l.length) (by simp) hw (by omega) hn;have hz:sub ([0]:U Int) 0 1=[0]:=rfl;have ho':o.length=l.length+1:=(by rw[ho];simp);have i1:w<(l++[0]).length:=(by simp;omega);have i2:w<o.length:=(by omega);have e4:aE (l++[0]).length (o.set ((0:Nat)+(w:Int):Int).toNat a0[i]).length=true:=(by rw[List.length_set,ho];exact aC _);simp only[vR,bJ hlt,aj,e1,af,e2,hz,length_singleton,hap,dO,e3,bf hlt,aU i1,aW i2,e4,aK i];cases b with
   |true=>simp only[aj,aC,af];exact .inl ⟨_,rfl,rfl,hlt,by show l.length<=_;omega⟩
   |false=>simp only[ak,aC,af,aj];exact .inl ⟨_,rfl,rfl,hlt,by show(o.set _ _).length<=_;rw[List.length_set];omega⟩
  .obtain rfl:i=a0.length:=(by omega);simp only[vR,bU,ak,aC,aj];exact .inr ⟨_,rfl,rm⟩) n 0 ((0:Int),([]:U Int)) ⟨rfl,Nat.zero_le _,aD _⟩ (by omega)
 have hz:aE 0 ([]:U Int).length=true:=rfl;exact⟨o,by simp only[EP,hz,aj,h1,af,bX,aC],h2⟩
theorem aox{a:U ax}(hl:a.length<=400)(hn:2000<=n):∃o,J7 n a []=some o/\o.length<=2*a.length:=by
 obtain⟨o,h1,h2⟩:=dI (step:=xX a) (λ i (v:Int×List Int)=>v.1=(i:Int)/\i<=a.length/\v.2.length=2*i) (λ o=>o.length=2*a.length) a.length (λ k v h=>h.2.1) (by
  rintro i ⟨v,l⟩ ⟨hv,hi,rm⟩;simp only at hv rm;subst hv;by_cases hlt:i<a.length
  .have hap:bP l.length l.length 2 2 8=true:=cZ (by omega) (by simp only[maxLen];omega);simp only[xX,bJ hlt,aj,bf hlt,af,show ∀x y:Int,sub ([x,y]:U Int) 0 2=[x,y]from λ_ _=>rfl,bC,length_nil,Nat.zero_add,Nat.reduceAdd,hap,dO,aC,aK i];exact .inl ⟨_,rfl,rfl,hlt,by simp;omega⟩
  .obtain rfl:i=a.length:=(by omega);simp only[xX,bU,ak,aC,aj];exact .inr ⟨_,rfl,rm⟩) n 0 ((0:Int),([]:U Int)) ⟨rfl,Nat.zero_le _,rfl⟩ (by omega)
 obtain⟨m,rfl⟩:∃m,n=m+1:=⟨n -1,by omega⟩;have e2:iter (EQ []) (m+1) ((0:Int),o)=some o:=fD (by
  have hz:decide ((0:Int)<((([]:U ax).length:Int):Int))=false:=rfl;simp only[EQ,hz,ak,aC,aj])
 obtain⟨p,e3,h3⟩:=amN (n:=m+1) (a0:=o) (by omega) hn;have hz:aE 0 ([]:U Int).length=true:=rfl;exact⟨p,by simp only[J7,hz,aj,h1,af,aC,e2,bX,e3],by omega⟩
theorem qc2{a0:U ax}{k m:Nat}{r1 r2:U Int}(hk:k<a0.length)(h1:r1.length=m+1)(h2:r2.length=m+1)(hm:m<=1000)(hn:2000<=n):∃(w:Nat)(o1 o2:U Int),iter (qO a0 (k:Int) r1 r2) n ((m:Int),r1,r2)=some ((w:Int),o1,o2)/\w<=m/\o1.length=m+1/\o2.length=m+1:=by
 obtain⟨⟨o,o1,o2⟩,g1,w,rfl,g2⟩:=AJ (step:=qO a0 (k:Int) r1 r2) (λ v=>∃j:Nat,v.1=(j:Int)/\j<=m/\v.2.1.length=m+1/\v.2.2.length=m+1) (λ o=>∃j:Nat,o.1=(j:Int)/\j<=m/\o.2.1.length=m+1/\o.2.2.length=m+1) (λ v=>v.1.toNat) (by
  rintro⟨v,l1,l2⟩ ⟨j,rfl,hj,hl1,hl2⟩;simp only at hl1 hl2;cases j with
  |zero=>simp only[qO,ae6,ak,af];exact .inr ⟨_,rfl,0,rfl,hj,hl1,hl2⟩
  |succ j=>
   have a1:j<r1.length:=(by omega);have a2:j<l1.length:=(by omega);have a3:j+1<r1.length:=(by omega);have a4:j+1<l1.length:=(by omega);have b1:j<r2.length:=(by omega);have b2:j<l2.length:=(by omega);have b3:j+1<r2.length:=(by omega);have b4:j+1<l2.length:=(by omega);simp only[qO,OC,aj,pred_succ (show j<9223372036854775807 by omega),aU a1,aW a2,bf hk,aU a3,aW a4,aU b1,aW b2,aU b3,aW b4,af];cases decide (l1[j]>a0[k].y0)with
   |false=>exact .inr ⟨_,rfl,j+1,rfl,hj,hl1,hl2⟩
   |true=>exact .inl ⟨_,rfl,⟨j,rfl,by omega,by simpa using hl1,by simpa using hl2⟩,by simp⟩) n ((m:Int),r1,r2) ⟨m,rfl,aD _,h1,h2⟩ (by simp;omega)
 exact⟨w,o1,o2,g1,g2⟩
theorem qc1{a0:U ax}(x:Int)(hl:a0.length<=400)(hn:2000<=n):∃o1 o2:U Int,iter (qP n a0 x) n ((0:Int),([]:U Int),([]:U Int))=some (o1,o2)/\o1.length=o2.length/\o1.length<=a0.length:=by
 obtain⟨⟨o1,o2⟩,g1,g2⟩:=dI (step:=qP n a0 x) (λ i (v:Int×List Int×List Int)=>v.1=(i:Int)/\i<=a0.length/\v.2.1.length=v.2.2.length/\v.2.1.length<=i) (λ o=>o.1.length=o.2.length/\o.1.length<=a0.length) a0.length (λ k v h=>h.2.1) (by
  rintro i ⟨v,l1,l2⟩ ⟨hv,hi,rm,hl2⟩;simp only at hv rm hl2;subst hv;by_cases hlt:i<a0.length
  .have hap:bP l1.length l1.length 1 1 8=true:=cZ (by omega) (by simp only[maxLen];omega);have B7:bP l2.length l2.length 1 1 8=true:=rm ▸ hap;have hz:sub ([0]:U Int) 0 1=[0]:=rfl;obtain⟨w,p1,p2,e1,hw,hp1,hp2⟩:=qc2 (n:=n) (a0:=a0) (k:=i) (m:=l1.length) (r1:=l1++[0]) (r2:=l2++[0]) hlt (by simp) (by simp[rm]) (by omega) hn;have i1:w<(l1++[0]).length:=(by simp;omega);have i2:w<p1.length:=(by omega);have i3:w<(l2++[0]).length:=(by simp;omega);have i4:w<p2.length:=(by omega);have f1:∀y:Int,aE (l1++[0]).length (p1.set ((0:Nat)+(w:Int):Int).toNat y).length=true:=λy=>(by rw[List.length_set,hp1];exact Et (by simp));have f2:∀y:Int,aE (l2++[0]).length (p2.set ((0:Nat)+(w:Int):Int).toNat y).length=true:=λy=>(by rw[List.length_set,hp2];exact Et (by simp[rm]));have⟨b,hb⟩:=ai2 (decide (a0[i].x0>(x:Int))) (decide (a0[i].x1<=(x:Int)));simp only[qP,bJ hlt,aj,bf hlt,af,hb,hz,length_singleton,hap,B7,dO,e1,aU i1,aW i2,aU i3,aW i4,f1,f2,aK i];cases b with
   |true=>simp only[aj,aC,af];exact .inl ⟨_,rfl,rfl,hlt,rm,by show l1.length<=_;omega⟩
   |false=>
    simp only[ak,aj,aC,af];exact .inl ⟨_,rfl,rfl,hlt,by simp only[List.length_set];omega,by simp only[List.length_set];omega⟩
  .obtain rfl:i=a0.length:=(by omega);simp only[qP,bU,ak,aC,aj];exact .inr ⟨_,rfl,rm,hl2⟩) n 0 ((0:Int),([]:U Int),([]:U Int)) ⟨rfl,Nat.zero_le _,rfl,aD _⟩ (by omega)
 exact⟨o1,o2,g1,g2⟩
theorem ae7{a0:U ax}(x:Int)(hl:a0.length<=400)(hn:2000<=n):∃o,yZ n a0 x=some o/\o.length<=2*a0.length:=by
 have⟨w4,w5,g1,g2,g3⟩:=qc1 (n:=n) (a0:=a0) x hl hn;obtain⟨o,h1,h2⟩:=dI (step:=qQ w4 w5) (λ i (v:Int×List Int)=>v.1=(i:Int)/\i<=w4.length/\v.2.length<=2*i) (λ o=>o.length<=2*w4.length) w4.length (λ k v h=>h.2.1) (by
  rintro i ⟨v,l⟩ ⟨hv,hi,rm⟩;simp only at hv rm;subst hv;by_cases hlt:i<w4.length
  .have xl:i<w5.length:=(by omega);have hap:bP l.length l.length 2 2 8=true:=cZ (by omega) (by simp only[maxLen];omega);have hs:∀x y:Int,sub ([x,y]:U Int) 0 2=[x,y]:=λ_ _=>rfl;cases hL:l.length with
   |zero=>
    have hz0:decide ((l.length:Int)>0)=false:=(by rw[hL];rfl);simp only[qQ,bJ hlt,aj,hz0,ak,af,aU hlt,aW hlt,aU xl,aW xl,hs,bC,length_nil,Nat.zero_add,Nat.reduceAdd,hap,dO,aC,aK i];exact .inl ⟨_,rfl,rfl,hlt,by simp;omega⟩
   |succ m=>
    have hm:m<l.length:=(by omega);have hpos:decide ((l.length:Int)>0)=true:=(by rw[hL];exact OC m);have hpred:i64.wrap ((l.length:Int) -1)=(m:Int):=(by rw[hL];exact pred_succ (by omega));have f1:∀y:Int,aE l.length (l.set ((0:Nat)+(m:Int):Int).toNat y).length=true:=λy=>(by rw[List.length_set];exact aC _);simp only[qQ,bJ hlt,aj,hpos,hpred,af,aU hlt,aW hlt,aU xl,aW xl,aU hm,aW hm,hs,bC,length_nil,Nat.zero_add,Nat.reduceAdd,hap,dO,f1,aC,aK i];cases decide (w4[i]<=l[m])with
    |true=>exact .inl ⟨_,rfl,rfl,hlt,by show(l.set _ _).length<=_;rw[List.length_set];omega⟩
    |false=>exact .inl ⟨_,rfl,rfl,hlt,by show(l++_).length<=_;simp;omega⟩
  .obtain rfl:i=w4.length:=(by omega);simp only[qQ,bU,ak,aC,aj];exact .inr ⟨_,rfl,rm⟩) n 0 ((0:Int),([]:U Int)) ⟨rfl,Nat.zero_le _,aD _⟩ (by omega)
 have hz:aE 0 ([]:U Int).length=true:=rfl;exact⟨o,by simp only[yZ,hz,aj,g1,h1,af,bX,aC],by omega⟩
theorem akw{a0:U Int}(hl:a0.length<=1000)(hn:2000<=n):∃o,Ay n a0 [] 0=some o/\o.length<=a0.length:=by
 obtain⟨o,h1,h2⟩:=dI (step:=uq a0 [] 0) (λ i (v:Int×Int×Bool×List Int)=>v.1=(i:Int)/\v.2.1=0/\i<=a0.length/\v.2.2.2.length<=i) (λ o=>o.length<=a0.length) a0.length (λ k v h=>h.2.2.1) (by
  rintro i ⟨v,v2,v3,l⟩ ⟨hv,hv2,hi,rm⟩;simp only at hv hv2 rm;subst hv;subst hv2;have z1:decide ((0:Int)<((([]:U Int).length:Int):Int))=false:=rfl;have z2:decide ((0:Int)>=((([]:U Int).length:Int):Int))=true:=rfl;by_cases hlt:i<a0.length
  .have hap:bP l.length l.length 1 1 8=true:=cZ (by omega) (by simp only[maxLen];omega);have be:∀x:Int,(x==x)=true:=λx=>(by simp);have⟨b,hb⟩:=ai2 (Int.tmod ((i+1:Nat):Int) 2==(1:Int)) (Int.tmod (0:Int) 2==(1:Int));simp only[uq,bJ hlt,aj,z1,z2,bf hlt,af,be,ak,aK i,show((2:Nat) !=0)=true from rfl,show((2:Int) !=0)=true from rfl,hb,show((0:Int)==1)=false from rfl,show((0:Int)==2)=false from rfl,show ∀x:Int,sub ([x]:U Int) 0 1=[x]from λ_=>rfl,length_singleton,hap,dO,aC];cases (!(b==v3))with
   |true=>exact .inl ⟨_,rfl,rfl,rfl,hlt,by show(l++_).length<=_;simp;omega⟩
   |false=>exact .inl ⟨_,rfl,rfl,rfl,hlt,by show l.length<=_;omega⟩
  .obtain rfl:i=a0.length:=(by omega);simp only[uq,bU,ak,z1,af,aC,aj];exact .inr ⟨_,rfl,rm⟩) n 0 ((0:Int),(0:Int),false,([]:U Int)) ⟨rfl,rfl,Nat.zero_le _,aD _⟩ (by omega)
 have hz:aE 0 ([]:U Int).length=true:=rfl;exact⟨o,by simp only[Ay,hz,aj,h1,af,bX,aC],h2⟩
theorem W7{α O:Type}{l:U α}{step:Int->J (Int⊕(Unit⊕O))}(h1:∀i (hi:i<l.length),(∃ o,step (i:Int)=some (.inr (.inr o)))\/step (i:Int)=some (.inl ((i+1:Nat):Int)))
 (h2:step (l.length:Int)=some (.inr (.inl ()))) (hn:l.length<n):(∃ o,iter step n (0:Int)=some (.inr o))\/iter step n (0:Int)=some (.inl ()):=by
 obtain⟨o,g1,_⟩:=dI (step:=step) (λ i (v:Int)=>v=(i:Int)/\i<=l.length) (λ _=>True) l.length (λ k v h=>h.2) (by
  rintro i v ⟨rfl,hi⟩;by_cases hlt:i<l.length
  .rcases h1 i hlt with ⟨o,h⟩ |h
   .exact .inr ⟨_,h,trivial⟩
   .exact .inl ⟨_,h,rfl,hlt⟩
  .obtain rfl:i=l.length:=(by omega);exact .inr ⟨_,h2,trivial⟩) n 0 0 ⟨rfl,Nat.zero_le _⟩ (by omega)
 rcases o with ⟨⟩ |o
 .exact .inr g1
 .exact .inl ⟨o,g1⟩
theorem apK{a b:U Int}(hl:a.length<=1000)(hn:2000<=n):∃r,NZ n a b=some r:=by
 unfold NZ;by_cases h:a.length=b.length
 .have e:((a.length:Int) !=(b.length:Int))=false:=by simp[h]
  rw[e];simp only[ak];rcases W7 (l:=a) (n:=n) (step:=Az a b) (λ i hi=>by
   simp only[Az,bJ hi,aj,bf hi,bf (show i<b.length by omega),af,aK i];cases (a[i] !=b[i]'(by omega))with
   |true=>exact .inl ⟨_,rfl⟩
   |false=>exact .inr rfl) (by simp only[Az,bU,ak]) (by omega)with ⟨o,h⟩ |h
  .rw[h];exact⟨_,rfl⟩
  .rw[h];exact⟨_,rfl⟩
 .have e:((a.length:Int) !=(b.length:Int))=true:=by simpa using λe:(a.length:Int)=(b.length:Int)=>h (by omega)
  rw[e];exact⟨_,rfl⟩
theorem qf2{r1:U Int}{k:Nat}{v3:U ax}{q:Nat}(hk:k+1<r1.length)(hl:r1.length<=1000)(h3:v3.length<=100000)(hn:200000<=n):∃o,iter (wN r1 (k:Int) v3) n ((q:Int),v3)=some o/\o.length=v3.length:=by
 refine AJ (step:=wN r1 (k:Int) v3) (λ v=>∃j:Nat,v.1=(j:Int)/\v.2.length=v3.length) (λ o=>o.length=v3.length) (λ v=>v3.length -v.1.toNat) (by
  rintro⟨v,l⟩ ⟨j,rfl,hl⟩;simp only at hl;by_cases hlt:j<v3.length
  .have hj:j<l.length:=(by omega);simp only[wN,bJ hlt,aj,aK k,aU hk,aW hk,aU hlt,aW hj,af,aK j];exact .inl ⟨_,rfl,⟨j+1,rfl,by simpa using hl⟩,by simp only[Int.toNat_natCast];omega⟩
  .simp only[wN,Qy hlt,ak];exact .inr ⟨_,rfl,hl⟩) n ((q:Int),v3) ⟨q,rfl,rfl⟩ (by omega)
theorem qf3{r1 r4:U Int}{k:Nat}{v3:U ax}(hk:k+1<r1.length)(hl:r1.length<=1000)(h4:r4.length<=1000)(h3:v3.length<=100000)(hn:200000<=n):∃o,iter (wO r1 (k:Int) r4) n ((0:Int),v3)=some o/\o.length<=v3.length+r4.length:=by
 refine AJ (step:=wO r1 (k:Int) r4) (λ v=>∃j:Nat,v.1=(j:Int)/\j<=r4.length/\v.2.length<=v3.length+j) (λ o=>o.length<=v3.length+r4.length) (λ v=>r4.length -v.1.toNat) (by
  rintro⟨v,l⟩ ⟨j,rfl,hj,hl⟩;simp only at hl;by_cases hlt:j+1<r4.length
  .have hj:j<r4.length:=(by omega);have hk':k<r1.length:=(by omega);have hap:bP l.length l.length 1 1 32=true:=cZ (by omega) (by simp only[maxLen];omega);have w2:i64.wrap ((j:Int)+2)=((j+2:Nat):Int):=(by rw[dU (by omega) (by omega)];omega);simp only[wO,aK j,bJ hlt,aj,aK k,aU hk,aW hk,aU hk',aW hk',aU hj,aW hj,aU hlt,aW hlt,af,show ∀x:ax,sub ([x]:U ax) 0 1=[x]from λ_=>rfl,length_singleton,hap,dO,aC,w2];exact .inl ⟨_,rfl,⟨j+2,rfl,by omega,by simp;omega⟩,by simp only[Int.toNat_natCast];omega⟩
  .simp only[wO,aK j,Qy hlt,ak,aC,aj];exact .inr ⟨_,rfl,by omega⟩) n ((0:Int),v3) ⟨0,rfl,Nat.zero_le _,by simp⟩ (by simp;omega)
theorem apL{a:U ax}(hl:a.length<=4)(hn:200000<=n):∃o,N7 n a [] 0=some o:=by
 obtain⟨r1,e1,h1⟩:=aox (n:=n) (a:=a) (by omega) (by omega);obtain⟨o,g1,_⟩:=dI (step:=AA n a [] 0 r1) (λ i (v:Int×Int×List ax×List Int)=>(∃ q:Nat,v.1=(q:Int))/\v.2.1=(i:Int)/\i<=r1.length/\v.2.2.1.length<=8*i/\v.2.2.2.length<=8) (λ _=>True) r1.length (λ k v h=>h.2.2.1) (by
  rintro i ⟨v1,v2,v3,v4⟩ ⟨⟨q,hq⟩,hv,hi,h3,h4⟩;simp only at hq hv h3 h4;subst hq;subst hv;by_cases hlt:i+1<r1.length
  .have hi':i<r1.length:=(by omega);obtain⟨r2,e2,h2⟩:=ae7 (n:=n) (a0:=a) r1[i] (by omega) (by omega);obtain⟨r3,e3,h3'⟩:=ae7 (n:=n) (a0:=[]) r1[i] (by simp) (by omega);obtain rfl:r3=[]:=List.eq_nil_of_length_eq_zero (by simpa using h3');obtain⟨r4,e4,h4'⟩:=akw (n:=n) (a0:=r2) (by omega) (by omega);obtain⟨b5,e5⟩:=apK (n:=n) (a:=r4) (b:=v4) (by omega) (by omega);have hv5:∃b,((bif (decide ((i:Int)>(0:Int)))then(bif (decide ((r4.length:Int)>(0:Int)))then some b5 else some false)else some false):J Bool)=some b:=dn (dn ⟨_,rfl⟩ ⟨_,rfl⟩) ⟨_,rfl⟩;obtain⟨b,e6⟩:=hv5;obtain⟨o2,f2,k2⟩:=qf2 (n:=n) (r1:=r1) (k:=i) (v3:=v3) (q:=q) hlt (by omega) (by omega) hn;obtain⟨o3,f3,k3⟩:=qf3 (n:=n) (r1:=r1) (r4:=r4) (k:=i) (v3:=v3) hlt (by omega) (by omega) (by omega) hn;have e7:aE v3.length o2.length=true:=Et k2.symm;simp only[AA,aK i,bJ hlt,aj,aU hi',aW hi',af,e2,e3,bX,aC,e4,e5,e6,f2,f3,e7];cases b with
   |true=>exact .inl ⟨_,rfl,⟨q,rfl⟩,rfl,by omega,by show o2.length<=_;omega,h4⟩
   |false=>exact .inl ⟨_,rfl,⟨_,rfl⟩,rfl,by omega,by show o3.length<=_;omega,by show r4.length<=_;omega⟩
  .simp only[AA,aK i,Qy hlt,ak,aC,aj];exact .inr ⟨_,rfl,trivial⟩) n 0 ((0:Int),(0:Int),([]:U ax),([]:U Int)) ⟨⟨0,rfl⟩,rfl,Nat.zero_le _,aD _,Nat.zero_le _⟩ (by omega)
 have hz:aE 0 ([]:U ax).length=true:=rfl;have hz2:aE 0 ([]:U Int).length=true:=rfl;exact⟨o,by simp only[N7,e1,af,hz,hz2,aj,g1,bX,aC]⟩
theorem aoy{a:U ax}(hl:a.length<=4)(hn:200000<=n):∃b,J9 n a=some b:=by
 have⟨f,hf⟩:=apL (n:=n) hl hn;have hO:∃o,PF n a=some o:=by
  unfold PF;have xp:decide ((a.length:Int)>400)=false:=by simp;omega
  rcases W7 (l:=a) (n:=n) (step:=J8 a) (λ i hi=>by
   have hr:∃b,vQ a[i]=some b:=by
    unfold vQ;exact dn (dn (dn (dn (dn ⟨_,rfl⟩ ⟨_,rfl⟩) ⟨_,rfl⟩) ⟨_,rfl⟩) ⟨_,rfl⟩) ⟨_,rfl⟩
   obtain⟨b,hb⟩:=hr;simp only[J8,bJ hi,aj,bf hi,af,hb,aK i];cases b with
   |false=>exact .inl ⟨_,rfl⟩
   |true=>exact .inr rfl) (by simp only[J8,bU,ak]) (by omega)with ⟨o,h⟩ |h
  .rw[h];exact⟨_,rfl⟩
  .rw[h];simp only[eG,xp,ak,hf,af,bX,aC,aj];exact dn ⟨_,rfl⟩ ⟨_,rfl⟩
 obtain⟨o,ho⟩:=hO;unfold J9;rw[ho];simp only[af,bX,aC,aj];refine dn ?_ ⟨_,rfl⟩;have hS:∃r,N8 n o.1 a=some r:=by
  unfold N8;by_cases h:o.1.length=a.length
  .have e:((o.1.length:Int) !=(a.length:Int))=false:=(by simp[h]);rw[e];simp only[ak];rcases W7 (l:=o.1) (n:=n) (step:=AB o.1 a) (λ i hi=>by
    simp only[AB,bJ hi,aj,bf hi,bf (show i<a.length by omega),af,aK i];generalize (!((o.1[i].x0==((a[i]'(by omega)).x0:Int))&&((o.1[i].y0==((a[i]'(by omega)).y0:Int))&&((o.1[i].x1==((a[i]'(by omega)).x1:Int))&&((o.1[i].y1==((a[i]'(by omega)).y1:Int))&&true)))))=c;cases c with
    |true=>exact .inl ⟨_,rfl⟩
    |false=>exact .inr rfl) (by simp only[AB,bU,ak]) (by omega)with ⟨o,h⟩ |h
   .rw[h];exact⟨_,rfl⟩
   .rw[h];exact⟨_,rfl⟩
  .have e:((o.1.length:Int) !=(a.length:Int))=true:=(by simpa using λe:(o.1.length:Int)=(a.length:Int)=>h (by omega));rw[e];exact⟨_,rfl⟩
 obtain⟨r,hr⟩:=hS;rw[hr];exact⟨_,rfl⟩
theorem amP{a:U ax}(hl:a.length<=4)(hn:200000<=n):∃b,ER n a=some b:=by
 unfold ER;cases a with
 |nil=>exact⟨_,rfl⟩
 |cons r l=>
  have⟨b,hb⟩:=aoy (n:=n) hl hn;have e:((((r::l).length:Nat):Int)==0)=false:=by simp;omega
  rw[hb,e];simp only[ak,af];refine dn ⟨_,rfl⟩ ?_;have g0:bo (r::l) 0=some r:=rfl;obtain⟨o,g1,_⟩:=dI (step:=vS (r::l) r) (λ i (v:Int×Int×Int×Int×Int)=>v.1=(i:Int)/\i<=(r::l).length) (λ _=>True) (r::l).length (λ k v h=>h.2) (by
   rintro i ⟨v,v3,v4,v5,v6⟩ ⟨hv,hi⟩;simp only at hv;subst hv;by_cases hlt:i<(r::l).length
   .simp only[vS,bJ hlt,aj,bf hlt,af,aK i];exact .inl ⟨_,rfl,rfl,hlt⟩
   .obtain rfl:i=(r::l).length:=(by omega);simp only[vS,bU,ak];exact .inr ⟨_,rfl,trivial⟩) n 1 ((1:Int),r.x0,r.y0,r.x1,r.y1) ⟨rfl,by simp⟩ (by omega)
  simp only[g0,af,g1];exact⟨_,rfl⟩
theorem XG{α:Type}{l:U α}{step:Int->J (Int⊕(Unit⊕Bool))}{good:α->Prop}(h1:∀i (hi:i<l.length),step (i:Int)=some (.inr (.inr false))\/(step (i:Int)=some (.inl ((i+1:Nat):Int))/\good l[i]))
 (h2:step (l.length:Int)=some (.inr (.inl ()))) (hn:l.length<n):iter step n (0:Int)=some (.inr false)\/(iter step n (0:Int)=some (.inl ())/\∀x∈l,good x):=by
 obtain⟨o,g1,g2⟩:=dI (step:=step) (λ i (v:Int)=>v=(i:Int)/\i<=l.length/\∀x∈l.take i,good x) (λ o=>o= .inr false\/(o= .inl ()/\∀x∈l,good x)) l.length (λ k v h=>h.2.1) (by
  rintro i v ⟨rfl,hi,hall⟩;by_cases hlt:i<l.length
  .rcases h1 i hlt with h |⟨h,hg⟩
   .exact .inr ⟨_,h,.inl rfl⟩
   .refine .inl ⟨_,h,rfl,hlt,λx hx=>?_⟩;rw[List.take_add_one,dQ hlt,aZ]at hx;rcases hx with hx |hx
    .exact hall x hx
    .simp at hx;subst hx;exact hg
  .obtain rfl:i=l.length:=(by omega);exact .inr ⟨_,h2,.inr ⟨rfl,λx hx=>hall x (by rw[List.take_length];exact hx)⟩⟩) n 0 0 ⟨rfl,Nat.zero_le _,by simp⟩ (by omega)
 rcases g2 with rfl |⟨rfl,g2⟩
 .exact .inl g1
 .exact .inr ⟨g1,g2⟩
theorem acr(hn:4000002<=n):∀(m:Nat)(e:cB),(toE e).wt<m->(toE e).wt<=4000000->∃r,vw n m e=some r
 | 0,_,h,_=>absurd h (by omega)
 |m+1,e,h,hw=>by
  have hla:=ace e;show ∃r,EO n (vw n m) e=some r;simp only[EO];obtain⟨o,g1,_⟩:=dI (step:=Aw (vw n m) e) (λ i (v:Int×Int)=>v.2=(i:Int)/\i<=e.args.length) (λ _=>True) e.args.length (λ k v h=>h.2) (by
   rintro i ⟨v1,v2⟩ ⟨hv,hi⟩;simp only at hv;subst hv;by_cases hlt:i<e.args.length
   .have hwx:=Zs (getElem_mem hlt);obtain⟨r,hr⟩:=acr hn m e.args[i] (by omega) (by omega);simp only[Aw,bJ hlt,aj,bf hlt,af,hr,aK i];exact .inl ⟨_,rfl,rfl,hlt⟩
   .obtain rfl:i=e.args.length:=(by omega);simp only[Aw,bU,ak];exact .inr ⟨_,rfl,trivial⟩) n 0 ((1:Int),(0:Int)) ⟨rfl,Nat.zero_le _⟩ (by omega)
  rw[g1];exact⟨_,rfl⟩
structure Pc(p:bS):Prop where
 defs:ia p.defs
 rules:∀r∈p.rules,(toE (iu r)).wt<=4000000
structure GS(p:bS):Prop where
 defs:p.defs.length<=5
 rules:p.rules.length<=5
 rule:∀r∈p.rules,Qs r
 tabs:p.tables.length<=4/\∀t∈p.tables,t.rows.length<=8
 zones:p.zones.length<=5
 caps:p.caps.length<=3
theorem ahp{p:bS}(hp:Pc p)(hn:4000002<=n):∃b,wM n p=some b/\(b=true->GS p):=by
 have no:∃b,some false=some b/\(b=true->GS p):=⟨false,rfl,λh=>(by cases h)⟩;unfold wM;have hk:((bif (decide ((p.defs.length:Int)>(5:Int)))then some true else(bif (decide ((p.rules.length:Int)>(5:Int)))then some true else(bif (decide ((p.tables.length:Int)>(4:Int)))then some true else(bif (decide ((p.zones.length:Int)>(5:Int)))then some true else some (decide ((p.caps.length:Int)>(3:Int))))))):J (Bool))=some (decide (p.defs.length>5\/p.rules.length>5\/p.tables.length>4\/p.zones.length>5\/p.caps.length>3)):=by
  have c:∀a k:Nat,decide ((a:Int)>(k:Int))=decide (a>k):=λa k=>by rw[decide_eq_decide];omega
  have e1:=c p.defs.length 5;have e2:=c p.rules.length 5;have e3:=c p.tables.length 4;have e4:=c p.zones.length 5;have e5:=c p.caps.length 3;rw[show decide ((p.defs.length:Int)>(5:Int))=_ from e1,show decide ((p.rules.length:Int)>(5:Int))=_ from e2,show decide ((p.tables.length:Int)>(4:Int))=_ from e3,show decide ((p.zones.length:Int)>(5:Int))=_ from e4,show decide ((p.caps.length:Int)>(3:Int))=_ from e5,Bool.decide_or,Bool.decide_or,Bool.decide_or,Bool.decide_or];cases decide (p.defs.length>5)<;>cases decide (p.rules.length>5)<;>cases decide (p.tables.length>4)<;>cases decide (p.zones.length>5)<;>rfl
 rw[hk];by_cases hc:p.defs.length>5\/p.rules.length>5\/p.tables.length>4\/p.zones.length>5\/p.caps.length>3
 .rw[decide_eq_true hc];exact no
 .rw[decide_eq_false hc];simp only[af,ak];have s1:=XG (l:=p.defs) (n:=n) (step:=uh n p) (good:=λ_=>True) (λ i hi=>by
   obtain⟨r,hr⟩:=acr hn n _ (show _<n by have:=hp.defs.body (getElem_mem hi);omega) (hp.defs.body (getElem_mem hi));have hr':IC n (cB.mk p.defs[i].jn p.defs[i].lR p.defs[i].k7 p.defs[i].i8 p.defs[i].eL)=some r:=hr;simp only[uh,bJ hi,aj,bf hi,af,hr',aK i];cases decide (r>30)with
   |true=>exact .inl rfl
   |false=>exact .inr ⟨rfl,trivial⟩) (by simp only[uh,bU,ak]) (by omega)
  have s2:=XG (l:=p.rules) (n:=n) (step:=uj n p) (good:=Qs) (λ i hi=>by
   obtain⟨r,hr⟩:=acr hn n (iu p.rules[i]) (show _<n by have:=hp.rules _ (getElem_mem hi);omega) (hp.rules _ (getElem_mem hi));have hr':IC n (cB.mk p.rules[i].lf p.rules[i].mC p.rules[i].mA p.rules[i].ke p.rules[i].gd)=some r:=hr;simp only[uj,bJ hi,aj,bf hi,af,hr',aK i];by_cases c1:r>30
   .simp only[c1,decide_true,aj,af];exact .inl rfl
   .by_cases c2:(p.rules[i].zones.length:Int)>5
    .simp only[c1,c2,decide_true,decide_false,aj,ak,af];exact .inl rfl
    .by_cases c3:(p.rules[i].except.length:Int)>5
     .simp only[c1,c2,c3,decide_true,decide_false,aj,ak,af];exact .inl rfl
     .simp only[c1,c2,c3,decide_false,ak,af];exact .inr ⟨trivial,by omega,by omega⟩) (by simp only[uj,bU,ak]) (by omega)
  have s3:=XG (l:=p.tables) (n:=n) (step:=ul p) (good:=λt=>t.rows.length<=8) (λ i hi=>by
   simp only[ul,bJ hi,aj,bf hi,af,aK i];by_cases c1:(p.tables[i].rows.length:Int)>8
   .simp only[c1,decide_true,aj];exact .inl rfl
   .simp only[c1,decide_false,ak];exact .inr ⟨trivial,by omega⟩) (by simp only[ul,bU,ak]) (by omega)
  have s4:=XG (l:=p.zones) (n:=n) (step:=um p) (good:=λ_=>True) (λ i hi=>by
   simp only[um,bJ hi,aj,bf hi,af,aK i];cases decide ((p.zones[i].corners.length:Int)>12)with
   |true=>exact .inl rfl
   |false=>exact .inr ⟨rfl,trivial⟩) (by simp only[um,bU,ak]) (by omega)
  have s5:=XG (l:=p.caps) (n:=n) (step:=uo p) (good:=λ_=>True) (λ i hi=>by
   simp only[uo,bJ hi,aj,bf hi,af,aK i];cases decide ((p.caps[i].corners.length:Int)>12)with
   |true=>exact .inl rfl
   |false=>exact .inr ⟨rfl,trivial⟩) (by simp only[uo,bU,ak]) (by omega)
  rcases s1 with h |⟨h,_⟩
  .simpa only[h,iL]using no
  rcases s2 with h2 |⟨h2,g2⟩
  .simpa only[h,h2,iL,eG]using no
  rcases s3 with h3 |⟨h3,g3⟩
  .simpa only[h,h2,h3,iL,eG]using no
  rcases s4 with h4 |⟨h4,_⟩
  .simpa only[h,h2,h3,h4,iL,eG]using no
  rcases s5 with h5 |⟨h5,_⟩
  .simpa only[h,h2,h3,h4,h5,iL,eG]using no
  simp only[h,h2,h3,h4,h5,eG];exact⟨true,rfl,λ_=>⟨by omega,by omega,g2,⟨by omega,g3⟩,by omega,by omega⟩⟩
theorem akx(lot:cK)(hn:4000002<=n):∃b,ES n lot=some b/\(b=true->lot.area.length<=4):=by
 unfold ES;by_cases h:(lot.area.length:Int)>4
 .simp only[h,decide_true,aj];exact⟨false,rfl,λh=>(by cases h)⟩
 .obtain⟨r,hr⟩:=amP (n:=n) (a:=lot.area) (by omega) (by omega);simp only[h,decide_false,ak,hr,af];have:∃b,((bif (!r.2)then some true else(bif (decide ((i64.wrap (r.1.x1 -r.1.x0))<=(4:Int)))then some true else some (decide ((i64.wrap (r.1.y1 -r.1.y0))<=(4:Int))))):J Bool)=some b:=dn ⟨_,rfl⟩ (dn ⟨_,rfl⟩ ⟨_,rfl⟩);obtain⟨b,hb⟩:=this;exact⟨b,hb,λ_=>by omega⟩
def lw(t:bR):bS:=bS.mk t.cm t.br t.bu t.az t.cx t.b9 t.cE t.ca
structure Lz(t:bR):Prop where
 land:t.land.length<=2/\∀l∈t.land,l.area.length<=4
 xy:t.co.length<=3/\∀e∈t.co,e.area.length<=4
 built:t.built.length<=6
theorem apM{t:bR}(hp:Pc (lw t))(hn:4000002<=n):∃b,UG n t=some b/\(b=true->GS (lw t)/\Lz t):=by
 have no:∃b,some false=some b/\(b=true->GS (lw t)/\Lz t):=⟨false,rfl,λh=>(by cases h)⟩;have⟨b,hb,hf⟩:=ahp hp hn;have hb':wM n (bS.mk t.cm t.br t.bu t.az t.cx t.b9 t.cE t.ca)=some b:=hb;unfold UG;rw[hb'];cases b with
 |false=>exact no
 |true=>
  simp only[af,Bool.not_true,ak];by_cases c1:(t.land.length:Int)>2
  .simp only[c1,decide_true,aj,af];exact no
  by_cases c2:(t.co.length:Int)>3
  .simp only[c1,c2,decide_true,decide_false,aj,ak,af];exact no
  by_cases c3:(t.built.length:Int)>6
  .simp only[c1,c2,c3,decide_true,decide_false,aj,ak,af];exact no
  simp only[c1,c2,c3,decide_false,ak,af];have s1:=XG (l:=t.land) (n:=n) (step:=EU n t) (good:=λl=>l.area.length<=4) (λ i hi=>by
   have⟨b,hb,h4⟩:=akx (n:=n) t.land[i] hn;simp only[EU,bJ hi,aj,bf hi,af,hb,aK i];cases b with
   |false=>exact .inl rfl
   |true=>exact .inr ⟨rfl,h4 rfl⟩) (by simp only[EU,bU,ak]) (by omega)
  have s2:=XG (l:=t.co) (n:=n) (step:=EW t) (good:=λe=>e.area.length<=4) (λ i hi=>by
   simp only[EW,bJ hi,aj,bf hi,af,aK i];by_cases c1:(t.co[i].area.length:Int)>4
   .simp only[c1,decide_true,aj];exact .inl rfl
   .simp only[c1,decide_false,ak];exact .inr ⟨trivial,by omega⟩) (by simp only[EW,bU,ak]) (by omega)
  rcases s1 with h |⟨h,g1⟩
  .simpa only[h,iL]using no
  rcases s2 with h2 |⟨h2,g2⟩
  .simpa only[h,h2,iL,eG]using no
  simp only[h,h2,eG];exact⟨true,rfl,λ_=>⟨hf rfl,⟨by omega,g1⟩,⟨by omega,g2⟩,by omega⟩⟩
theorem aoz{t:bR}{p:bS}(hz:Pc p)(hf:GS p)(ht:Lz t)(hr:∀l∈t.land,l.from_.length*8<=140737488355328):sN (oT t p) where
 lots:=λl hl=>⟨by have:=ht.land.2 l hl;omega,hr l hl⟩
 land:=by have:=ht.land.1;show t.land.length<=_;omega
 xy:=⟨by have:=ht.xy.1;show t.co.length<=_;omega,λe he=>by have:=ht.xy.2 e he;omega⟩
 built:=by have:=ht.built;show t.built.length<=_;omega
 zones:=by have:=hf.zones;show p.zones.length<=_;omega
 caps:=by have:=hf.caps;show p.caps.length<=_;omega
 rules:=by have:=hf.rules;show p.rules.length<=_;omega
 rule:=λr hr=>⟨hf.rule r hr,hz.rules r hr⟩
 plan:=⟨hz.defs,by have:=hf.tabs.1;show p.tables.length<=_;omega,λx hx=>by have:=hf.tabs.2 x hx;omega⟩
theorem amQ{t:bR}(ht:Lz t):LI t.land:=⟨λ l hl=>by have:=ht.land.2 l hl;omega,by have:=ht.land.1;omega⟩
def Hm(x y:bB):Bool:=(x.lot==(y.lot:Int))&&((x.use==(y.use:Int))&&((x.floors==(y.floors:Int))&&((x.iS==(y.iS:Int))&&true)))
theorem UM(x y:bB):Hm x y=true↔x=y:=by
 cases x;cases y;simp[Hm]
structure aqF(n:Nat)(t:bR)(l:List bS):Prop where
 land:LI t.land
 plans:∀p∈l,sN (oT t p)
 n:Oz n
theorem n42:Oz 5000003:=⟨aD _,by omega⟩
structure W6(t:bR):Prop where
 plan:Pc (lw t)
 zg:∀l∈t.land,l.from_.length*8<=140737488355328
theorem aoA{ab:U ByteArray}{name:ByteArray}{bad:Bool}(h:ab≠[]):addN ab name bad≠[]:=by
 unfold addN;cases (bad&&!(ab.any (lv name)))with
 |false=>exact h
 |true=>simp
def fW:U cK:=[cK.mk 1 0 [ax.mk 0 0 4 4] []]
def Do:bR:=bR.mk [] [] [] [] [] [] [] 0 fW [] [] [] []
def aqo(k:Int):bS:=bS.mk [] [] [] [(bI.mk (⟨#[97]⟩) ([]) ([]) 0 0 0 false 0 12 0 (⟨#[]⟩) (⟨#[]⟩) [(cB.mk 1 0 (⟨#[104,101,105,103,104,116]⟩) (⟨#[]⟩) ([])),(cB.mk 0 k (⟨#[]⟩) (⟨#[]⟩) ([]))] 0 0 0 0 0 0 0)] [] [] [] 0
theorem zh:LI Do.land:=⟨λ l hl=>by
 have hl:l∈fW:=hl;simp only[fW,aP]at hl;subst hl;decide,by show fW.length<=500;decide⟩
def pr:U bB:=(List.range 2).flatMap λ(i:Nat)=>(List.range 72).map λ(k:Nat)=>bB.mk 1 ((k%6:Nat):Int) ((k/6+1:Nat):Int) (i:Int)
def J0:Qw:=[(lu.mk 1 0,16),(lu.mk 1 1,4)]
theorem ai4:((ze 5000003 fW).1,(ze 5000003 fW).2.2)=(J0,pr):=by kernel_rfl
def dx:cK:=cK.mk 1 0 [ax.mk 0 0 4 4] []
def aqp(p:bB):bn:=(W8 5000003 fW p).1
set_option maxRecDepth 100000 in
theorem apN:(pr.all λp=>((jm 5000003 (iz (oT Do (aqo 0))) dx (aqp p)).bind λms=>(ms[4]?).map λe=>e.n)==some (p.floors*3))=true:=by kernel_rfl
def W5(e1 e2 e3 e4 e5 e6 e7 e8 e9:Int):U bW:=[⟨⟨#[97,114,101,97]⟩,e1⟩,⟨⟨#[99,111,118,101,114]⟩,e2⟩,⟨⟨#[102,108,111,111,114]⟩,e3⟩,⟨⟨#[102,108,111,111,114,115]⟩,e4⟩,⟨⟨#[104,101,105,103,104,116]⟩,e5⟩,⟨⟨#[104,111,109,101,115]⟩,e6⟩,⟨⟨#[114,117,110,111,102,102]⟩,e7⟩,⟨Dk,e8⟩,⟨⟨#[116,114,97,102,102,105,99]⟩,e9⟩]
def DA:U Int:=[1,2,3,4,5,6,7,8,9,10,11,12]
theorem ahq:(pr.all λp=>DA.contains p.floors)=true:=by kernel_rfl
theorem ae9:(ze 5000003 fW).1=J0:=congrArg Prod.fst ai4
theorem amU:(ze 5000003 fW).2.2=pr:=congrArg Prod.snd ai4
theorem OD{p:bB}:p∈fG 5000003 fW↔p∈pr:=by rw[(AP 5000003 fW).mem_iff,amU]
def W4(x y:bB):Bool:=Nz we J0 x y
theorem ai5(x:bB):W4 x x=false:=(WT we J0).irrefl x
theorem XH:List.Pairwise (α:=bB) (λ x y=>W4 y x=false) (fG 5000003 fW):=by
 have:=Np (α:=bB) (WT we (ze 5000003 fW).1) (ze 5000003 fW).2.2;rw[ae9]at this;have e:fG 5000003 fW=lq (α:=bB) (Nz we J0) (ze 5000003 fW).2.2:=by unfold fG;rw[ae9]
 rw[e];exact this
mutual
theorem aoB:∀g:cB,(toE g).wt<=kI (qY g)
 |⟨op,n,s,key,args⟩=>by
  have:=OE args;simp only[toE,ET.wt,qY,kI,ox];omega
theorem OE:∀l:List cB,ET.th (Ir l)<=Bc (tu l)
 |[]=>by simp[Ir,ET.th]
 |x::xs=>by
  have h1:=aoB x;have h2:=OE xs;simp only[Ir,ET.th,tu,Bc];omega
end
theorem Qz:∀l:U eu,rj (l.map toD)<=Bc (l.map Bh)
 |[]=>by simp[rj]
 |x::xs=>by
  have h1:=Qz xs;have h2:=OE x.eL;simp only[rj]at h1;simp only[aF,rj,List.foldr_cons,toD,ET.wt,Bc,Bh,kI,ox,<- tC];omega
theorem aky(t:bR):rj (t.cm.map toD)<=kI (JW t):=by
 have:=Qz t.cm;simp only[JW,kI,ox];omega
theorem XI{r:U Tree}:∀{l:U (List Tree)},r∈l->kI r<=Bc l
 |x::l,h=>by
  rw[Bc];rcases aO.1 h with rfl |h
  .omega
  .have:=XI h;omega
theorem akz(r:bI):(toE (iu r)).wt<=kI (vH r):=by
 have h:=OE r.gd;rw[tC]at h;simp only[iu,toE,ET.wt,vH,kI,ox];omega
theorem aaT:∀l:U Int,l.length<=Bc (l.map λy=>[Tree.sc (.int .i64 y)])
 |[]=>by simp
 |x::l=>by
  have:=aaT l;simp only[aF,Bc,kI,ox,bC];omega
theorem apO{t:bR}(h:kI (JW t)<=1048576):W6 t:=by
 have hd:=aky t;have hd2:=Qz t.cm;simp only[JW,kI,ox]at h;refine⟨⟨by show rj (t.cm.map toD)<=_;omega,λr hr=>?_⟩,λl hl=>?_⟩
 .have h1:=akz r;have h2:=XI (mem_map.2 ⟨r,hr,rfl⟩:vH r∈t.az.map vH);omega
 .have h1:=aaT l.from_;have h2:=XI (mem_map.2 ⟨l,hl,rfl⟩:Iq l∈t.land.map Iq);have h3:Bc (l.from_.map λy=>[Tree.sc (.int .i64 y)])<=kI (Iq l):=by simp only[Iq,kI,ox];omega
  omega
def Pa(p:bS)(r:(List Int)×bV×Bool):Prop:=r.2.2=true->∃i k:Nat,i<p.zones.length/\k<p.zones.length/\r.1=[(i:Int),(k:Int)]
theorem ahr{p:bS}(hz:p.zones.length<=100)(hn:4000002<=n):∃r,pF n p=some r/\Pa p r:=by
 have et:((p.zones.length:Int):Int).toNat=p.zones.length:=by omega
 have mk:xE (p.zones.length:Int) 24=true:=ab5 (by omega) (by simp only[maxLen];omega);have d1:decide ((p.zones.length:Int)<=(p.zones.length:Int))=true:=by simp
 have d2:decide (0<=(p.zones.length:Int))=true:=by simp
 obtain⟨w,h1,hwl,hwa⟩:=dI (step:=oN n p) (λ i (v:Int×List (List ax))=>v.1=(i:Int)/\i<=p.zones.length/\v.2.length=p.zones.length/\∀x∈v.2,x.length<=200) (λ o=>o.length=p.zones.length/\∀x∈o,x.length<=200) p.zones.length (λ k v h=>h.2.1) (by
  rintro i ⟨v,l⟩ ⟨hv,hi,hl,ha⟩;simp only at hv hl ha;subst hv;by_cases hlt:i<p.zones.length
  .have hil:i<l.length:=(by omega);simp only[oN,bJ hlt,aj,bf hlt,af,FP (n:=n) p.zones[i] (by omega),et,aU hlt,bX,aC,aW hil,aK i];cases p.zones[i].overlay with
   |true=>exact .inl ⟨_,rfl,rfl,hlt,hl,ha⟩
   |false=>
    refine .inl ⟨_,rfl,rfl,hlt,by simpa using hl,λx hx=>?_⟩;rcases List.mem_or_eq_of_mem_set hx with hx |rfl
    .exact ha x hx
    .exact Xq _
  .obtain rfl:i=p.zones.length:=(by omega);simp only[oN,bU,ak];exact .inr ⟨_,rfl,hl,ha⟩) n 0 ((0:Int),List.replicate p.zones.length []) ⟨rfl,Nat.zero_le _,by simp,λx hx=>by rw[(List.mem_replicate.1 hx).2];simp⟩ (by omega)
 have s3:∀i:Nat,i<p.zones.length->iter (jf n p w (i:Int)) n (((i+1:Nat):Int))=some (.inl ())\/∃r,iter (jf n p w (i:Int)) n (((i+1:Nat):Int))=some (.inr (.inr (.inr r)))/\Pa p r:=by
  intro i hi;obtain⟨o,g1,g2⟩:=AJ (step:=jf n p w (i:Int)) (λ v=>∃j:Nat,v=(j:Int)/\j<=p.zones.length) (λ o=>o= .inl ()\/∃r,o= .inr (.inr (.inr r))/\Pa p r) (λ v=>p.zones.length -v.toNat) (by
   rintro v ⟨j,rfl,hj⟩;by_cases hlt:j<p.zones.length
   .have hiw:i<w.length:=(by omega);have hjw:j<w.length:=(by omega);have l1:=hwa _ (getElem_mem hiw);have l2:=hwa _ (getElem_mem hjw);obtain⟨q,hq⟩:=Dj (n:=n) w[i] w[j] (by omega) (by omega) (by omega);simp only[jf,et,bJ hlt,aj,aU hi,aW hiw,aU hlt,aW hjw,af,hq,show ∀x y:Int,sub ([x,y]:U Int) 0 2=[x,y]from λ_ _=>rfl,bC,length_nil,Nat.zero_add,Nat.reduceAdd,aC,aK j];cases decide (AO w[i] w[j]>0)with
    |true=>exact .inr ⟨_,rfl,.inr ⟨_,rfl,λ_=>⟨i,j,hi,hlt,rfl⟩⟩⟩
    |false=>exact .inl ⟨_,rfl,⟨j+1,rfl,hlt⟩,by simp only[Int.toNat_natCast];omega⟩
   .obtain rfl:j=p.zones.length:=(by omega);simp only[jf,et,bU,ak];exact .inr ⟨_,rfl,.inl rfl⟩) n _ ⟨i+1,rfl,hi⟩ (by omega)
  rcases g2 with rfl |⟨r,rfl,hr⟩
  .exact .inl g1
  .exact .inr ⟨r,g1,hr⟩
 obtain⟨o,g1,g2⟩:=dI (step:=oO n p w) (λ i (v:Int)=>v=(i:Int)/\i<=p.zones.length) (λ o=>o= .inl ()\/∃r,o= .inr r/\Pa p r) p.zones.length (λ k v h=>h.2) (by
  rintro i v ⟨rfl,hi⟩;by_cases hlt:i<p.zones.length
  .simp only[oO,et,bJ hlt,aj,aK i];rcases s3 i hlt with h |⟨r,h,hr⟩
   .rw[h];exact .inl ⟨_,rfl,rfl,hlt⟩
   .rw[h];exact .inr ⟨_,rfl,.inr ⟨r,rfl,hr⟩⟩
  .obtain rfl:i=p.zones.length:=(by omega);simp only[oO,et,bU,ak];exact .inr ⟨_,rfl,.inl rfl⟩) n 0 0 ⟨rfl,Nat.zero_le _⟩ (by omega)
 unfold pF;simp only[d1,d2,mk,Bool.and_self,aj,et,h1,af];rcases g2 with rfl |⟨r,rfl,hr⟩
 .rw[g1];exact⟨_,rfl,λh=>(by cases h)⟩
 .rw[g1];exact⟨r,rfl,hr⟩
def eS(t:bR)(day:Int):kg:=kg.mk t.cm t.br t.bu t.az t.cx t.b9 t.cE t.ca t.land t.co t.windows t.built t.base day
theorem ahs{t:bR}(day:Int)(ht:sN t)(hn:Oz n):∃g,fH n (eS t day)=some g/\g.length<=2/\∀f∈g,(f.kind=3\/f.kind=2)/\f.names.length<=4000001:=by
 obtain⟨hn1,hn2⟩:=hn;have hdl:=ht.plan.defs.len;have⟨o,ho,_,_,hol⟩:=FT (n:=n) (p:=lw t) ht.plan.defs hn1;obtain⟨r,hr,hq⟩:=ahr (n:=n) (p:=lw t) ht.zones (by omega);have ho':jE n (bS.mk (eS t day).ct (eS t day).b8 (eS t day).b7 (eS t day).ci (eS t day).cw (eS t day).cg (eS t day).cD (eS t day).cj)=some o:=ho;have hr':pF n (bS.mk (eS t day).ct (eS t day).b8 (eS t day).b7 (eS t day).ci (eS t day).cw (eS t day).cg (eS t day).cD (eS t day).cj)=some r:=hr;have ap0:bP 0 0 1 1 88=true:=cZ (by omega) (by simp only[maxLen];omega);have s1:∀x:aQ,sub ([x]:U aQ) 0 1=[x]:=λ_=>rfl;have hv1:∃v1:U aQ,((bif (o.2.2==(16:Int))then(ck (bP 0 0 1 1 88) (gV [(aQ.mk 3 0 o.2.1 0 0 0 0 0 0)] λr2=>ck (aE r2.length r2.length) (some r2)))else(ck (aE 0 ([]:U aQ).length) (some ([]:U aQ)))):J (List aQ))=some v1/\v1.length<=1/\∀f∈v1,f.kind=3/\f.names.length<=4000001:=by
  rw[ap0];cases (o.2.2==(16:Int))with
  |true=>exact⟨_,rfl,by simp,λf hf=>by simp only[aP]at hf;subst hf;exact⟨rfl,Nat.le_trans hol (Nat.succ_le_succ hdl)⟩⟩
  |false=>exact⟨[],rfl,by simp,λf hf=>by simp at hf⟩
 obtain⟨v1,e1,l1,k1⟩:=hv1;unfold fH;simp only[ho',af,s1,length_singleton,e1,hr'];cases hb:r.2.2 with
 |false=>simp only[ak,aC,aj,af,bX];exact⟨v1,rfl,by omega,λf hf=>⟨.inl (k1 f hf).1,(k1 f hf).2⟩⟩
 |true=>
  have⟨i,k,hi,hk,hik⟩:=hq hb;have loop:∃ns:U ByteArray,iter (gI (eS t day) r) n ((0:Int),(2:Int),(0:Int),(0:Int),(0:Int),(0:Int),(0:Int),r.2.1.x,r.2.1.y,([]:U ByteArray))=some ((2:Int),(0:Int),(0:Int),(0:Int),(0:Int),(0:Int),r.2.1.x,r.2.1.y,ns)/\ns.length<=2:=by
   have hl2:r.1.length=2:=(by rw[hik];rfl);obtain⟨o,g1,ns,rfl,g2⟩:=dI (step:=gI (eS t day) r) (λ j v=>∃ns:U ByteArray,v=((j:Int),(2:Int),(0:Int),(0:Int),(0:Int),(0:Int),(0:Int),r.2.1.x,r.2.1.y,ns)/\j<=2/\ns.length=j) (λ o=>∃ns:U ByteArray,o=((2:Int),(0:Int),(0:Int),(0:Int),(0:Int),(0:Int),r.2.1.x,r.2.1.y,ns)/\ns.length<=2) 2 (λ k v ⟨_,_,h,_⟩=>h) (by
    rintro j v ⟨ns,rfl,hj,hns⟩;by_cases hlt:j<r.1.length
    .have hz:∃z:Nat,r.1[j]=(z:Int)/\z<(eS t day).b7.length:=by
      have hj2:j=0\/j=1:=(by omega);rcases hj2 with rfl |rfl
      .exact⟨i,by simp[hik],hi⟩
      .exact⟨k,by simp[hik],hk⟩
     obtain⟨z,hz1,hz2⟩:=hz;have hap:bP ns.length ns.length 1 1 16=true:=cZ (by omega) (by simp only[maxLen];omega);simp only[gI,bJ hlt,aj,aU hlt,aW hlt,hz1,bf hz2,af,show ∀x:ByteArray,sub ([x]:U ByteArray) 0 1=[x]from λ_=>rfl,length_singleton,hap,dO,aC,aK j];exact .inl ⟨_,rfl,_,rfl,by omega,by simp[hns]⟩
    .have hj2:j=r.1.length:=(by omega);have hd:decide ((j:Int)<(r.1.length:Int))=false:=(by rw[hj2];exact bU _);simp only[gI,hd,ak,aC,aj];exact .inr ⟨_,rfl,ns,rfl,by omega⟩) n 0 ((0:Int),(2:Int),(0:Int),(0:Int),(0:Int),(0:Int),(0:Int),r.2.1.x,r.2.1.y,([]:U ByteArray)) ⟨[],rfl,by omega,rfl⟩ (by omega)
   exact⟨ns,g1,g2⟩
  obtain⟨ns,e2,hns⟩:=loop;have hz:aE 0 ([]:U ByteArray).length=true:=rfl;have ap1:bP v1.length v1.length 1 1 88=true:=cZ (by omega) (by simp only[maxLen];omega);simp only[aj,hz,e2,af,bX,aC,ap1,dO];refine⟨_,rfl,by simp;omega,λf hf=>?_⟩;rcases aZ.1 hf with hf |hf
  .exact⟨.inl (k1 f hf).1,(k1 f hf).2⟩
  .simp only[aP]at hf;subst hf;exact⟨.inr rfl,by show ns.length<=_;omega⟩
def xh(n:Nat)(t:bR):U aQ:=(fH n (eS t 0)).getD []
theorem UN{n:Nat}{t:bR}(day:Int)(ht:sN t)(hn:Oz n):fH n (eS t day)=some (xh n t)/\(xh n t).length<=2/\∀f∈xh n t,(f.kind=3\/f.kind=2)/\f.names.length<=4000001:=by
 have⟨g,h1,h2,h3⟩:=ahs (n:=n) (t:=t) 0 ht hn;have e:xh n t=g:=by unfold xh;rw[h1];rfl
 rw[e];exact⟨h1,h2,h3⟩
def qU(n:Nat)(lot:cK)(p:bB):bn:=bif Lg n lot p then Dl n lot p else bn.mk 0 []
theorem UO(n:Nat)(lot:cK)(p:bB):Tf (qU n lot p):=by
 unfold qU;cases Lg n lot p
 .exact amL
 .exact ai1 _ _ _
theorem amW{lot:cK}(ha:lot.area.length<=900)(hn:4000002<=n)(p:bB):Iy n lot p=some (qU n lot p):=by
 unfold Iy;rw[amK ha hn];unfold qU;cases Lg n lot p<;>rfl
def uG(n:Nat)(t:bR)(lot:cK)(day:Int):bB×Bool:=vB (fG n [lot]) λp=>zf n t (qU n lot p) day
theorem afa{t:bR}{lot:cK}{L:U bB}(day:Int)(ht:sN t)(ha:lot.area.length<=900)(hL:L.length<=756000)(hn:Oz n):iP n (eS t day) lot L=some (vB L λp=>zf n t (qU n lot p) day):=by
 have hn1:=hn.1;unfold iP;have hi:rQ n L (λ (y1:bB×Unit)=>iH n y1.1 (eS t day) lot)=some (wW (λ p=>zf n t (qU n lot p) day) L):=fJ (l:=L) (φ:=λ(y1:bB×Unit)=>iH n y1.1 (eS t day) lot) (λ p=>zf n t (qU n lot p) day) (λ p _=>by
  have By:mF n t (qU n lot p) day=some (zf n t (qU n lot p) day):=aow day ht (UO n lot p) hn;have HR:mF n (bR.mk (eS t day).ct (eS t day).b8 (eS t day).b7 (eS t day).ci (eS t day).cw (eS t day).cg (eS t day).cD (eS t day).cj (eS t day).eW (eS t day).c9 (eS t day).d5 (eS t day).dg (eS t day).fc) (qU n lot p) (eS t day).day=some (zf n t (qU n lot p) day):=By;simp only[iH,amW (n:=n) ha (by omega),af,HR]) (by omega) (by omega)
 rw[hi];simp only[af,ad9];unfold vB;cases hany:L.any λp=>zf n t (qU n lot p) day with
 |false=>
  have:L.find? (λ p=>zf n t (qU n lot p) day)=none:=List.find?_eq_none.2 λx hx hc=>List.any_eq_false.1 hany x hx hc;rw[this];rfl
 |true=>
  have⟨i,hi,e,hf⟩:=WJ hany;rw[e,hf];simp only[Bool.not_true,ak,bf hi,af]
theorem XJ(n:Nat)(lot:cK):(fG n [lot]).length<=1512:=by
 have h1:=(AP n [lot]).length_eq;have h2:=XF n [lot] ([],[],[]);have h3:(ze n [lot]).2.2.length<=1512*[lot].length:=by unfold ze;simpa using h2
 simp only[length_singleton]at h3;omega
theorem afb{t:bR}(id day:Int)(ht:sN t)(hl:LI t.land)(hn:Oz n):rR n t id day=some (match t.land.find? λx=>x.id==id with |some lot=>uG n t lot day |none=>(GT,false)):=by
 have hn1:=hn.1;have hl2:=hl.2;unfold rR;have hi:vv n t.land (λ (y1:cK×Unit)=>vP y1.1 id)=some (wW (λ x:cK=>x.id==id) t.land):=fJ (l:=t.land) (φ:=λ(y1:cK×Unit)=>vP y1.1 id) (λ x:cK=>x.id==id) (λ _ _=>rfl) (by omega) (by omega);rw[hi];simp only[af,ad9];cases hany:t.land.any λx:cK=>x.id==id with
 |false=>
  have:t.land.find? (λ x=>x.id==id)=none:=List.find?_eq_none.2 λx hx hc=>List.any_eq_false.1 hany x hx hc;rw[this];rfl
 |true=>
  have⟨i,hi,e,hf⟩:=WJ hany;have ha:=hl.1 _ (getElem_mem hi);have hsl:yG (i:Int) ((i+1:Nat):Int) t.land.length=true:=uY (by omega) (by omega) (by omega);have hsub:sub t.land (i:Int).toNat (((i+1:Nat):Int).toNat -(i:Int).toNat)=[t.land[i]]:=by
   have e1:(i:Int).toNat=i:=(by omega);have e2:((i+1:Nat):Int).toNat -i=1:=(by omega);rw[e1,e2];unfold sub;rw[List.drop_eq_getElem_cons hi];rfl
  have hP:=aaQ (n:=n) (land:=[t.land[i]]) (λ l hl=>by simp only[aP]at hl;subst hl;exact ha) (by simp) (by omega);have hle:=afa (n:=n) (t:=t) (lot:=t.land[i]) (L:=fG n [t.land[i]]) day ht ha (by have:=XJ n t.land[i];omega) hn;have hle':iP n (kg.mk t.cm t.br t.bu t.az t.cx t.b9 t.cE t.ca t.land t.co t.windows t.built t.base day) t.land[i] (fG n [t.land[i]])=some (uG n t t.land[i] day):=hle;rw[e,hf];simp only[Bool.not_true,ak,bf hi,af,aK i,hsl,aj,hsub,hP,bX,aC,hle',show decide ((i:Int)<0)=false from by simp]
def xT(lot:cK):aQ:=aQ.mk 0 lot.id [] 0 0 0 0 0 0
def Dm(n:Nat)(t:bR)(lot:cK)(day:Int):aQ:=match fG n [lot]with
 |[]=>aQ.mk 1 lot.id [] 0 0 0 0 0 0
 |p::_=>aQ.mk 1 lot.id (rD n t (qU n lot p) day) p.lot p.use p.floors p.iS 0 0
def jS(n:Nat)(t:bR)(lot:cK)(day:Int):aQ×Bool:=
 bif(applied t lot day).isEmpty then(xT lot,true)else bif(uG n t lot day).2 then(xT lot,false)else(Dm n t lot day,true)
theorem aoC{t:bR}{lot:cK}(day:Int)(ht:sN t)(ha:lot.area.length<=900)(hn:Oz n):lU n (eS t day) lot=some (jS n t lot day):=by
 have hn1:=hn.1;have hz:sG n (lw t) lot.area=some (iR t lot):=Ou _ _ ht.zones ha (by omega);have hz':sG n (bS.mk (eS t day).ct (eS t day).b8 (eS t day).b7 (eS t day).ci (eS t day).cw (eS t day).cg (eS t day).cD (eS t day).cj) lot.area=some (iR t lot):=hz;have hA:nL n (bS.mk (eS t day).ct (eS t day).b8 (eS t day).b7 (eS t day).ci (eS t day).cw (eS t day).cg (eS t day).cD (eS t day).cj) (iR t lot) (eS t day).day=some ((za t.az (iR t lot) day).map λ(i:Nat)=>(i:Int)):=FR _ _ _ (λ r hr=>(ht.rule r hr).1) ht.rules (Fh ht lot) (by omega);have hpick:(za t.az (iR t lot) day).filterMap (λ i=>t.az[i]?)=applied t lot day:=I6 (ni (iR t lot) day) t.az;have hempty:(((((za t.az (iR t lot) day).map λ(i:Nat)=>(i:Int)).length:Nat):Int)==(0:Int))=(applied t lot day).isEmpty:=by
  rw[List.length_map];cases hap:za t.az (iR t lot) day with
  |nil=>
   rw[hap]at hpick;rw[<- hpick];rfl
  |cons j l=>
   have hj:j∈za t.az (iR t lot) day:=(by rw[hap];simp);have h2:=(List.mem_filter.1 hj).2;obtain⟨r,hr⟩:∃r,t.az[j]? =some r:=by
    cases hc:t.az[j]? with
    |none=>rw[hc]at h2;cases h2
    |some r=>exact⟨r,rfl⟩
   have hmem:r∈applied t lot day:=by
    rw[<- hpick];exact List.mem_filterMap.2 ⟨j,hj,hr⟩
   have e1:((((j::l).length:Nat):Int)==0)=false:=(by simp;omega);rw[e1];cases hq:applied t lot day with
   |nil=>rw[hq]at hmem;simp at hmem
   |cons _ _=>rfl
 have hP:=aaQ (n:=n) (land:=[lot]) (λ l hl=>by simp only[aP]at hl;subst hl;exact ha) (by simp) (by omega);have hle:=afa (n:=n) (t:=t) (lot:=lot) (L:=fG n [lot]) day ht ha (by have:=XJ n lot;omega) hn;have hs1:sub [lot] 0 1=[lot]:=rfl;unfold lU jS;simp only[hz',af,bX,aC,aj,hA,hempty];cases (applied t lot day).isEmpty with
 |true=>rfl
 |false=>
  simp only[ak,hs1,length_singleton,aC,aj,hP,af,bX,hle];have hL:(vB (fG n [lot]) λp=>zf n t (qU n lot p) day)=uG n t lot day:=rfl;rw[hL];cases (uG n t lot day).2 with
  |true=>rfl
  |false=>
   simp only[ak,Dm];cases hq:fG n [lot]with
   |nil=>rfl
   |cons p l=>
    have hd:decide (((p::l).length:Int)>0)=true:=(by simp);have hB:=aaM (n:=n) (t:=t) (d:=qU n lot p) day ht (UO n lot p) hn;have hB':oI n (bR.mk (eS t day).ct (eS t day).b8 (eS t day).b7 (eS t day).ci (eS t day).cw (eS t day).cg (eS t day).cD (eS t day).cj (eS t day).eW (eS t day).c9 (eS t day).d5 (eS t day).dg (eS t day).fc) (qU n lot p) (eS t day).day=some (rD n t (qU n lot p) day,zL n t (qU n lot p)):=hB;simp only[hd,aj,show bo (p::l) 0=some p from rfl,af,amW (n:=n) ha (by omega),hB',aC,bX]
def FU(n:Nat)(t:bR)(day:Int)(lot:cK)(s:U (Int×Bool)×List aQ):U (Int×Bool)×List aQ:=
 bif(eY gj lot.id s.1).getD false then s else(o6 gj lot.id true s.1,bif(jS n t lot day).2 then s.2++[(jS n t lot day).1]else s.2)
def oQ(n:Nat)(t:bR)(day:Int):U aQ:=(t.land.foldl (λ s lot=>FU n t day lot s) ([],xh n t)).2
theorem aaU(n:Nat)(t:bR)(day:Int)(lot:cK)(s:U (Int×Bool)×List aQ):(FU n t day lot s).2.length<=s.2.length+1:=by
 unfold FU;cases (eY gj lot.id s.1).getD false with
 |true=>simp
 |false=>cases (jS n t lot day).2<;>simp
theorem AQ{t:bR}(day:Int)(ht:sN t)(hl:LI t.land)(hn:Oz n):fO n t day=some (oQ n t day):=by
 have hn1:=hn.1;have hl2:=hl.2;have⟨hg,hgl,_⟩:=UN (n:=n) (t:=t) day ht hn;have hg':fH n (kg.mk t.cm t.br t.bu t.az t.cx t.b9 t.cE t.ca t.land t.co t.windows t.built t.base day)=some (xh n t):=hg;have key:=fA (l:=t.land) (step:=ug n t day) (λ i (s:List (Int×Bool)×List aQ)=>((i:Int),s.1,s.2)) (λ lot s=>FU n t day lot s) (λ s=>s.2) (λ i s=>s.2.length<=i+2) (λ i hi s hs=>by
  refine⟨?_,by have:=aaU n t day t.land[i] s;omega⟩;have hlk:lU n (kg.mk t.cm t.br t.bu t.az t.cx t.b9 t.cE t.ca t.land t.co t.windows t.built t.base day) t.land[i]=some (jS n t t.land[i] day):=aoC day ht (hl.1 _ (getElem_mem hi)) hn;have hap:bP s.2.length s.2.length 1 1 88=true:=cZ (by omega) (by simp only[maxLen];omega);simp only[ug,bJ hi,aj,bf hi,af,FU];cases (eY gj t.land[i].id s.1).getD false with
  |true=>simp only[aj,aC,af,aK i]
  |false=>
   simp only[ak,hlk,af,show ∀x:aQ,sub ([x]:U aQ) 0 1=[x]from λ_=>rfl,length_singleton,hap,aj,dO,aC,aK i];cases (jS n t t.land[i] day).2<;>rfl) (λ s _=>by simp only[ug,bU,ak,aC,aj]) n (by omega) ([],xh n t) (by show(xh n t).length<=0+2;omega)
 unfold fO;have key':iter (ug n t day) n ((0:Int),([]:U (Int×Bool)),xh n t)=some (oQ n t day):=key;simp only[hg',af,aC,aj,key',bX]
theorem aaV{t:bR}(day:Int)(ht:sN t)(hn:Oz n):(oQ n t day).length<=t.land.length+2:=by
 have hg:=(UN (n:=n) (t:=t) day ht hn).2.1;have gen:∀(l:U cK)(s:U (Int×Bool)×List aQ),(l.foldl (λ s lot=>FU n t day lot s) s).2.length<=s.2.length+l.length:=by
  intro l
  induction l with
  |nil=>intro s;simp
  |cons a l ih=>
   intro s;have h1:=ih (FU n t day a s);have h2:=aaU n t day a s;rw[foldl_cons,bC];omega
 have:=gen t.land ([],xh n t);unfold oQ;simp only at this;omega
def Pl(land:U cK)(lot:cK):Prop:=∃j,∃hj:j<land.length,land[j]=lot/\∀i (hi:i<land.length),i<j->land[i].id≠lot.id
theorem Sk(k:Int):eY gj k ([]:U (Int×Bool))=none:=rfl
theorem XK(n:Nat)(t:bR)(day:Int):∀i,i<=t.land.length->∀s,s=(t.land.take i).foldl (λ s lot=>FU n t day lot s) (([],xh n t):U (Int×Bool)×List aQ)->
 (∀ f∈s.2,f∈xh n t\/∃lot,Pl t.land lot/\jS n t lot day=(f,true))/\(∀ f∈xh n t,f∈s.2)/\(∀ j (hj:j<t.land.length),j<i->(eY gj t.land[j].id s.1).getD false=true)/\
 (∀ k,(eY gj k s.1).getD false=true->∃j,∃hj:j<t.land.length,j<i/\t.land[j].id=k)/\
 (∀ j (hj:j<t.land.length),j<i->(∀ q (hq:q<t.land.length),q<j->t.land[q].id≠t.land[j].id)->(jS n t t.land[j] day).2=true->(jS n t t.land[j] day).1∈s.2)
 | 0,_,s,hs=>by
  simp only[List.take_zero,List.foldl_nil]at hs;subst hs;exact⟨λ f hf=> .inl hf,λf hf=>hf,λj _ h=>absurd h (by omega),λk hk=>(by rw[Sk]at hk;cases hk),λj _ h=>absurd h (by omega)⟩
 |i+1,hi,s,hs=>by
  have hi':i<t.land.length:=by omega
  rw[iJ hi',List.foldl_append]at hs;obtain⟨a1,a2,a3,a4,a5⟩:=XK n t day i (by omega) _ rfl;generalize (t.land.take i).foldl (λ s lot=>FU n t day lot s) (([],xh n t):U (Int×Bool)×List aQ)=u at a1 a2 a3 a4 a5 hs;simp only[foldl_cons,List.foldl_nil]at hs;cases hb:(eY gj t.land[i].id u.1).getD false with
  |true=>
   have e:s=u:=(by rw[hs];unfold FU;rw[hb];rfl);subst e;refine⟨a1,a2,λj hj hji=>?_,λk hk=>?_,λj hj hji q7 hlk=>?_⟩
   .rcases Nat.lt_or_ge j i with h |h
    .exact a3 j hj h
    .obtain rfl:j=i:=(by omega);exact hb
   .have⟨j,hj,h1,h2⟩:=a4 k hk;exact⟨j,hj,by omega,h2⟩
   .rcases Nat.lt_or_ge j i with h |h
    .exact a5 j hj h q7 hlk
    .obtain rfl:j=i:=(by omega);obtain⟨q,hq,h1,h2⟩:=a4 _ hb;exact absurd h2 (q7 q hq h1)
  |false=>
   have e:s=(o6 gj t.land[i].id true u.1,bif(jS n t t.land[i] day).2 then u.2++[(jS n t t.land[i] day).1]else u.2):=(by rw[hs];unfold FU;rw[hb];rfl);have q7:∀q (hq:q<t.land.length),q<i->t.land[q].id≠t.land[i].id:=λq hq hqi h=>by
    have:=a3 q hq hqi;rw[h,hb]at this;cases this
   have e2:∀f,f∈s.2↔f∈u.2\/((jS n t t.land[i] day).2=true/\f=(jS n t t.land[i] day).1):=by
    intro f;rw[e];cases (jS n t t.land[i] day).2<;>simp
   have e1:∀k,eY gj k s.1=if k=t.land[i].id then some true else eY gj k u.1:=λk=>by rw[e];exact Qx k _ true _
   refine⟨λ f hf=>?_,λf hf=>(e2 f).2 (.inl (a2 f hf)),λj hj hji=>?_,λk hk=>?_,λj hj hji hfj hlk=>?_⟩
   .rcases (e2 f).1 hf with hf |⟨h1,rfl⟩
    .exact a1 f hf
    .exact .inr ⟨t.land[i],⟨i,hi',rfl,λq hq hqi=>q7 q hq hqi⟩,by rw[<- h1]⟩
   .rw[e1];by_cases h:t.land[j].id=t.land[i].id
    .rw[aX h];rfl
    .rw[aS h];exact a3 j hj (by
      rcases Nat.lt_or_ge j i with h' |h'
      .exact h'
      .obtain rfl:j=i:=(by omega);exact absurd rfl h)
   .rw[e1]at hk;by_cases h:k=t.land[i].id
    .exact⟨i,hi',by omega,h.symm⟩
    .rw[aS h]at hk;have⟨j,hj,h1,h2⟩:=a4 k hk;exact⟨j,hj,by omega,h2⟩
   .rcases Nat.lt_or_ge j i with h |h
    .exact(e2 _).2 (.inl (a5 j hj h hfj hlk))
    .obtain rfl:j=i:=(by omega);exact(e2 _).2 (.inr ⟨hlk,rfl⟩)
theorem aaW{t:bR}{day:Int}{f:aQ}(h:f∈oQ n t day):f∈xh n t\/∃lot,Pl t.land lot/\jS n t lot day=(f,true):=
 (XK n t day t.land.length (aD _) _ rfl).1 f (by rw[List.take_length];exact h)
theorem akA{t:bR}{day:Int}{lot:cK}(h:Pl t.land lot)(h2:(jS n t lot day).2=true):(jS n t lot day).1∈oQ n t day:=by
 obtain⟨j,hj,rfl,hf⟩:=h;have:=(XK n t day t.land.length (aD _) _ rfl).2.2.2.2 j hj hj (λ q hq hqj=>hf q hq hqj) h2;rw[List.take_length]at this;exact this
theorem aht(l:U ByteArray)(hl:l.length<=4000001)(hn:4000003<=n):J6 n l l=some true:=by
 unfold J6;have e:((l.length:Int) !=(l.length:Int))=false:=by simp
 have key:=qf (step:=xW l l) (λ i=>(i:Int)) (s:=(0:Int)) l.length (.inl ()) rfl (λ i hi=>by
  have be:(ByteArray.toList l[i]==ByteArray.toList l[i])=true:=by simp
  simp only[xW,bJ hi,aj,bf hi,af,be,Bool.not_true,ak,aK i]) (by simp only[xW,bU,ak]) n (by omega)
 rw[e,key];rfl
theorem QA(l:U aQ)(hl:l.length<=1000)(hm:∀f∈l,f.names.length<=4000001)(hn:4000003<=n):C9 n l l=some true:=by
 unfold C9;have e:((l.length:Int) !=(l.length:Int))=false:=by simp
 have key:=qf (step:=Av n l l) (λ i=>(i:Int)) (s:=(0:Int)) l.length (.inl ()) rfl (λ i hi=>by
  have ne:∀x:Int,(x !=x)=false:=λx=>by simp
  have be:∀x:Int,(x==x)=true:=λx=>by simp
  simp only[Av,bJ hi,aj,bf hi,af,ne,be,Bool.and_self,Bool.not_true,ak,aht _ (hm _ (getElem_mem hi)) hn,aK i]) (by simp only[Av,bU,ak]) n (by omega)
 rw[e,key];rfl
structure aqE(F:Int->List aQ)(fr to:Int)(r:Int×Bool):Prop where
 some:r.2=true->fr<=r.1/\r.1<=to/\F r.1≠[]/\(r.1=fr\/F (r.1 -1)=[]/\F fr=[])
 none:r.2=false->r.1=0/\∀d,fr<=d->d<=to->F d=[]
theorem akB(t:bR):oT t (lw t)=t:=by cases t;rfl
theorem akC{t:bR}(ht:W6 t)(hf:GS (lw t))(hF:Lz t):sN t:=by
 have:=aoz ht.plan hf hF ht.zg
 rwa [akB]at this
def amX:ByteArray:=⟨#[99,111,114,101]⟩
def Mz:dJ:=dJ.mk (⟨#[99,111,114,101]⟩) false [(bV.mk 0 0),(bV.mk 9 0),(bV.mk 9 9),(bV.mk 0 9)]
def Za(zs:U ByteArray)(u k:Int):bI:=bI.mk (⟨#[97]⟩) zs ([]) 0 u 0 false 0 12 0 (⟨#[]⟩) (⟨#[]⟩) [(cB.mk 1 0 (⟨#[104,101,105,103,104,116]⟩) (⟨#[]⟩) ([])),(cB.mk 0 k (⟨#[]⟩) (⟨#[]⟩) ([]))] 0 0 0 0 0 0 0
def aqr:bI:=bI.mk (⟨#[97]⟩) ([]) ([]) 0 0 0 false 0 0 1 (⟨#[]⟩) (⟨#[]⟩) ([]) 0 0 0 0 0 0 0
def aqs:U eu:=[(eu.mk (⟨#[120]⟩) 1 0 (⟨#[121]⟩) (⟨#[]⟩) ([])),(eu.mk (⟨#[121]⟩) 1 0 (⟨#[120]⟩) (⟨#[]⟩) ([]))]
def xF(d:U eu)(r:bI):bR:=bR.mk d [] [Mz] [r] [] [] [] 0 fW [] [] [] []
theorem amY(r:bI):yR r=some (xF [] r):=rfl
def sn:bR:=xF [] (Za [⟨#[99,111,114,101]⟩] 0 6)
def JT:bR:=xF [] (Za [⟨#[114,105,109]⟩] 0 6)
def Ja:bR:=xF [] (Za [] 0 2)
def gE:bR:=xF [] (Za [] 9 6)
def Fo:bR:=xF aqs aqr
theorem XL{d:U eu}{r:bI}(hd:ia d)(hr:Qs r/\(toE (iu r)).wt<=4000000):sN (xF d r) where
 lots:=λl hl=>by
  have hl:l∈fW:=hl;simp only[fW,aP]at hl;subst hl;exact⟨by decide,by decide⟩
 land:=by show fW.length<=1000;decide
 xy:=⟨Nat.zero_le _,λe he=>by have he:e∈([]:U kM):=he;simp at he⟩
 built:=Nat.zero_le _
 zones:=by show 1<=100;decide
 caps:=Nat.zero_le _
 rules:=by show 1<=100;decide
 rule:=λx hx=>by
  have hx:x∈[r]:=hx;rw[aP.1 hx];exact hr
 plan:=⟨hd,⟨Nat.zero_le _,λx hx=>by have hx:x∈([]:U dh):=hx;simp at hx⟩⟩
theorem Pi:ia []:=Nat.le_of_ble_eq_true (by kernel_rfl)
theorem ai7:sN sn:=XL Pi ⟨⟨by decide,by decide⟩,Nat.le_of_ble_eq_true (by kernel_rfl)⟩
theorem aoE:sN JT:=XL Pi ⟨⟨by decide,by decide⟩,Nat.le_of_ble_eq_true (by kernel_rfl)⟩
theorem aoF:sN Ja:=XL Pi ⟨⟨by decide,by decide⟩,Nat.le_of_ble_eq_true (by kernel_rfl)⟩
theorem ai8:sN gE:=XL Pi ⟨⟨by decide,by decide⟩,Nat.le_of_ble_eq_true (by kernel_rfl)⟩
theorem aoG:sN Fo:=XL (Nat.le_of_ble_eq_true (by kernel_rfl)) ⟨⟨by decide,by decide⟩,Nat.le_of_ble_eq_true (by kernel_rfl)⟩
def Fj:bB:=bB.mk 1 0 1 1
theorem am0:xh 5000003 sn=[]:=by kernel_rfl
theorem am1:xh 5000003 JT=[]:=by kernel_rfl
theorem am2:xh 5000003 Ja=[]:=by kernel_rfl
theorem afc:xh 5000003 gE=[]:=by kernel_rfl
theorem am3:xh 5000003 Fo=[aQ.mk 3 0 [⟨#[120]⟩,⟨#[121]⟩] 0 0 0 0 0 0]:=by kernel_rfl
theorem aoH:(applied sn dx 0).isEmpty=false:=by kernel_rfl
theorem aoI:(applied JT dx 0).isEmpty=true:=by kernel_rfl
theorem ai9:applied Ja dx 0=[Za [] 0 2]:=by kernel_rfl
theorem am4:(applied gE dx 0).isEmpty=false:=by kernel_rfl
theorem am5:(applied gE dx 8).isEmpty=false:=by kernel_rfl
theorem am6:(applied gE dx 9).isEmpty=true:=by kernel_rfl
theorem aoJ:(applied Fo dx 0).isEmpty=false:=by kernel_rfl
theorem aja:zf 5000003 sn (qU 5000003 dx Fj) 0=true:=by kernel_rfl
theorem am7:zf 5000003 gE (qU 5000003 dx Fj) 0=true:=by kernel_rfl
theorem am8:zf 5000003 gE (qU 5000003 dx Fj) 8=true:=by kernel_rfl
theorem aoK:zf 5000003 Fo (qU 5000003 dx Fj) 0=true:=by kernel_rfl
theorem aoL:rD 5000003 Ja (qU 5000003 dx Fj) 0=[⟨#[97]⟩]:=by kernel_rfl
theorem apP:iR Ja dx=[amX]:=by kernel_rfl
theorem am9:Au 5000003 (lw gE) 0=some (9,true):=by kernel_rfl
theorem ana(e1 e2 e3 e4 e6 e7 e8 e9:Int):(DA.all λf=>(tV 5000003 (iz Ja) (W5 e1 e2 e3 e4 (f*3) e6 e7 e8 e9) [amX] (iu (Za [] 0 2))==some 0))=true:=by kernel_rfl
theorem ajb:(pr.all λp=>Hm p Fj || W4 Fj p)=true:=by kernel_rfl
theorem yA{t:bR}{lot:cK}{day:Int}(h:t.land=[lot]):oQ n t day=bif(jS n t lot day).2 then xh n t++[(jS n t lot day).1]else xh n t:=by
 unfold oQ;rw[h];simp only[foldl_cons,List.foldl_nil,FU,Sk,Option.getD_none,ak]
theorem Kg{t:bR}{day:Int}(h:zf 5000003 t (qU 5000003 dx Fj) day=true):uG 5000003 t dx day=(Fj,true):=by
 have hin:∀p∈fG 5000003 fW,p∈pr:=λp hp=>OD.1 hp;have hs:=XH;have hmem:Fj∈fG 5000003 fW:=OD.2 (by
  have:(pr.any λp=>Hm p Fj)=true:=by kernel_rfl
  obtain⟨p,hp,he⟩:=any_eq_true.1 this;rw[UM]at he;rw[<- he];exact hp)
 show vB (fG 5000003 fW) (λ p=>zf 5000003 t (qU 5000003 dx p) day)=_;generalize fG 5000003 fW=L at hin hs hmem;rcases aco L (λ p=>zf 5000003 t (qU 5000003 dx p) day)with ⟨p,hf,hr,hp,hq⟩ |⟨_,hn⟩
 .have:=all_eq_true.1 ajb p (hin p hp);rw[Bool.or_eq_true]at this;rcases this with h' |h'
  .rw[UM]at h';rw[hr,h']
  .exfalso;obtain⟨_,i,hi,rfl,hbef⟩:=List.find?_eq_some_iff_getElem.1 hf;obtain⟨j,hj,SR⟩:=List.getElem_of_mem hmem;rcases Nat.lt_trichotomy i j with hij |hij |hij
   .rw[List.pairwise_iff_getElem]at hs;have:=hs i j hi hj hij;rw[SR,h']at this;cases this
   .subst hij;rw[SR,ai5]at h';cases h'
   .have:=hbef j hij;rw[SR,h]at this;cases this
 .have:=hn Fj hmem;rw[h]at this;cases this
theorem anb:∃l,fG 5000003 fW=Fj::l:=by
 have hin:∀p∈fG 5000003 fW,p∈pr:=λp hp=>OD.1 hp;have hs:=XH;have hmem:Fj∈fG 5000003 fW:=OD.2 (by
  have:(pr.any λp=>Hm p Fj)=true:=by kernel_rfl
  obtain⟨p,hp,he⟩:=any_eq_true.1 this;rw[UM]at he;rw[<- he];exact hp)
 generalize fG 5000003 fW=L at hin hs hmem;cases L with
 |nil=>simp at hmem
 |cons p l=>
  have:=all_eq_true.1 ajb p (hin p (by simp));rw[Bool.or_eq_true]at this;rcases this with h' |h'
  .rw[UM]at h';exact⟨l,by rw[h']⟩
  .rcases aO.1 hmem with h |h
   .rw[<- h,ai5]at h';cases h'
   .rw[List.pairwise_cons]at hs;have:=hs.1 _ h;rw[h']at this;cases this
theorem ane{p:bB}(hp:p∈fG 5000003 [dx]):zf 5000003 Ja (qU 5000003 dx p) 0=false:=by
 have hpR:p∈pr:=OD.1 hp;have⟨lot,hof⟩:=akv hp;have vj:lot=dx:=by
  have:=List.mem_of_find?_eq_some hof.Up;simpa using this
 subst vj;have hfits:=aov hof;have hd:qU 5000003 dx p=Dl 5000003 dx p:=by unfold qU;rw[hfits];rfl
 have hD:aqp p=Dl 5000003 dx p:=by
  show(W8 5000003 [dx] p).1=_;unfold W8;rw[hof.Up];simp only[hfits,aj]
 have hpl:p.lot=1:=by
  have:=hof.Up;obtain⟨i,k,_,_,_,hpk⟩:=hof.ex;rw[hpk];rfl
 rw[hd];unfold zf;cases S0:(zL 5000003 Ja (Dl 5000003 dx p)==0)with
 |false=>rfl
 |true=>
  rw[Bool.true_and];have h2:=all_eq_true.1 apN p hpR;rw[hD]at h2;have hLD:Tf (Dl 5000003 dx p):=ai1 _ _ _;have hlt:nS Ja (Dl 5000003 dx p)=dx:=by
   show(mR fW p.lot).1=_;rw[hpl];rfl
  obtain⟨e1,e2,e3,e4,e5,e6,e7,e8,B8⟩:=amx (n:=5000003) (p:=iz Ja) (lot:=dx) (d:=Dl 5000003 dx p) ⟨Nat.zero_lt_succ _,Nat.zero_le _,λx hx=>by have hx:x∈([]:U dh):=hx;simp at hx⟩ (by decide) hLD.1 (by omega);have hms:jm 5000003 (iz (oT Do (aqo 0))) dx (Dl 5000003 dx p)=some (W5 e1 e2 e3 e4 e5 e6 e7 (wQ (oq dx) (fP (Dl 5000003 dx p))) e8):=B8 [] [] [] [] [] [] 0;have hmD:jm 5000003 (iz Ja) dx (Dl 5000003 dx p)=some (W5 e1 e2 e3 e4 e5 e6 e7 (wQ (oq dx) (fP (Dl 5000003 dx p))) e8):=B8 [] [Mz] [] [] [] [] 0;have h5:e5=p.floors*3:=by
   rw[hms,beq_iff_eq]at h2;have:some e5=some (p.floors*3):=h2;injection this
  have hfl:p.floors∈DA:=by have:=all_eq_true.1 ahq p hpR;simpa using this
  have hev:=all_eq_true.1 (ana e1 e2 e3 e4 e6 e7 (wQ (oq dx) (fP (Dl 5000003 dx p))) e8) p.floors hfl;rw[beq_iff_eq,<- h5]at hev;have hb:OA 5000003 Ja dx (Dl 5000003 dx p) (Za [] 0 2)=true:=by
   have ht:GW 5000003 Ja dx (Dl 5000003 dx p) (Za [] 0 2)=true:=by
    unfold GW;rw[hmD,apP];simp only[af,hev,Option.getD_some];rfl
   unfold OA;exact ht
  unfold rD Br;rw[S0,hlt,ai9];simp only[foldl_cons,List.foldl_nil,hb,aj];exact decide_eq_false (aoA (by rw[show addN [] (Za [] 0 2).name true=[⟨#[97]⟩]from rfl];simp))
theorem apQ:fO 5000003 sn 0=some []:=by
 rw[AQ 0 ai7 zh n42,yA (lot:=dx) rfl];unfold jS;rw[aoH,Kg aja,am0];rfl
theorem apR:fO 5000003 JT 0=some [xT dx]:=by
 rw[AQ 0 aoE zh n42,yA (lot:=dx) rfl];unfold jS;rw[aoI,am1];rfl
theorem apS:fO 5000003 Ja 0=some [aQ.mk 1 1 [⟨#[97]⟩] 1 0 1 1 0 0]:=by
 rw[AQ 0 aoF zh n42,yA (lot:=dx) rfl];have hl:uG 5000003 Ja dx 0=(GT,false):=ae5 λp hp=>ane hp;have hdf:Dm 5000003 Ja dx 0=aQ.mk 1 1 [⟨#[97]⟩] 1 0 1 1 0 0:=by
  obtain⟨l,hl⟩:=anb;have hl':fG 5000003 [dx]=Fj::l:=hl;unfold Dm;rw[hl'];simp only[aoL];rfl
 unfold jS;rw[ai9,hl,hdf,am2];rfl
theorem anf(day:Int)(h1:(applied gE dx day).isEmpty=false)(h2:zf 5000003 gE (qU 5000003 dx Fj) day=true):fO 5000003 gE day=some []:=by
 rw[AQ day ai8 zh n42,yA (lot:=dx) rfl];unfold jS;rw[h1,Kg h2,afc];rfl
theorem ajc:fO 5000003 gE 9=some [xT dx]:=by
 rw[AQ 9 ai8 zh n42,yA (lot:=dx) rfl];unfold jS;rw[am6,afc];rfl
theorem apT:fO 5000003 Fo 0=some [aQ.mk 3 0 [⟨#[120]⟩,⟨#[121]⟩] 0 0 0 0 0 0]:=by
 rw[AQ 0 aoG zh n42,yA (lot:=dx) rfl];unfold jS;rw[aoJ,Kg aoK,am3];rfl
theorem aqt:rR 5000003 sn 1 0=some (Fj,true):=by
 rw[afb 1 0 ai7 zh n42];have:(sn.land.find? λx=>x.id==1)=some dx:=rfl;rw[this];simp only[Kg aja]
theorem aqu:J5 5000003 gE 0 20=some (9,true):=by
 unfold J5;have s1:nQ 5000003 gE 20 ((0:Int),true)=some (.inl ((9:Int),true)):=by
  have hd:decide ((0:Int)<=20)=true:=rfl;have hN:Au 5000003 (bS.mk gE.cm gE.br gE.bu gE.az gE.cx gE.b9 gE.cE gE.ca) 0=some (9,true):=am9;simp only[nQ,aj,hd,af,anf 0 am4 am7,hN];rfl
 have s2:nQ 5000003 gE 20 ((9:Int),true)=some (.inr (.inr ((9:Int),true))):=by
  have hd:decide ((9:Int)<=20)=true:=rfl;simp only[nQ,aj,hd,af,ajc];rfl
 have h1:iter (nQ 5000003 gE 20) (5000002+1) ((0:Int),true)=some (.inr ((9:Int),true)):=by
  rw[gY s1];exact fD (n:=5000001) s2
 have h2:iter (nQ 5000003 gE 20) 5000003 ((0:Int),true)=some (.inr ((9:Int),true)):=h1;rw[h2];rfl
theorem aoM:Da 5000003=some true:=by
 have a1:=apQ;have a2:=apR;have a3:=apS;have a4:=anf 8 am5 am8;have a5:=ajc;have a6:=apT;have a7:=aqt;have a8:=aqu;have b1:=QA (n:=5000003) [xT dx] (by simp) (λ f hf=>by simp only[aP]at hf;subst hf;simp[xT]) (by omega);have b2:=QA (n:=5000003) [aQ.mk 1 1 [⟨#[97]⟩] 1 0 1 1 0 0] (by simp) (λ f hf=>by simp only[aP]at hf;subst hf;simp) (by omega);have b3:=QA (n:=5000003) [aQ.mk 3 0 [⟨#[120]⟩,⟨#[121]⟩] 0 0 0 0 0 0] (by simp) (λ f hf=>by simp only[aP]at hf;subst hf;simp) (by omega);have c1:∀k:Int,u7 k=some (cB.mk 12 0 (⟨#[]⟩) (⟨#[]⟩) [(cB.mk 1 0 (⟨#[104,101,105,103,104,116]⟩) (⟨#[]⟩) ([])),(cB.mk 0 k (⟨#[]⟩) (⟨#[]⟩) ([]))]):=λ_=>rfl;have s1:∀r:ByteArray,sub [r] 0 1=[r]:=λ_=>rfl;have s2:∀r:aQ,sub [r] 0 1=[r]:=λ_=>rfl;have s3:∀x y:eu,sub [x,y] 0 2=[x,y]:=λ_ _=>rfl;have s4:∀x y:ByteArray,sub [x,y] 0 2=[x,y]:=λ_ _=>rfl;simp only[sn,JT,Ja,gE,Fo,xF,Za,aqr,aqs,Mz,Fj,xT,dx]at a1 a2 a3 a4 a5 a6 a7 a8 b1;simp only[Da,c1,amY,xF,Mz,af,s1,s2,s3,s4,length_singleton,bC,length_nil,Nat.zero_add,Nat.reduceAdd,aC,aj,a1,a2,a3,a4,a5,a6,a7,a8,b1,b2,b3];rfl
def Ku:bI:=bI.mk (⟨#[97,110,121]⟩) ([]) ([]) 0 0 0 false 0 0 1 (⟨#[]⟩) (⟨#[]⟩) ([]) 0 0 0 0 0 0 0
def jT(t:bR):bR:=bR.mk t.cm t.br t.bu (t.az++[Ku]) t.cx t.b9 t.cE t.ca t.land t.co t.windows t.built t.base
theorem akE:C8 5000003 (iu Ku)=some true:=by kernel_rfl
theorem akF(a0:U eu)(a1:U dh)(a2:U dJ)(a3:U bI)(a4:U gq)(a5:U fq)(a6:U cu)(a7:Int)(a8:U ByteArray)(kn:U (ByteArray×Int)):fE 5000003 a0 a1 a2 a3 a4 a5 a6 a7 a8 (iu Ku) kn=some (1,kn):=by kernel_rfl
theorem ang{p:bS}{ms:U bW}{zs:U ByteArray}(hp:PA p)(hm:ms.length<=4000000)(hz:zs.length<=4000000):tV 5000003 p ms zs (iu Ku)=some 1:=by
 obtain⟨kn,ab,h1,_⟩:=Ff (n:=5000003) hp hm hz (by omega) (by omega);simp only[tV,wR,akE,af,Bool.not_true,ak,h1,akF]
theorem ajd{t:bR}{lot:cK}{d:bn}(ht:sN t)(hl:lot.area.length<=900)(hd:Tf d):OA 5000003 t lot d Ku=false:=by
 have htb:=ht.plan.tabs;have hz:=Fh ht lot;obtain⟨e1,e2,e3,e4,e5,e6,e7,e8,B8⟩:=ao7 (n:=5000003) (p:=iz t) (lot:=lot) (d:=d) ⟨by have:=htb.1;omega,by have:=htb.1;omega,λx hx=>by have:=htb.2 x hx;omega⟩ hl hd.1 (by omega);have h2:jm 5000003 (iz t) lot d=_:=B8 [];have ht':GW 5000003 t lot d Ku=false:=by
  unfold GW;rw[h2];simp only[af];rw[ang ht.plan (by simp) (by omega)];rfl
 unfold OA;exact ht'
theorem Sl{t:bR}{lot:cK}{day:Int}(h:0<=day):applied (jT t) lot day=applied t lot day++[Ku]:=by
 have hz:iR (jT t) lot=iR t lot:=rfl;have ha:ni (iR t lot) day Ku=true:=by
  have e:ni (iR t lot) day Ku=(decide ((0:Int)<=day)&&true):=rfl;rw[e];simp[h]
 unfold applied;rw[hz];show(t.az++[Ku]).filter _=_;rw[List.filter_append,List.filter_cons,aX ha];rfl
theorem anh{t:bR}(ht:sN t)(h:t.az.length<=99):sN (jT t) where
 lots:=ht.lots
 land:=ht.land
 xy:=ht.xy
 built:=ht.built
 zones:=ht.zones
 caps:=ht.caps
 rules:=by show(t.az++[Ku]).length<=100;simp;omega
 rule:=λr hr=>by
  have hr:r∈t.az++[Ku]:=hr;rcases aZ.1 hr with hr |hr
  .exact ht.rule r hr
  .rw[aP.1 hr];exact⟨⟨by decide,by decide⟩,Nat.le_of_ble_eq_true (by kernel_rfl)⟩
 plan:=⟨ht.plan.defs,ht.plan.tabs⟩
theorem XM{t:bR}{d:bn}{day:Int}(ht:sN t)(hd:Tf d)(h:0<=day):rD 5000003 (jT t) d day=rD 5000003 t d day:=by
 have hw:=Qt ht.lots d.lot;have he:zL 5000003 (jT t) d=zL 5000003 t d:=rfl;have hl:nS (jT t) d=nS t d:=rfl;have hea:LL (jT t) d=LL t d:=rfl;have hr:Br 5000003 (jT t) (nS t d) d (applied t (nS t d) day++[Ku])=Br 5000003 t (nS t d) d (applied t (nS t d) day):=by
  have hb:OA 5000003 (jT t) (nS t d) d Ku=false:=ajd (t:=t) ht hw.1 hd;have hf:(λ (ab:List ByteArray) (r:bI)=>addN ab r.name (OA 5000003 (jT t) (nS t d) d r))=λab r=>addN ab r.name (OA 5000003 t (nS t d) d r):=rfl;unfold Br;rw[List.foldl_append,hf];simp only[foldl_cons,List.foldl_nil];rw[show OA 5000003 t (nS t d) d Ku=false from ajd ht hw.1 hd];rfl
 unfold rD;rw[he,hl,Sl h,hr,hea]
theorem aoN{t:bR}{d:bn}{day:Int}(ht:sN t)(hd:Tf d)(h:0<=day):zf 5000003 (jT t) d day=zf 5000003 t d day:=by
 have he:zL 5000003 (jT t) d=zL 5000003 t d:=rfl;unfold zf;rw[he,XM ht hd h]
theorem akG{t:bR}{lot:cK}{day:Int}(ht:sN t)(h:0<=day):uG 5000003 (jT t) lot day=uG 5000003 t lot day:=by
 unfold uG;exact acp λp _=>aoN ht (UO _ _ _) h
theorem ani{t:bR}{lot:cK}{day:Int}(ht:sN t)(h:0<=day):Dm 5000003 (jT t) lot day=Dm 5000003 t lot day:=by
 unfold Dm;cases fG 5000003 [lot]with
 |nil=>rfl
 |cons p l=>simp only[XM ht (UO _ _ _) h]
theorem afd{t:bR}{lot:cK}{day:Int}(ht:sN t)(h:0<=day):jS 5000003 (jT t) lot day=bif(uG 5000003 t lot day).2 then(xT lot,false)else(Dm 5000003 t lot day,true):=by
 unfold jS;rw[Sl h,akG ht h,ani ht h];have e:(applied t lot day++[Ku]).isEmpty=false:=by cases applied t lot day<;>rfl
 rw[e];rfl
theorem LU(n:Nat)(t:bR)(lot:cK)(day:Int):(Dm n t lot day).kind=1/\(Dm n t lot day).lot=lot.id:=by
 unfold Dm;cases fG n [lot]<;>exact⟨rfl,rfl⟩
theorem afe{land:U cK}{lot:cK}(h:Pl land lot):land.find? (λ x=>x.id==lot.id)=some lot:=by
 obtain⟨j,hj,rfl,hf⟩:=h;rw[List.find?_eq_some_iff_getElem];exact⟨by simp,j,hj,rfl,λi hi=>by have:=hf i (by omega) hi;simpa using this⟩
def Ln(x y:aQ):Bool:=(y.kind==(1:Int))&&((y.lot==(x.lot:Int))&&((y.fx==(x.fx:Int))&&((y.ft==(x.ft:Int))&&((y.ec==(x.ec:Int))&&((y.er==(x.er:Int))&&true)))))
theorem akH{r6:U aQ}{x:aQ}(hl:r6.length<=1000)(hn:2000<=n)(b:Bool):iter (lW r6 x) n (b,(0:Int))=some (b || r6.any (Ln x)):=by
 have key:=mW (l:=r6) (step:=lW r6 x) (λ i (s:Bool)=>(s,(i:Int))) (λ y s=>s || Ln x y) (λ s=>s) (λ i hi s=>by
  simp only[lW,bJ hi,aj,aU hi,aW hi,af,aK i];unfold Ln;cases s<;>cases (r6[i].kind==1)<;>cases (r6[i].lot==x.lot)<;>rfl) (λ s=>by simp only[lW,bU,ak]) n (by omega) b
 rw[show ((0:Nat):Int)=0 from rfl]at key;rw[key];congr 1;clear key hl
 induction r6 generalizing b with
 |nil=>simp
 |cons y l ih=>rw[foldl_cons,ih,List.any_cons,Bool.or_assoc]
def acy(t:bR)(day id:Int):bB×Bool:=match t.land.find? (λ (x:cK)=>x.id==id)with
 |some lot=>uG 5000003 t lot day
 |none=>(GT,false)
theorem Tg(hs:Da 5000003=some true)(t:bR)(day:Int)(ht:W6 t):uw 5000003 t day=some true:=by
 obtain⟨few,hf,SZ⟩:=apM (n:=5000003) (t:=t) ht.plan (by omega);unfold uw;rw[hs,hf];simp only[af];cases few with
 |false=>rfl
 |true=>
  have⟨f1,f2⟩:=SZ rfl;have hT:=akC ht f1 f2;have vl:=amQ f2;simp only[Bool.not_true,ak];by_cases c1:(t.az.length:Int)>4
  .simp only[c1,decide_true,aj,af]
  by_cases c2:day<0
  .simp only[c1,c2,decide_true,decide_false,aj,ak,af]
  have h0:0<=day:=by omega
  have hA:=anh hT (by omega);have S8:bP ([]:U bI).length 0 t.az.length t.az.length 232=true:=by
   have:bP 0 0 t.az.length t.az.length 232=true:=(by rw[ajS,aL,aV,aV];exact⟨by omega,by simp only[maxLen];omega⟩);exact this
  have B7:bP ([]++t.az:U bI).length ([]++t.az:U bI).length 1 1 232=true:=cZ (by simp;omega) (by show([]++t.az:U bI).length+1<=9223372036854775807;rw[bT];omega);have hs1:∀r:bI,sub [r] 0 1=[r]:=λ_=>rfl;have e1:=AQ (n:=5000003) (t:=t) day hT vl n42;have e2:=AQ (n:=5000003) (t:=jT t) day hA vl n42;have e2':fO 5000003 (bR.mk t.cm t.br t.bu (([]++t.az)++[bI.mk (⟨#[97,110,121]⟩) ([]) ([]) 0 0 0 false 0 0 1 (⟨#[]⟩) (⟨#[]⟩) ([]) 0 0 0 0 0 0 0]) t.cx t.b9 t.cE t.ca t.land t.co t.windows t.built t.base) day=some (oQ 5000003 (jT t) day):=e2;have l1:=aaV (n:=5000003) (t:=t) day hT n42;have l2:=aaV (n:=5000003) (t:=jT t) day hA n42;have l2':(oQ 5000003 (jT t) day).length<=t.land.length+2:=l2;have l3:=f2.land.1;have hgA:xh 5000003 (jT t)=xh 5000003 t:=rfl;have hk:∀f∈oQ 5000003 (jT t) day,(f.kind==0)=false/\((f.kind==1)=true->(acy t day f.lot).2=false):=by
   intro f hm;rcases aaW hm with hm |⟨lot,vj,hlk⟩
   .rw[hgA]at hm;rcases ((UN (n:=5000003) (t:=t) day hT n42).2.2 f hm).1 with h |h<;>rw[h]<;>exact⟨rfl,λh=>(by cases h)⟩
   .rw[afd hT h0]at hlk;cases hle:(uG 5000003 t lot day).2 with
    |true=>rw[hle]at hlk;cases congrArg Prod.snd hlk
    |false=>
     rw[hle]at hlk;have:Dm 5000003 t lot day=f:=congrArg Prod.fst hlk;have hfl:t.land.find? (λ x=>x.id==lot.id)=some lot:=afe vj;rw[<- this,(LU _ _ _ _).1,(LU _ _ _ _).2];refine⟨rfl,λ_=>?_⟩;unfold acy;rw[hfl];exact hle
  have hL:∀id:Int,rR 5000003 t id day=some (acy t day id):=λid=>afb (n:=5000003) (t:=t) id day hT vl n42;have HF:iter (lV 5000003 t day (oQ 5000003 (jT t) day)) 5000003 (0:Int)=some (.inl ()):=by
   refine qf (step:=lV 5000003 t day (oQ 5000003 (jT t) day)) (λ i=>(i:Int)) (s:=(0:Int)) (oQ 5000003 (jT t) day).length (.inl ()) rfl (λ i hi=>?_) (by simp only[lV,bU,ak]) 5000003 (by omega);obtain⟨k0,k1⟩:=hk _ (getElem_mem hi);simp only[lV,bJ hi,aj,aU hi,aW hi,af,k0,ak,hL,aK i];cases hk1:((oQ 5000003 (jT t) day)[i].kind==1)with
   |false=>rfl
   |true=>simp only[aj,k1 hk1,af,ak]
  have hsame:∀f∈oQ 5000003 t day,((f.kind !=1) || (oQ 5000003 (jT t) day).any (Ln f))=true:=by
   intro f hm;rcases aaW hm with hm |⟨lot,vj,hlk⟩
   .rcases ((UN (n:=5000003) (t:=t) day hT n42).2.2 f hm).1 with h |h<;>rw[h]<;>rfl
   .cases hap:(applied t lot day).isEmpty with
    |true=>
     have:xT lot=f:=(by unfold jS at hlk;rw[hap]at hlk;exact congrArg Prod.fst hlk);rw[<- this];rfl
    |false=>
     cases hle:(uG 5000003 t lot day).2 with
     |true=>unfold jS at hlk;rw[hap,hle]at hlk;cases congrArg Prod.snd hlk
     |false=>
      have hfd:Dm 5000003 t lot day=f:=(by unfold jS at hlk;rw[hap,hle]at hlk;exact congrArg Prod.fst hlk);have hlA:jS 5000003 (jT t) lot day=(f,true):=(by rw[afd hT h0,hle,hfd];rfl);have hin:f∈oQ 5000003 (jT t) day:=by
       have:=akA (n:=5000003) (t:=jT t) (day:=day) (lot:=lot) vj (by rw[hlA]);rw[hlA]at this;exact this
      rw[Bool.or_eq_true];right;refine any_eq_true.2 ⟨f,hin,?_⟩;unfold Ln;rw[<- hfd,(LU _ _ _ _).1];simp
  have HE:iter (lX 5000003 (oQ 5000003 t day) (oQ 5000003 (jT t) day)) 5000003 (0:Int)=some (.inl ()):=by
   refine qf (step:=lX 5000003 (oQ 5000003 t day) (oQ 5000003 (jT t) day)) (λ i=>(i:Int)) (s:=(0:Int)) (oQ 5000003 t day).length (.inl ()) rfl (λ i hi=>?_) (by simp only[lX,bU,ak]) 5000003 (by omega);have h1:=hsame _ (getElem_mem hi);simp only[lX,bJ hi,aj,aU hi,aW hi,af,akH (n:=5000003) (r6:=oQ 5000003 (jT t) day) (by omega) (by omega),h1,Bool.not_true,ak,aK i]
  simp only[c1,c2,decide_false,ak,af,S8,aj,dO,hs1,length_singleton,B7,e1,bX,aC,e2',HF,eG,HE]
theorem XO(q:HL xx.toSE [.st SI.kw,.int .i64])(hb:yd (HL.nw xx.toSE [.st SI.kw,.int .i64] q)<=1048576):∃k,uw k q.1 q.2.1=some true:=by
 have h2:kI (JW q.1)+(1+0)<=1048576:=hb;exact⟨5000003,Tg aoM q.1 q.2.1 (apO (by omega))⟩
end Go.Proofs
