import Derived.Test.YtnkhciolifefdaaGreatS1
open Go.IntKind (i64)
open List (length_take mem_map all_eq_true getElem_mem length_nil foldl_cons mem_filter length_singleton)
namespace Go.Proofs
open Go.Gb Go.RowKit
variable {n:Nat}
theorem aow{p:bU}{ms:U bX}{zs:U ByteArray}{e:cK}(hp:Z1 p)(hm:ms.length<=4000000)(hz:zs.length<=4000000)(he:(toE e).wt<=4000000)(hn:5000003<=n)(hn2:n<=9223372036854775000):∃v,xX n p ms zs e=some v:=by
 obtain⟨b,hb,hv⟩:=Sj (n:=n) (by omega) hn2 he;simp only[xX,zl,hb,af];cases b with
 |false=>exact⟨_,rfl⟩
 |true=>
  have⟨kn,ab,h1,_⟩:=Me (n:=n) hp hm hz hn hn2;obtain⟨v,h2⟩:=XA (n:=n) (a0:=p.defs) (a2:=p.zones) (a3:=p.rules) (a4:=p.caps) (a5:=p.views) (a6:=p.uu) (a7:=p.hours) (by omega) hp.tabs hz n e kn (hv rfl) he;simp only[Bool.not_true,ak,h1,af,gu,h2];exact⟨_,rfl⟩
section
variable {n:Nat} {d:List eT} {ts:List dx} {z:List dN} {r r':List bK} {c c':List gD} {v v':List fA} {su sx:List cZ} {h h':Int} {zs:List ByteArray}
theorem Ji:∀(m:Nat)(e:cK)(kn:U (ByteArray×Int)),dh n m d ts z r c v su h zs e kn=dh n m d ts z r' c' v' sx h' zs e kn
 | 0,_,_=>rfl
 |m+1,e,kn=>by
  have ih:=Ji m;have hs:fD n (dh n m) d ts z r c v su h zs e=fD n (dh n m) d ts z r' c' v' sx h' zs e:=by
   funext ⟨v1,v2,v3⟩;simp only[fD,ih]
  have hr:∀w,jo n d ts z r c v su h zs e w=jo n d ts z r' c' v' sx h' zs e w:=λ_=>rfl;show fH n (dh n m) d ts z r c v su h zs e kn=fH n (dh n m) d ts z r' c' v' sx h' zs e kn;simp only[fH,hs,zl,hr]
theorem ahl{ms:U bX}:(mH n (bU.mk d ts z r c v su h) ms zs).map (λ q=>q.2.2.2.2.2.2.2.2.2)=(mH n (bU.mk d ts z r' c' v' sx h') ms zs).map (λ q=>q.2.2.2.2.2.2.2.2.2):=by
 have hs:∀w2 r1,gM n (bU.mk d ts z r c v su h) zs w2 r1=gM n (bU.mk d ts z r' c' v' sx h') zs w2 r1:=by
  intro w2 r1;funext ⟨v6,v7,v8⟩;have hv:∀e kn,gu n d ts z r c v su h zs e kn=gu n d ts z r' c' v' sx h' zs e kn:=λe kn=>Ji n e kn;simp only[gM,hv]
 have ho:jJ n (bU.mk d ts z r c v su h)=jJ n (bU.mk d ts z r' c' v' sx h'):=rfl;simp only[mH,hs,ho];cases iter (j6 n ms) n ((0:Int),([]:(List (ByteArray×Int))),([]:(List (ByteArray×Bool))))with
 |none=>rfl
 |some w=>
  obtain⟨w1,w2⟩:=w;simp only[af];cases (decide ((d.length:Int)<=(d.length:Int))&&(decide (0<=(d.length:Int))&&xK (d.length:Int) 8))with
  |false=>rfl
  |true=>
   simp only[aj];cases jJ n (bU.mk d ts z r' c' v' sx h')with
   |none=>rfl
   |some r1=>
    simp only[af];cases (r1.2.2 !=(0:Int))with
    |true=>
     simp only[aj];cases aE (((d.length:Int):Int).toNat) (List.replicate ((d.length:Int):Int).toNat (0:Int)).length<;>rfl
    |false=>
     simp only[ak];cases iter (gM n (bU.mk d ts z r' c' v' sx h') zs w2 r1) n ((0:Int),w1,(List.replicate ((d.length:Int):Int).toNat (0:Int)))with
     |none=>rfl
     |some q=>
      obtain⟨w3,w4⟩:=q;simp only[af];cases aE (((d.length:Int):Int).toNat) w4.length<;>rfl
theorem ahm{ms:U bX}{e:cK}(hp:gR d)(ht:PA ts)(hm:ms.length<=4000000)(hz:zs.length<=4000000)(hn:5000003<=n)(hn2:n<=9223372036854775000):xX n (bU.mk d ts z r c v su h) ms zs e=xX n (bU.mk d ts z r' c' v' sx h') ms zs e:=by
 have⟨kn,ab,h1,_⟩:=Me (n:=n) (p:=bU.mk d ts z r c v su h) ⟨hp,ht⟩ hm hz hn hn2;have⟨kn2,out2,h2,_⟩:=Me (n:=n) (p:=bU.mk d ts z r' c' v' sx h') ⟨hp,ht⟩ hm hz hn hn2;have h3:=ahl (n:=n) (d:=d) (ts:=ts) (z:=z) (r:=r) (r':=r') (c:=c) (c':=c') (v:=v) (v':=v') (su:=su) (sx:=sx) (h:=h) (h':=h') (zs:=zs) (ms:=ms);rw[h1,h2]at h3;simp only[Option.map_some,aC,Prod.mk.injEq]at h3;obtain⟨rfl,rfl⟩:=h3;simp only[xX,h1,h2,af,gu,Ji (r:=r) (r':=r') (c:=c) (c':=c') (v:=v) (v':=v') (su:=su) (sx:=sx) (h:=h) (h':=h')]
end
theorem Tf{b:aA}{l:U d9}{s:U fV}(ha:∀c∈s,c.area.length<=200)(hs:s.length<=1000)(hl:l.length<=1000)(hn:2000<=n):
 yg n b l s=some (Ff b l&&(Fg s&&!(s.any λc=>decide (Mz b l c.area<c.z1)))):=by
 unfold yg;rw[Xr b l hl hn];simp only[af];cases hv:Ff b l with
 |false=>simp only[Bool.not_false,aj,af,Bool.false_and]
 |true=>
  have⟨v1,v2⟩:=(aeI b l).1 hv;simp only[Bool.not_true,ak,Si (n:=n) (s:=s) (λ x hx=>by have:=ha x hx;omega) (by omega),af,Bool.true_and];cases hr:Fg s with
  |false=>simp only[Bool.not_false,aj,Bool.false_and]
  |true=>
   have⟨_,sok,_⟩:=(Xu s).1 hr;simp only[Bool.not_true,ak,Bool.true_and];rw[sO (λ c=>decide (Mz b l c.area<c.z1)) (λ c hc=>by
    have:=ha c hc;show rF n c b l=_;unfold rF;rw[Te v1 v2 (uF (sok c hc).rt).1 (by omega) hl hn];rfl) (by omega) (by omega)]
   simp only[af]
def vB(v:aJ):U fV:=[⟨v.eQ,v.ev,[iA v]⟩]
theorem aeW(v:aJ):xY v=some (vB v):=rfl
def UL(b:aA)(p:d9)(v:aJ):Bool:=Ff b [p]&&(Fg (vB v)&&!((vB v).any λc=>decide (Mz b [p] c.area<c.z1)))
def QA(r:bK):d9:=d9.mk r.iu r.iv r.j9 r.ka
theorem acd(v:aJ)(b:aA)(r:bK)(hn:2000<=n):jR n v b r=some (!UL b (QA r) v):=by
 have h:=Tf (n:=n) (b:=b) (l:=[QA r]) (s:=vB v) (by simp[vB]) (by simp[vB]) (by simp) hn;unfold QA at h;have hl:(vB v).length=1:=rfl;simp only[jR,aeW,af,bZ,aF,aj,show ∀x:d9,sub [x] 0 1=[x]from λ_=>rfl,length_singleton,h,UL,QA];rfl
def Pu(r:bK)(v:aJ):Bool:=bits .and .i64 r.uses (i64.wrap (1*2 ^ (v.use:Int).toNat))==(0:Int)
theorem ace{v:aJ}(h:okV v=true)(r:bK):jS v r=some (Pu r v):=by
 have hu:0<=v.use/\v.use<6:=by
  simp only[okV,aN,aW]at h;omega
 have hb:i64.bits=64:=rfl;simp only[jS,Pu,show(decide (0<=v.use)&&decide (v.use<=i64.bits))=true from by simp[hb];omega,aj]
def PF(lot:Int)(r:bK)(v:aJ)(b:jh):Bool:=(dY b (mD.mk [] [] [] [] [] [] [] 0 [] [] [] [] [] 0 0 [] [] lot [] [] []) v r).getD false
theorem aeX{b:jh}{s:mD}{v:aJ}{r:bK}:dY b s v r=some (PF s.eh r v b):=by
 have key:∃x,dY b (mD.mk [] [] [] [] [] [] [] 0 [] [] [] [] [] 0 0 [] [] s.eh [] [] []) v r=some x:=by
  simp only[dY,iy,amo,af];refine sP (cO ⟨_,rfl⟩ (cO ⟨_,rfl⟩ (cO ⟨_,rfl⟩ ⟨_,rfl⟩))) λ_=>cO ⟨_,rfl⟩ (sP (cO (cO ⟨_,rfl⟩ (cO ⟨_,rfl⟩ ⟨_,rfl⟩)) (cO ⟨_,rfl⟩ ⟨_,rfl⟩)) λ_=>cO ⟨_,rfl⟩ ⟨_,rfl⟩)
 have e:dY b s v r=dY b (mD.mk [] [] [] [] [] [] [] 0 [] [] [] [] [] 0 0 [] [] s.eh [] [] []) v r:=rfl;obtain⟨x,hx⟩:=key;rw[e,PF,hx];rfl
theorem zQ{l:U jh}{φ:(jh×Unit)->J Bool}(p:jh->Bool)(h:∀x∈l,φ (x,())=some (p x))(hl:l.length<1099511627776)(hn:l.length<n):jT n l φ=some (l.any p):=by
 have:qG n l φ=some (xg p l):=fK p h hl hn;simp only[jT,this,af,xM]
def PC(built:U jh)(lot:Int)(r:bK)(v:aJ):Bool:=built.any (PF lot r v)
theorem ach{s:mD}{v:aJ}{r:bK}(hb:s.dp.length<=1000)(hn:2000<=n):jU n v s r=some (PC s.dp s.eh r v):=by simp only[jU,rU,zQ (n:=n) (l:=s.dp) (φ:=λ(y1:jh×Unit)=>dY y1.1 s v r) (PF s.eh r v) (λ x _=>aeX) (by omega) (by omega),af,PC]
def kq(r:bK):cK:=cK.mk r.ld r.mS r.mN r.j8 r.gb
def ke(t:cu):bU:=bU.mk t.cm t.br t.bu [] t.ct t.b9 t.cE t.ca
structure yB(t:cu):Prop where
 lots:∀l∈t.land,D1 l
 land:t.land.length<=1000
 xz:t.co.length<=900/\∀e∈t.co,e.area.length<=900
 built:t.built.length<=1000
 zones:t.bu.length<=100
 caps:t.ct.length<=1000
 rules:t.az.length<=100
 rule:∀r∈t.az,Qy r/\(toE (kq r)).wt<=4000000
 plan:Z1 (ke t)
def ye(d:bD):Prop:=Xw d/\J1 d
def QB(n:Nat):Prop:=5000003<=n/\n<=9223372036854775000
def jW(t:cu)(lot:dw):U ByteArray:=E6 t.bu lot.area
def sR(t:cu)(lot:dw)(d:bD):mD:=mD.mk t.cm t.br t.bu t.az t.ct t.b9 t.cE t.ca t.land t.co t.windows t.built t.base lot.id lot.owner lot.area lot.from_ d.lot d.phases (kQ d) (jW t lot)
theorem amK{d:bD}(h:Xw d)(hn:1001<=n):tZ n d=some (kQ d):=by
 obtain⟨h1,h2⟩:=h;unfold tZ;have key:=qj (step:=o7 d) (λ i=>((i:Int),(d.phases.take i).flatMap (·.cM))) (s:=((0:Int),([]:U aJ))) d.phases.length (kQ d) rfl (λ i hi=>by
  have hl:=ef (l:=d.phases.take i) λp hp=>h2 p (List.mem_of_mem_take hp);rw[length_take]at hl;have hv:=h2 _ (getElem_mem hi);generalize hL:(d.phases.take i).flatMap (·.cM)=L at hl;have hap:bP L.length L.length d.phases[i].cM.length d.phases[i].cM.length 72=true:=dm (by omega) (by simp only[maxLen];omega);simp only[o7,bO hi,aj,bq hi,af,hap,dS,aF,aM i];rw[je hi,List.flatMap_append,hL];simp only[List.flatMap_cons,List.flatMap_nil,List.append_nil]) (by simp only[o7,bW,ak,aF,aj,List.take_length,kQ]) n (by omega)
 have hz:aE 0 ([]:U aJ).length=true:=rfl;simp only[hz,aj,key,af,bZ,aF]
def X1(n:Nat)(t:cu)(d:bD):Bool:=(oM n (ke t) (mV t.land d.lot).1 d).getD false
def Dq(n:Nat)(t:cu)(d:bD):Int:=bif(mV t.land d.lot).2 then(bif X1 n t d then 0 else 1)else 4
def aqo:mD:=mD.mk ([]) ([]) ([]) ([]) ([]) ([]) ([]) 0 ([]) ([]) ([]) ([]) ([]) 0 0 ([]) ([]) 0 ([]) ([]) ([])
theorem look_eq{t:cu}{d:bD}(ht:yB t)(hd:ye d)(hn:QB n):Ap n t d=some (bif Dq n t d==0 then sR t (mV t.land d.lot).1 d else aqo,Dq n t d)/\(Dq n t d=0->∀v∈kQ d,okV v=true):=by
 obtain⟨hn1,hn2⟩:=hn;have hl:=ht.land;have e1:Oc n t.land d.lot=some (mV t.land d.lot):=akp ht.lots (by omega) (by omega);have hw:=aaI ht.lots d.lot;obtain⟨b,hb,hv⟩:=akz (n:=n) (p:=ke t) (lot:=(mV t.land d.lot).1) (d:=d) ht.caps hw.1 hd.1 hd.2 (by omega);have e2:oM n (bU.mk t.cm t.br t.bu t.az t.ct t.b9 t.cE t.ca) (mV t.land d.lot).1 d=some b:=hb;have e3:sK n (bU.mk t.cm t.br t.bu t.az t.ct t.b9 t.cE t.ca) (mV t.land d.lot).1.area=some (E6 t.bu (mV t.land d.lot).1.area):=OC _ _ ht.zones hw.1 (by omega);have e4:X1 n t d=b:=by unfold X1;rw[hb];rfl
 simp only[Ap,e1,e2,e3,amK hd.1 (show 1001<=n by omega),af,bZ,aF,aj,Dq,e4];cases (mV t.land d.lot).2 with
 |false=>exact⟨rfl,λh=>absurd (show (4:Int)=0 from h) (by decide)⟩
 |true=>
  cases b with
  |false=>exact⟨rfl,λh=>absurd (show (1:Int)=0 from h) (by decide)⟩
  |true=>exact⟨rfl,λ_=>hv rfl⟩
def Pr(n:Nat)(t:cu)(lot:dw)(d:bD)(r:bK):Bool:=((kH n (ke t) lot d).bind λms=>xX n (ke t) ms (jW t lot) (kq r)).getD 1==0
def Y6(n:Nat)(t:cu)(lot:dw)(d:bD)(r:bK):Bool:=
 bif r.kind==0 then Pr n t lot d r else bif r.kind==1 then(kQ d).any (λ v=>!UL (rH lot.area).1 (QA r) v)else bif r.kind==2 then(kQ d).any (Pu r)else bif r.kind==3 then(kQ d).any (PC t.built d.lot r)else false
theorem Mf{t:cu}(ht:yB t)(lot:dw):(jW t lot).length<=100:=Nat.le_trans (aop _ _) ht.zones
theorem akA{t:cu}{lot:dw}{d:bD}{r:bK}(ht:yB t)(hl:lot.area.length<=900)(hd:ye d)(hv:∀v∈kQ d,okV v=true)(hr:(toE (kq r)).wt<=4000000)(hn:QB n):mU n (sR t lot d) r=some (Y6 n t lot d r):=by
 obtain⟨hn1,hn2⟩:=hn;have hvl:=Kr hd.1;have hz:=Mf ht lot;simp only[mU,gP,Y6];cases (r.kind==0)with
 |true=>
  have htb:=ht.plan.tabs;obtain⟨e1,e2,e3,e4,e5,e6,e7,e8,H4⟩:=aqm (n:=n) (p:=ke t) (lot:=lot) (d:=d) ⟨by have:=htb.1;omega,by have:=htb.1;omega,λx hx=>by have:=htb.2 x hx;omega⟩ hl hd.1 (by omega);have h1:=H4 t.az;have h2:=H4 [];have h2':kH n (ke t) lot d=_:=h2;have h1':kH n (bU.mk t.cm t.br t.bu t.az t.ct t.b9 t.cE t.ca) (dw.mk lot.id lot.owner lot.area lot.from_) (bD.mk d.lot d.phases)=_:=h1;obtain⟨v,hE⟩:=aow (n:=n) (p:=ke t) (ms:=[⟨⟨#[97,114,101,97]⟩,e1⟩,⟨⟨#[99,111,118,101,114]⟩,e2⟩,⟨⟨#[102,108,111,111,114]⟩,e3⟩,⟨⟨#[102,108,111,111,114,115]⟩,e4⟩,⟨⟨#[104,101,105,103,104,116]⟩,e5⟩,⟨⟨#[104,111,109,101,115]⟩,e6⟩,⟨⟨#[114,117,110,111,102,102]⟩,e7⟩,⟨Dp,wT (oD lot) (fT d)⟩,⟨⟨#[116,114,97,102,102,105,99]⟩,e8⟩]) (zs:=jW t lot) (e:=kq r) ht.plan (by simp) (by omega) hr hn1 hn2;have hE':=(ahm (n:=n) (d:=t.cm) (ts:=t.br) (z:=t.bu) (r:=t.az) (r':=[]) (c:=t.ct) (v:=t.b9) (su:=t.cE) (h:=t.ca) (zs:=jW t lot) (ms:=[⟨⟨#[97,114,101,97]⟩,e1⟩,⟨⟨#[99,111,118,101,114]⟩,e2⟩,⟨⟨#[102,108,111,111,114]⟩,e3⟩,⟨⟨#[102,108,111,111,114,115]⟩,e4⟩,⟨⟨#[104,101,105,103,104,116]⟩,e5⟩,⟨⟨#[104,111,109,101,115]⟩,e6⟩,⟨⟨#[114,117,110,111,102,102]⟩,e7⟩,⟨Dp,wT (oD lot) (fT d)⟩,⟨⟨#[116,114,97,102,102,105,99]⟩,e8⟩]) (e:=kq r) ht.plan.defs ht.plan.tabs (by simp) (by omega) hn1 hn2).trans hE;unfold kq at hE';simp only[aj,sR,h1',af,bZ,aF,hE',Pr,h2',hE,Option.getD_some]
 |false=>
  cases (r.kind==1)with
  |true=>
   simp only[aj,ak,show(sR t lot d).kB=lot.area from rfl,show(sR t lot d).cM=kQ d from rfl,Fj (n:=n) lot.area hl (by omega),af];rw[gm (λ v=>!UL (rH lot.area).1 (QA r) v) (λ v _=>acd v _ r (by omega)) (by omega) (by omega)];rfl
  |false=>
   cases (r.kind==2)with
   |true=>
    simp only[aj,ak,show(sR t lot d).cM=kQ d from rfl];rw[gm (Pu r) (λ v hm=>ace (hv v hm) r) (by omega) (by omega)];rfl
   |false=>
    cases (r.kind==3)with
    |true=>
     simp only[aj,ak,show(sR t lot d).cM=kQ d from rfl];rw[gm (PC t.built d.lot r) (λ v _=>ach (s:=sR t lot d) ht.built (by omega)) (by omega) (by omega)];rfl
    |false=>rfl
def addN(ab:U ByteArray)(name:ByteArray)(bad:Bool):U ByteArray:=bif bad&&!(ab.any (lw name))then ab++[name]else ab
theorem aeY(ab:U ByteArray)(name:ByteArray)(bad:Bool):(addN ab name bad).length<=ab.length+1:=by
 unfold addN;cases (bad&&!(ab.any (lw name)))<;>simp
theorem aeZ{name:ByteArray}{bad:Bool}{ab:U ByteArray}(hl:ab.length<=1000)(hn:2000<=n):jC n name bad ab=some (addN ab name bad):=by
 have hmx:maxLen=9223372036854775807:=rfl;have hap:bP ab.length ab.length (sub [name] 0 1).length 1 16=true:=by simp[bP,sub];omega
 simp only[jC,bZ,aF,aj,uR (n:=n) (l:=ab) (a:=name) (by omega) (by omega),af,addN,hap,dS];cases bad with
 |false=>rfl
 |true=>cases (ab.any (lw name))<;>rfl
def LN(t:cu)(d:bD):Bool:=(kQ d).any λv=>!Lw t.co d.lot (vB v)
def akB:ByteArray:=⟨#[101,97,115,101,109,101,110,116]⟩
def Bw(n:Nat)(t:cu)(lot:dw)(d:bD)(l:U bK):U ByteArray:=l.foldl (λ ab r=>addN ab r.name (Y6 n t lot d r)) []
theorem Lv(f:bK->Bool):∀(l:U bK)(ab:U ByteArray),(l.foldl (λ ab r=>addN ab r.name (f r)) ab).length<=ab.length+l.length
 |[],ab=>by simp
 |r::l,ab=>by
  have h1:=Lv f l (addN ab r.name (f r));have h2:=aeY ab r.name (f r);rw[foldl_cons,bG];omega
def applied(t:cu)(lot:dw)(day:Int):U bK:=t.az.filter (oC (jW t lot) day)
def oF(t:cu)(d:bD):dw:=(mV t.land d.lot).1
def vU(n:Nat)(t:cu)(d:bD)(day:Int):U ByteArray:=bif Dq n t d==0 then addN (Bw n t (oF t d) d (applied t (oF t d) day)) akB (LN t d)else []
theorem aaL{t:cu}{d:bD}(day:Int)(ht:yB t)(hd:ye d)(hn:QB n):oO n t d day=some (vU n t d day,Dq n t d):=by
 obtain⟨hk,hv⟩:=look_eq (n:=n) ht hd hn;have hn1:=hn.1;have hvl:=Kr hd.1;simp only[oO,hk,af,vU];by_cases h0:Dq n t d=0
 .have T8:(Dq n t d==0)=true:=by simp[h0]
  have T7:(Dq n t d !=0)=false:=by simp[h0]
  have hw:=aaI ht.lots d.lot;have hz:=Mf ht (oF t d);have hA:nN n (bU.mk t.cm t.br t.bu t.az t.ct t.b9 t.cE t.ca) (jW t (oF t d)) day=some ((zk t.az (jW t (oF t d)) day).map λ(i:Nat)=>(i:Int)):=FX _ _ _ (λ r hr=>(ht.rule r hr).1) ht.rules hz (by omega);have hal:(zk t.az (jW t (oF t d)) day).length<=100:=Nat.le_trans (List.length_filter_le _ _) (by rw[List.length_range];exact ht.rules);have hpick:(zk t.az (jW t (oF t d)) day).filterMap (λ i=>t.az[i]?)=applied t (oF t d) day:=Jg (oC (jW t (oF t d)) day) t.az;have hloop:∀A:U Nat,A.length<=100->(∀ i∈A,i<t.az.length)->iter (ng n t (sR t (oF t d) d,Dq n t d) (A.map λ(i:Nat)=>(i:Int))) n ((0:Int),([]:U ByteArray))=some (Bw n t (oF t d) d (A.filterMap λi=>t.az[i]?)):=by
   intro A hA hAr
   have key:=fC (l:=A) (step:=ng n t (sR t (oF t d) d,Dq n t d) (A.map λ(i:Nat)=>(i:Int))) (λ i (s:List ByteArray)=>((i:Int),s)) (λ i s=>match t.az[i]? with
    |some r=>addN s r.name (Y6 n t (oF t d) d r)
    |none=>s) (λ s=>s) (λ i s=>s.length<=i) (λ i hi s hs=>by
    have hr:=hAr _ (getElem_mem hi);have hlm:(A.map λ(i:Nat)=>(i:Int)).length=A.length:=(by simp);have hg:bo (A.map λ(i:Nat)=>(i:Int)) (((0:Nat):Int)+(i:Int))=some ((A[i]:Nat):Int):=(by rw[aX (by omega)];simp);have hrr:=ht.rule _ (getElem_mem hr);have hb:=akA (n:=n) (t:=t) (lot:=oF t d) (d:=d) ht hw.1 hd (hv h0) hrr.2 hn;have e:=dU hr;simp only[ng,hlm,bO hi,aj,aV hi,hg,af,bq hr,hb,aF,aeZ (n:=n) (name:=t.az[A[i]].name) (bad:=Y6 n t (oF t d) d t.az[A[i]]) (ab:=s) (by omega) (by omega),aM i,e];exact⟨trivial,Nat.le_trans (aeY _ _ _) (by omega)⟩) (λ s _=>by
    have hlm:(A.map λ(i:Nat)=>(i:Int)).length=A.length:=(by simp);simp only[ng,hlm,bW,ak,aF,aj]) n (by omega) [] (aG _)
   rw[show ((0:Nat):Int)=0 from rfl]at key;rw[key];congr 1;unfold Bw;generalize ([]:U ByteArray)=s0;clear key hA
   induction A generalizing s0 with
   |nil=>rfl
   |cons a A ih=>
    have ha:=hAr a (by simp);rw[foldl_cons,List.filterMap_cons];simp only[dU ha];rw[foldl_cons];exact ih (λ i hi=>hAr i (by simp[hi])) _
  have hlo:=hloop (zk t.az (jW t (oF t d)) day) hal (λ i hi=>by
   have:=(mem_filter.1 hi).1;simpa using this)
  rw[hpick]at hlo;have hrl:(Bw n t (oF t d) d (applied t (oF t d) day)).length<=100:=by
   have h1:=Lv (Y6 n t (oF t d) d) (applied t (oF t d) day) [];have h2:(applied t (oF t d) day).length<=100:=Nat.le_trans (List.length_filter_le _ _) ht.rules;unfold Bw;simp only[length_nil]at h1;omega
  have hany:gP n (sR t (oF t d) d) (λ (y1:aJ×Unit)=>mZ n y1.1 t d)=some (LN t d):=by
   have hs:∀v,mZ n v t d=some (!Lw t.co d.lot (vB v)):=by
    intro v;have hl1:(vB v).length=1:=rfl;have h:=Y1 (n:=n) (l:=t.co) (lot:=d.lot) (s:=vB v) ht.xz.1 ht.xz.2 (by simp[vB]) (by omega);simp only[mZ,aeW,af,bZ,aF,aj,h]
   simp only[gP,show(sR t (oF t d) d).cM=kQ d from rfl];rw[gm (λ v=>!Lw t.co d.lot (vB v)) (λ v _=>hs v) (by omega) (by omega)];rfl
  have hsc:sR t (mV t.land d.lot).1 d=sR t (oF t d) d:=rfl;simp only[T8,T7,aj,ak,hsc,show(sR t (oF t d) d).zones=jW t (oF t d)from rfl,hA,af,length_nil,aF,hlo,hany,aeZ (n:=n) (name:=⟨#[101,97,115,101,109,101,110,116]⟩) (bad:=LN t d) (ab:=Bw n t (oF t d) d (applied t (oF t d) day)) (by omega) (by omega),bZ];rw[h0];rfl
 .have T8:(Dq n t d==0)=false:=by simpa using h0
  have T7:(Dq n t d !=0)=true:=by simpa using h0
  simp only[T8,T7,aj,ak]
theorem akC{t:cu}{d:bD}(day:Int)(ht:yB t)(hd:ye d)(hn:QB n):jY n t d day=some ((Dq n t d==0)&&decide (vU n t d day=[])):=by
 simp only[jY,aaL day ht hd hn,af];cases (Dq n t d==0)with
 |false=>rfl
 |true=>
  simp only[aj,Bool.true_and];cases vU n t d day with
  |nil=>rfl
  |cons x l=>
   have:(((x::l).length:Nat):Int)≠0:=(by simp;omega);rw[beq_eq_false_iff_ne.2 this];simp
theorem Lx(r:aA):∃q,sH r=some q:=by rw[uH];cases ey r<;>exact⟨_,rfl⟩
theorem XB(r:aA):∃q,oU r=some q:=by
 unfold oU;have⟨q,hq⟩:=Lx r;rw[hq];simp only[af]
 first |exact⟨_,rfl⟩ |(cases q.2<;>exact⟨_,rfl⟩)
theorem acj(r:aA)(d:Int):∃q,IG r d=some q:=by
 unfold IG;rw[iy];simp only[af];have key:∀c x:Bool,∃b,((bif c then some true else some x):J Bool)=some b:=λc x=>cO ⟨_,rfl⟩ ⟨_,rfl⟩;have⟨b,hb⟩:=key (!ey r) (decide (d<0));rw[hb];cases b with
 |true=>exact⟨_,rfl⟩
 |false=>
  simp only[af,ak];have⟨q,hq⟩:=Lx (aA.mk (i64.wrap (r.x0+(min d (1048576:Int)))) (i64.wrap (r.y0+(min d (1048576:Int)))) (i64.wrap (r.x1 -(min d (1048576:Int)))) (i64.wrap (r.y1 -(min d (1048576:Int)))));rw[hq];exact⟨_,rfl⟩
theorem amM{lot:dw}(ha:lot.area.length<=900)(hn:4000002<=n)(i:Int):∃q,lV n lot i=some q:=by
 unfold lV;rw[Fj (n:=n) lot.area ha (by omega)];simp only[af];have key:∀c1 c2 c3:Bool,∃b,((bif c1 then some true else(bif c2 then some true else some c3)):J Bool)=some b:=λc1 c2 c3=>cO ⟨_,rfl⟩ (cO ⟨_,rfl⟩ ⟨_,rfl⟩);have⟨b,hb⟩:=key (!(rH lot.area).2) (decide (i<0)) (decide (i>20));rw[hb];cases b with
 |true=>exact⟨_,rfl⟩
 |false=>
  simp only[af,ak];have⟨q,hq⟩:=acj (rH lot.area).1 i;rw[hq];simp only[af];cases q.2 with
  |false=>exact⟨_,rfl⟩
  |true=>
   have hcl:=Fa (keep:=λp q=>p&&q) lot.area [q.1];have hc:=E9 (n:=n) (a:=lot.area) (b:=[q.1]) (by omega) (by simp) (by omega) (by simp;omega) (by omega);have hA:=Fb (n:=n) (a:=(nk (λ p q=>p&&q) lot.area [q.1]).1) (by omega) (by omega);have⟨z,hz⟩:=XB q.1;simp only[Bool.not_true,ak,show ∀r:aA,sub [r] 0 1=[r]from λ_=>rfl,length_singleton,aF,aj,hc,af,hA,hz];cases ((nk (λ p q=>p&&q) lot.area [q.1]).2==0)<;>exact⟨_,rfl⟩
def eb(n:Nat)(lot:dw)(i:Int):aA×Bool:=(lV n lot i).getD (⟨0,0,0,0⟩,false)
theorem ack{lot:dw}(ha:lot.area.length<=900)(hn:4000002<=n)(i:Int):lV n lot i=some (eb n lot i):=by
 have⟨q,hq⟩:=amM ha hn i;unfold eb;rw[hq];rfl
def Jj(r:aA):Int:=(oU r).getD 0
theorem ae1(r:aA):oU r=some (Jj r):=by
 have⟨q,hq⟩:=XB r;unfold Jj;rw[hq];rfl
def ux(lot:dw)(cP:Int)(k:Nat):aY:=aY.mk lot.id (Int.tmod (k:Int) 6) (i64.wrap ((i64.wrap (Int.tdiv (k:Int) 6))+1)) cP
theorem akD(lot:dw)(v:Int)(l:U aY)(hl:l.length<=1000000)(hn:1000<=n):iter (lW lot v) n ((0:Int),l)=some (l++(List.range 72).map (ux lot v)):=by
 refine qj (step:=lW lot v) (λ i=>((i:Int),l++(List.range i).map (ux lot v))) (s:=((0:Int),l)) 72 (l++(List.range 72).map (ux lot v)) (by simp) (λ i hi=>?_) ?_ n (by omega)
 .have hap:bP (l++(List.range i).map (ux lot v)).length (l++(List.range i).map (ux lot v)).length 1 1 32=true:=dm (by simp;omega) (by simp only[maxLen,dP,List.length_map,List.length_range];omega);have hlt:decide ((i:Int)<72)=true:=by simp;omega
  simp only[lW,hlt,aj,show((6:Nat) !=0)=true from rfl,show((6:Int) !=0)=true from rfl,show ∀r:aY,sub [r] 0 1=[r]from λ_=>rfl,length_singleton,hap,dS,aF,aM i];rw[List.range_succ,List.map_append,<- aO];rfl
 .have hlt:decide (((72:Nat):Int)<72)=false:=by simp
  simp only[lW,hlt,ak,aF,aj]
abbrev KI:=List (iU×Int)
def AY(n:Nat)(lot:dw)(i:Nat)(s:KI×List aY):KI×List aY:=
 bif(eb n lot (i:Int)).2 then(nG (CK (X:=xx) SI.ee) (iU.mk lot.id (i:Int)) (Jj (eb n lot (i:Int)).1) s.1,s.2++(List.range 72).map (ux lot (i:Int)))else s
def yd(n:Nat)(lot:dw)(s:KI×List aY):KI×List aY:=(List.range 21).foldl (λ s i=>AY n lot i s) s
theorem aaM(n:Nat)(lot:dw)(i:Nat)(s:KI×List aY):(AY n lot i s).2.length<=s.2.length+72:=by
 unfold AY;cases (eb n lot (i:Int)).2<;>simp
theorem aaN(n:Nat)(lot:dw):∀(l:U Nat)(s:KI×List aY),(l.foldl (λ s i=>AY n lot i s) s).2.length<=s.2.length+72*l.length
 |[],s=>by simp
 |i::l,s=>by
  have h1:=aaN n lot l (AY n lot i s);have h2:=aaM n lot i s;rw[foldl_cons,bG];omega
theorem akE{lot:dw}(ha:lot.area.length<=900)(hn:4000002<=n)(s:KI×List aY)(hs:s.2.length<=900000):iter (lX n lot) n ((0:Int),s.1,s.2)=some (yd n lot s):=by
 have key:=fC (l:=List.range 21) (step:=lX n lot) (λ i (s:KI×List aY)=>((i:Int),s.1,s.2)) (λ i s=>AY n lot i s) (λ s=>s) (λ i s=>s.2.length<=900000+72*i) (λ i hi s hs=>by
  rw[List.length_range]at hi;have hlt:decide ((i:Int)<21)=true:=by simp;omega
  have hg:(List.range 21)[i]'(by rw[List.length_range];exact hi)=i:=List.getElem_range _;rw[hg];refine⟨?_,by have:=aaM n lot i s;show(AY n lot i s).2.length<=_;omega⟩;simp only[lX,hlt,aj,ack ha hn,af,AY];cases hb:(eb n lot (i:Int)).2 with
  |false=>simp only[Bool.not_false,aj,ak,aF,af,aM i]
  |true=>simp only[Bool.not_true,aj,ak,ae1,af,aF,akD (n:=n) lot (i:Int) s.2 (by omega) (by omega),aM i]) (λ s _=>by
  have hlt:decide (((List.range 21).length:Int)<21)=false:=by simp
  simp only[lX,hlt,ak,aF,aj]) n (by rw[List.length_range];omega) s (by simpa using hs)
 exact key
def LA(lot:dw)(seen:U (Int×Bool)):Bool:=(fG io lot.id seen).getD false || (decide (lot.id<0) || decide (lot.id>1073741824))
abbrev yp:=KI×List (Int×Bool)×List aY
def wU(n:Nat)(lot:dw)(s:yp):yp:=
 bif LA lot s.2.1 then s else((yd n lot (s.1,s.2.2)).1,nG io lot.id true s.2.1,(yd n lot (s.1,s.2.2)).2)
def qH(n:Nat)(land:U dw):yp:=land.foldl (λ s lot=>wU n lot s) ([],[],[])
theorem amN(n:Nat)(lot:dw)(s:KI×List aY):(yd n lot s).2.length<=s.2.length+1512:=by
 have:=aaN n lot (List.range 21) s;rw[List.length_range]at this;unfold yd;omega
theorem aaO(n:Nat)(lot:dw)(s:yp):(wU n lot s).2.2.length<=s.2.2.length+1512:=by
 have:=amN n lot (s.1,s.2.2);unfold wU;cases LA lot s.2.1
 .exact this
 .simp
theorem OH(n:Nat):∀(land:U dw)(s:yp),(land.foldl (λ s lot=>wU n lot s) s).2.2.length<=s.2.2.length+1512*land.length
 |[],s=>by simp
 |lot::l,s=>by
  have h1:=OH n l (wU n lot s);have h2:=aaO n lot s;rw[foldl_cons,bG];omega
def dZ(n:Nat)(land:U dw):U aY:=lH (α:=aY) (F8 lz (qH n land).1) (qH n land).2.2
theorem wV(n:Nat)(land:U dw):(dZ n land).Perm (qH n land).2.2:=LX (α:=aY) (IA lz (qH n land).1) _
theorem QC{land:U dw}(ha:∀l∈land,l.area.length<=900)(hl:land.length<=500)(hn:4000002<=n):kC n land=some (dZ n land):=by
 have key:=fC (l:=land) (step:=lY n land) (λ i (s:yp)=>((i:Int),s.1,s.2.1,s.2.2)) (λ lot s=>wU n lot s) (λ s=>(s.1,s.2.2)) (λ i s=>s.2.2.length<=1512*i) (λ i hi s hs=>by
  refine⟨?_,by have:=aaO n land[i] s;show(wU n land[i] s).2.2.length<=_;omega⟩;simp only[lY,bO hi,aj,bq hi,af,wU];have hk:((bif ((fG io land[i].id s.2.1).getD false)then some true else(bif (decide (land[i].id<(0:Int)))then some true else some (decide (land[i].id>(1073741824:Int))))):J (Bool))=some (LA land[i] s.2.1):=by
   unfold LA;cases (fG io land[i].id s.2.1).getD false<;>cases decide (land[i].id<(0:Int))<;>rfl
  rw[hk];cases hb:LA land[i] s.2.1 with
  |true=>simp only[af,aj,aF,aM i]
  |false=>simp only[af,ak,aj,aF,akE (n:=n) (ha _ (getElem_mem hi)) hn (s.1,s.2.2) (by show s.2.2.length<=_;omega),aM i]) (λ s _=>by simp only[lY,bW,ak,aF,aj]) n (by omega) ([],[],[]) (by simp)
 have hz:aE 0 ([]:U aY).length=true:=rfl;rw[show ((0:Nat):Int)=0 from rfl]at key;have hlen:=OH n land ([],[],[]);have aqI:(qH n land).2.2.length<=1512*land.length:=by unfold qH;simpa using hlen
 have hS:=(wV n land).length_eq;have hps:aiV (qH n land).2.2 (qH n land).1=some (dZ n land,(qH n land).1):=by exact @rN xx SI.kw SI.ee (inferInstance:Inhabited aY) lz (qH n land).2.2 (qH n land).1 (show List.length (qH n land).2.2<=_ by omega)
 have key':iter (lY n land) n ((0:Int),([]:U (iU×Int)),([]:U (Int×Bool)),([]:U aY))=some ((qH n land).1,(qH n land).2.2):=key;unfold kC;rw[hz,key'];simp only[aj,af,aF,hps,<- hS,bZ]
theorem amO{lot:dw}{s:KI×List aY}{p:aY}(h:p∈(yd n lot s).2):p∈s.2\/∃i k:Nat,i<21/\k<72/\(eb n lot (i:Int)).2=true/\p=ux lot (i:Int) k:=by
 have gen:∀(l:U Nat)(s:KI×List aY),(∀ i∈l,i<21)->p∈(l.foldl (λ s i=>AY n lot i s) s).2->p∈s.2\/∃i k:Nat,i<21/\k<72/\(eb n lot (i:Int)).2=true/\p=ux lot (i:Int) k:=by
  intro l
  induction l with
  |nil=>intro s _ h;exact .inl h
  |cons i l ih=>
   intro s hl h;rcases ih (AY n lot i s) (λ j hj=>hl j (by simp[hj])) h with h |h
   .unfold AY at h;cases hb:(eb n lot (i:Int)).2 with
    |false=>rw[hb]at h;exact .inl h
    |true=>
     rw[hb]at h;simp only[aj,bn,mem_map,List.mem_range]at h;rcases h with h |⟨k,hk,rfl⟩
     .exact .inl h
     .exact .inr ⟨i,k,hl i (by simp),hk,hb,rfl⟩
   .exact .inr h
 exact gen (List.range 21) s (λ i hi=>List.mem_range.1 hi) h
theorem aaP(k k':Int)(v:Bool):∀l:U (Int×Bool),fG io k (nG io k' v l)=if k=k' then some v else fG io k l
 |[]=>by
  show(bif io k k' then some v else fG io k [])=_;by_cases h:k=k'
  .subst h;simp[io]
  .have e2:io k k'=false:=(by simp[io,h]);rw[e2,aT h];rfl
 |p::l=>by
  have ih:=aaP k k' v l;show fG io k (bif io k' p.1 then(k',v)::l else p::nG io k' v l)=_;by_cases h1:k'=p.1
  .have e1:io k' p.1=true:=(by simp[io,h1]);rw[e1];show(bif io k k' then some v else fG io k l)=if k=k' then some v else(bif io k p.1 then some p.2 else fG io k l)
   by_cases h:k=k'
   .subst h;simp[io]
   .have e2:io k k'=false:=(by simp[io,h]);have e3:io k p.1=false:=(by rw[<- h1];exact e2);rw[e2,e3,aT h];rfl
  .have e1:io k' p.1=false:=(by simp[io,h1]);rw[e1];show(bif io k p.1 then some p.2 else fG io k (nG io k' v l))=if k=k' then some v else(bif io k p.1 then some p.2 else fG io k l)
   rw[ih];by_cases h:k=k'
   .subst h;rw[e1];simp
   .rw[aT h,aT h]
structure G3(n:Nat)(land:List dw)(p:aY)(lot:dw):Prop where
 Mu:land.find? (λ x=>x.id==p.lot)=some lot
 id0:0<=lot.id
 id1:lot.id<=1073741824
 ex:∃i k:Nat,i<21/\k<72/\(eb n lot (i:Int)).2=true/\p=ux lot (i:Int) k
theorem ai7(n:Nat)(land:U dw):∀i,i<=land.length->(∀ p∈((land.take i).foldl (λ s lot=>wU n lot s) (([],[],[]):yp)).2.2,∃lot,G3 n land p lot)/\
 (∀ j (hj:j<land.length),j<i->0<=land[j].id->land[j].id<=1073741824->fG io land[j].id ((land.take i).foldl (λ s lot=>wU n lot s) (([],[],[]):yp)).2.1=some true)
 | 0,_=>by simp
 |i+1,hi=>by
  obtain⟨h1,h2⟩:=ai7 n land i (by omega);rw[je (show i<land.length by omega),List.foldl_append];generalize hs:(land.take i).foldl (λ s lot=>wU n lot s) (([],[],[]):yp)=s at h1 h2;simp only[foldl_cons,List.foldl_nil];have hi':i<land.length:=by omega
  cases hb:LA land[i] s.2.1 with
  |true=>
   have e:wU n land[i] s=s:=(by unfold wU;rw[hb];rfl);rw[e];refine⟨h1,λj hj hji h0 h3=>?_⟩;rcases Nat.lt_or_ge j i with h |h
   .exact h2 j hj h h0 h3
   .obtain rfl:j=i:=(by omega);unfold LA at hb;have e1:decide (land[j].id<0)=false:=(by simp;omega);have e2:decide (land[j].id>1073741824)=false:=(by simp;omega);rw[e1,e2]at hb;simp only[Bool.or_false]at hb;cases hm:fG io land[j].id s.2.1 with
    |none=>rw[hm]at hb;cases hb
    |some b=>rw[hm]at hb;simp only[Option.getD_some]at hb;rw[hb]
  |false=>
   have e:wU n land[i] s=((yd n land[i] (s.1,s.2.2)).1,nG io land[i].id true s.2.1,(yd n land[i] (s.1,s.2.2)).2):=(by unfold wU;rw[hb];rfl);rw[e];simp only[LA,Bool.or_eq_false_iff,dL]at hb;obtain⟨b1,b2,b3⟩:=hb;refine⟨λ p hp=>?_,λj hj hji h0 h3=>?_⟩
   .rcases amO hp with hp |⟨a,k,ha,hk,hbs,rfl⟩
    .exact h1 p hp
    .refine⟨land[i],?_,by omega,by omega,a,k,ha,hk,hbs,rfl⟩;rw[List.find?_eq_some_iff_getElem];refine⟨by simp[ux],i,hi',rfl,λj hj=>?_⟩;simp only[ux,Bool.not_eq_true',beq_eq_false_iff_ne];intro hj2;have:=h2 j (by omega) hj (by rw[hj2];omega) (by rw[hj2];omega);rw[hj2]at this;rw[this]at b1;cases b1
   .show fG io land[j].id (nG io land[i].id true s.2.1)=some true;rw[aaP];by_cases hij:land[j].id=land[i].id
    .rw[aZ hij]
    .rw[aT hij];rcases Nat.lt_or_ge j i with h |h
     .exact h2 j hj h h0 h3
     .obtain rfl:j=i:=(by omega);exact absurd rfl hij
theorem aaQ{land:U dw}{p:aY}(h:p∈dZ n land):∃lot,G3 n land p lot:=by
 have h1:=(wV n land).mem_iff.1 h;have:=(ai7 n land land.length (aG _)).1 p;rw[List.take_length]at this;exact this h1
def aqp(r:aA)(p:aY):aJ:=aJ.mk r.x0 r.y0 r.x1 r.y1 0 (i64.wrap (p.floors*3)) p.use (bif (p.use==(0:Int))then p.floors else 0) false
def Dr(n:Nat)(lot:dw)(p:aY):bD:=bD.mk p.lot [tL.mk [aqp (eb n lot p.cP).1 p] []]
def LB(n:Nat)(lot:dw)(p:aY):Bool:=(eb n lot p.cP).2&&(decide (p.lot=lot.id)&&(decide (0<=p.lot)&&(decide (p.lot<=1073741824)&&(decide (0<=p.use)&&(decide (p.use<6)&&(decide (1<=p.floors)&&decide (p.floors<=12)))))))
theorem XC{lot:dw}(ha:lot.area.length<=900)(hn:4000002<=n)(p:aY):oL n lot p=some (bif LB n lot p then(Dr n lot p,true)else(bD.mk 0 [],false)):=by
 unfold oL;rw[ack ha hn];simp only[af];have hk:((bif (!(eb n lot p.cP).2)then some true else(bif (p.lot !=(lot.id:Int))then some true else(bif (decide (p.lot<(0:Int)))then some true else(bif (decide (p.lot>(1073741824:Int)))then some true else(bif (decide (p.use<(0:Int)))then some true else(bif (decide (p.use>=(6:Int)))then some true else(bif (decide (p.floors<(1:Int)))then some true else some (decide (p.floors>(12:Int)))))))))):J (Bool))=some (!LB n lot p):=by
  unfold LB;have e1:(p.lot !=lot.id)=!decide (p.lot=lot.id):=by rw[iY];simp
  have e2:decide (p.lot<0)=!decide (0<=p.lot):=by rw[<- decide_not,decide_eq_decide];omega
  have e3:decide (p.lot>1073741824)=!decide (p.lot<=1073741824):=by rw[<- decide_not,decide_eq_decide];omega
  have e4:decide (p.use<0)=!decide (0<=p.use):=by rw[<- decide_not,decide_eq_decide];omega
  have e5:decide (p.use>=6)=!decide (p.use<6):=by rw[<- decide_not,decide_eq_decide];omega
  have e6:decide (p.floors<1)=!decide (1<=p.floors):=by rw[<- decide_not,decide_eq_decide];omega
  have e7:decide (p.floors>12)=!decide (p.floors<=12):=by rw[<- decide_not,decide_eq_decide];omega
  rw[e1,e2,e3,e4,e5,e6,e7];cases (eb n lot p.cP).2<;>cases decide (p.lot=lot.id)<;>cases decide (0<=p.lot)<;>cases decide (p.lot<=1073741824)<;>cases decide (0<=p.use)<;>cases decide (p.use<6)<;>cases decide (1<=p.floors)<;>rfl
 rw[hk];cases LB n lot p with
 |false=>rfl
 |true=>
  simp only[Bool.not_true,af,ak,aj,Dr,aqp];cases (p.use==(0:Int))<;>rfl
theorem aco{land:U dw}{p:aY}{lot:dw}(h:G3 n land p lot):LB n lot p=true:=by
 obtain⟨h1,h2,h3,i,k,hi,hk,hb,rfl⟩:=h;have e1:Int.tmod (k:Int) 6=((k%6:Nat):Int):=by rw[show (6:Int)=((6:Nat):Int)from rfl,<- Int.ofNat_tmod]
 have e2:Int.tdiv (k:Int) 6=((k/6:Nat):Int):=by rw[show (6:Int)=((6:Nat):Int)from rfl,<- Int.ofNat_tdiv]
 have e3:i64.wrap ((i64.wrap (Int.tdiv (k:Int) 6))+1)=((k/6+1:Nat):Int):=by rw[e2,Io (by omega),bQ (by omega)]
 simp only[LB,ux,e1,e3,hb,Bool.true_and,aN,aW];refine⟨trivial,h2,h3,?_,?_,?_,?_⟩<;>omega
theorem acp(n:Nat)(lot:dw)(p:aY):ye (Dr n lot p):=by refine⟨⟨by simp[Dr],λq hq=>?_⟩,λq hq=>?_⟩<;> · simp only[Dr,aR]at hq;subst hq;simp
theorem amP:ye (bD.mk 0 []):=by refine⟨⟨by simp,λq hq=>?_⟩,λq hq=>?_⟩<;>simp at hq
def gS:aY:=aY.mk 0 0 0 0
def uJ(n:Nat)(t:cu)(d:bD)(day:Int):Bool:=(Dq n t d==0)&&decide (vU n t d day=[])
theorem ai8{t:cu}{d:bD}(day:Int)(ht:yB t)(hd:ye d)(hn:QB n):jY n t d day=some (uJ n t d day):=akC day ht hd hn
def LL(land:U dw):Prop:=(∀ l∈land,l.area.length<=900)/\land.length<=500
def XX(n:Nat)(land:U dw)(p:aY):bD×Bool:=match land.find? λx=>x.id==p.lot with
 |none=>(bD.mk 0 [],false)
 |some lot=>bif LB n lot p then(Dr n lot p,true)else(bD.mk 0 [],false)
theorem ahn(n:Nat)(land:U dw)(h:land.length<=500):(dZ n land).length<=756000:=by
 have h1:=(wV n land).length_eq;have h2:=OH n land ([],[],[]);have h3:(qH n land).2.2.length<=1512*land.length:=by unfold qH;simpa using h2
 omega
def oY(t:cu)(p:bU):cu:=cu.mk p.defs p.tables p.zones p.rules p.caps p.views p.uu p.hours t.land t.co t.windows t.built t.base
def xw(l:U aY)(q:aY->Bool):aY×Bool:=match l.find? q with
 |some p=>(p,true)
 |none=>(gS,false)
theorem Fu(l:U aY)(q:aY->Bool):(∃ p,l.find? q=some p/\xw l q=(p,true)/\p∈l/\q p=true)\/(xw l q=(gS,false)/\∀p∈l,q p=false):=by
 unfold xw;cases h:l.find? q with
 |none=>exact .inr ⟨rfl,λp hp=>by have:=List.find?_eq_none.1 h p hp;simpa using this⟩
 |some p=>exact .inl ⟨p,rfl,rfl,List.mem_of_find?_eq_some h,List.find?_some h⟩
theorem ae3{l:U aY}{q:aY->Bool}(h:∀p∈l,q p=false):xw l q=(gS,false):=by
 unfold xw;rw[List.find?_eq_none.2 λp hp=>by rw[h p hp];decide]
theorem OI(j:Nat):decide (((j+1:Nat):Int)>0)=true:=by simp
theorem ae4:decide (((0:Nat):Int)>0)=false:=rfl
theorem pred_succ{j:Nat}(h:j<9223372036854775807):i64.wrap (((j+1:Nat):Int) -1)=(j:Int):=by rw[mX (by omega) (by omega)];simp
theorem QD{i n:Nat}(h:¬i<n):decide ((i:Int)<(n:Int))=false:=by simp;omega
theorem ai9(c1 c2:Bool):∃b,((bif c1 then some true else some c2):J Bool)=some b:=cO ⟨_,rfl⟩ ⟨_,rfl⟩
theorem qs2{a0 v2:U Int}{k:Nat}(hk:k<a0.length)(hl:v2.length<=1000)(hn:2000<=n):∃w:Nat,iter (qR a0 (k:Int) v2) n (v2.length:Int)=some (w:Int)/\w<=v2.length:=by
 obtain⟨o,h1,w,rfl,h2⟩:=AR (step:=qR a0 (k:Int) v2) (λ v=>∃j:Nat,v=(j:Int)/\j<=v2.length) (λ o=>∃j:Nat,o=(j:Int)/\j<=v2.length) Int.toNat (by
  rintro v ⟨j,rfl,hj⟩;cases j with
  |zero=>simp only[qR,ae4,ak,af];exact .inr ⟨_,rfl,0,rfl,hj⟩
  |succ j=>
   have hj':j<v2.length:=hj;simp only[qR,OI,aj,pred_succ (show j<9223372036854775807 by omega),aV hj',aX hj',bq hk,af];cases decide (v2[j]>a0[k])with
   |false=>exact .inr ⟨_,rfl,j+1,rfl,hj⟩
   |true=>exact .inl ⟨_,rfl,⟨j,rfl,by omega⟩,by omega⟩) n _ ⟨_,rfl,aG _⟩ (by omega)
 exact⟨w,h1,h2⟩
theorem qs3{r1:U Int}{w m:Nat}(hm:r1.length=m+1)(hw:w<=m)(hl:m<=1000)(hn:2000<=n):∃o,iter (qU (w:Int) r1) n (i64.wrap ((r1.length:Int) -1),r1)=some o/\o.length=r1.length:=by
 rw[hm,pred_succ (by omega)];obtain⟨o,h1,h2⟩:=AR (step:=qU (w:Int) r1) (λ v=>∃j:Nat,v.1=(j:Int)/\w<=j/\j<=m/\v.2.length=r1.length) (λ o=>o.length=r1.length) (λ v=>v.1.toNat) (by
  rintro⟨v,l⟩ ⟨j,rfl,hj,hjm,hlen⟩;simp only at hlen;by_cases h:w<j
  .obtain⟨j,rfl⟩:∃i,j=i+1:=⟨j -1,by omega⟩;have e:decide (((j+1:Nat):Int)>(w:Int))=true:=(by simp;omega);have a1:j<r1.length:=(by omega);have a2:j<l.length:=(by omega);have a3:j+1<r1.length:=(by omega);have a4:j+1<l.length:=(by omega);simp only[qU,e,aj,pred_succ (show j<9223372036854775807 by omega),aV a1,aX a2,aV a3,aX a4,af];exact .inl ⟨_,rfl,⟨j,rfl,by omega,by omega,by simpa using hlen⟩,by simp⟩
  .have e:decide ((j:Int)>(w:Int))=false:=(by simp;omega);simp only[qU,e,ak];exact .inr ⟨_,rfl,hlen⟩) n ((m:Int),r1) ⟨m,rfl,hw,aG _,rfl⟩ (by simp;omega)
 rw[<- hm];exact⟨o,h1,h2⟩
theorem amR{a0:U Int}(hl:a0.length<=1000)(hn:2000<=n):∃o,ES n a0=some o/\o.length<=a0.length:=by
 obtain⟨o,h1,h2⟩:=dK (step:=vR n a0) (λ i (v:Int×List Int)=>v.1=(i:Int)/\i<=a0.length/\v.2.length<=i) (λ o=>o.length<=a0.length) a0.length (λ k v h=>h.2.1) (by
  rintro i ⟨v,l⟩ ⟨hv,hi,ro⟩;simp only at hv ro;subst hv;by_cases hlt:i<a0.length
  .obtain⟨w,e1,hw⟩:=qs2 (n:=n) (v2:=l) hlt (by omega) hn;have hv5:∃b,((bif (decide ((w:Int)>(0:Int)))then(ck (cN (i64.wrap ((w:Int) -1)) l.length) ((bo l ((0:Nat)+(i64.wrap ((w:Int) -1)):Int)).bind λx3=>some (x3==a0[i])))else some false):J Bool)=some b:=by
    cases w with
    |zero=>exact⟨false,rfl⟩
    |succ w=>
     have hw':w<l.length:=hw;simp only[OI,aj,pred_succ (show w<9223372036854775807 by omega),aV hw',aX hw',af];exact⟨_,rfl⟩
   obtain⟨b,e2⟩:=hv5;have hap:bP l.length l.length 1 1 8=true:=dm (by omega) (by simp only[maxLen];omega);obtain⟨o,e3,ho⟩:=qs3 (n:=n) (r1:=l++[0]) (w:=w) (m:=l.length) (by simp) hw (by omega) hn;have hz:sub ([0]:U Int) 0 1=[0]:=rfl;have ho':o.length=l.length+1:=(by rw[ho];simp);have i1:w<(l++[0]).length:=(by simp;omega);have i2:w<o.length:=(by omega);have e4:aE (l++[0]).length (o.set ((0:Nat)+(w:Int):Int).toNat a0[i]).length=true:=(by rw[List.length_set,ho];exact aF _);simp only[vR,bO hlt,aj,e1,af,e2,hz,length_singleton,hap,dS,e3,bq hlt,aV i1,aX i2,e4,aM i];cases b with
   |true=>simp only[aj,aF,af];exact .inl ⟨_,rfl,rfl,hlt,by show l.length<=_;omega⟩
   |false=>simp only[ak,aF,af,aj];exact .inl ⟨_,rfl,rfl,hlt,by show(o.set _ _).length<=_;rw[List.length_set];omega⟩
  .obtain rfl:i=a0.length:=(by omega);simp only[vR,bW,ak,aF,aj];exact .inr ⟨_,rfl,ro⟩) n 0 ((0:Int),([]:U Int)) ⟨rfl,Nat.zero_le _,aG _⟩ (by omega)
 have hz:aE 0 ([]:U Int).length=true:=rfl;exact⟨o,by simp only[ES,hz,aj,h1,af,bZ,aF],h2⟩
theorem aox{a:U aA}(hl:a.length<=400)(hn:2000<=n):∃o,Kl n a []=some o/\o.length<=2*a.length:=by
 obtain⟨o,h1,h2⟩:=dK (step:=yj a) (λ i (v:Int×List Int)=>v.1=(i:Int)/\i<=a.length/\v.2.length=2*i) (λ o=>o.length=2*a.length) a.length (λ k v h=>h.2.1) (by
  rintro i ⟨v,l⟩ ⟨hv,hi,ro⟩;simp only at hv ro;subst hv;by_cases hlt:i<a.length
  .have hap:bP l.length l.length 2 2 8=true:=dm (by omega) (by simp only[maxLen];omega);simp only[yj,bO hlt,aj,bq hlt,af,show ∀x y:Int,sub ([x,y]:U Int) 0 2=[x,y]from λ_ _=>rfl,bG,length_nil,Nat.zero_add,Nat.reduceAdd,hap,dS,aF,aM i];exact .inl ⟨_,rfl,rfl,hlt,by simp;omega⟩
  .obtain rfl:i=a.length:=(by omega);simp only[yj,bW,ak,aF,aj];exact .inr ⟨_,rfl,ro⟩) n 0 ((0:Int),([]:U Int)) ⟨rfl,Nat.zero_le _,rfl⟩ (by omega)
 obtain⟨m,rfl⟩:∃m,n=m+1:=⟨n -1,by omega⟩;have e2:iter (EU []) (m+1) ((0:Int),o)=some o:=fF (by
  have hz:decide ((0:Int)<((([]:U aA).length:Int):Int))=false:=rfl;simp only[EU,hz,ak,aF,aj])
 obtain⟨p,e3,h3⟩:=amR (n:=m+1) (a0:=o) (by omega) hn;have hz:aE 0 ([]:U Int).length=true:=rfl;exact⟨p,by simp only[Kl,hz,aj,h1,af,aF,e2,bZ,e3],by omega⟩
theorem qc2{a0:U aA}{k m:Nat}{r1 r2:U Int}(hk:k<a0.length)(h1:r1.length=m+1)(h2:r2.length=m+1)(hm:m<=1000)(hn:2000<=n):∃(w:Nat)(o1 o2:U Int),iter (qV a0 (k:Int) r1 r2) n ((m:Int),r1,r2)=some ((w:Int),o1,o2)/\w<=m/\o1.length=m+1/\o2.length=m+1:=by
 obtain⟨⟨o,o1,o2⟩,g1,w,rfl,g2⟩:=AR (step:=qV a0 (k:Int) r1 r2) (λ v=>∃j:Nat,v.1=(j:Int)/\j<=m/\v.2.1.length=m+1/\v.2.2.length=m+1) (λ o=>∃j:Nat,o.1=(j:Int)/\j<=m/\o.2.1.length=m+1/\o.2.2.length=m+1) (λ v=>v.1.toNat) (by
  rintro⟨v,l1,l2⟩ ⟨j,rfl,hj,hl1,hl2⟩;simp only at hl1 hl2;cases j with
  |zero=>simp only[qV,ae4,ak,af];exact .inr ⟨_,rfl,0,rfl,hj,hl1,hl2⟩
  |succ j=>
   have a1:j<r1.length:=(by omega);have a2:j<l1.length:=(by omega);have a3:j+1<r1.length:=(by omega);have a4:j+1<l1.length:=(by omega);have b1:j<r2.length:=(by omega);have b2:j<l2.length:=(by omega);have b3:j+1<r2.length:=(by omega);have b4:j+1<l2.length:=(by omega);simp only[qV,OI,aj,pred_succ (show j<9223372036854775807 by omega),aV a1,aX a2,bq hk,aV a3,aX a4,aV b1,aX b2,aV b3,aX b4,af];cases decide (l1[j]>a0[k].y0)with
   |false=>exact .inr ⟨_,rfl,j+1,rfl,hj,hl1,hl2⟩
   |true=>exact .inl ⟨_,rfl,⟨j,rfl,by omega,by simpa using hl1,by simpa using hl2⟩,by simp⟩) n ((m:Int),r1,r2) ⟨m,rfl,aG _,h1,h2⟩ (by simp;omega)
 exact⟨w,o1,o2,g1,g2⟩
theorem qc1{a0:U aA}(x:Int)(hl:a0.length<=400)(hn:2000<=n):∃o1 o2:U Int,iter (qW n a0 x) n ((0:Int),([]:U Int),([]:U Int))=some (o1,o2)/\o1.length=o2.length/\o1.length<=a0.length:=by
 obtain⟨⟨o1,o2⟩,g1,g2⟩:=dK (step:=qW n a0 x) (λ i (v:Int×List Int×List Int)=>v.1=(i:Int)/\i<=a0.length/\v.2.1.length=v.2.2.length/\v.2.1.length<=i) (λ o=>o.1.length=o.2.length/\o.1.length<=a0.length) a0.length (λ k v h=>h.2.1) (by
  rintro i ⟨v,l1,l2⟩ ⟨hv,hi,ro,hl2⟩;simp only at hv ro hl2;subst hv;by_cases hlt:i<a0.length
  .have hap:bP l1.length l1.length 1 1 8=true:=dm (by omega) (by simp only[maxLen];omega);have Ts:bP l2.length l2.length 1 1 8=true:=ro ▸ hap;have hz:sub ([0]:U Int) 0 1=[0]:=rfl;obtain⟨w,p1,p2,e1,hw,hp1,hp2⟩:=qc2 (n:=n) (a0:=a0) (k:=i) (m:=l1.length) (r1:=l1++[0]) (r2:=l2++[0]) hlt (by simp) (by simp[ro]) (by omega) hn;have i1:w<(l1++[0]).length:=(by simp;omega);have i2:w<p1.length:=(by omega);have i3:w<(l2++[0]).length:=(by simp;omega);have i4:w<p2.length:=(by omega);have f1:∀y:Int,aE (l1++[0]).length (p1.set ((0:Nat)+(w:Int):Int).toNat y).length=true:=λy=>(by rw[List.length_set,hp1];exact Ey (by simp));have f2:∀y:Int,aE (l2++[0]).length (p2.set ((0:Nat)+(w:Int):Int).toNat y).length=true:=λy=>(by rw[List.length_set,hp2];exact Ey (by simp[ro]));have⟨b,hb⟩:=ai9 (decide (a0[i].x0>(x:Int))) (decide (a0[i].x1<=(x:Int)));simp only[qW,bO hlt,aj,bq hlt,af,hb,hz,length_singleton,hap,Ts,dS,e1,aV i1,aX i2,aV i3,aX i4,f1,f2,aM i];cases b with
   |true=>simp only[aj,aF,af];exact .inl ⟨_,rfl,rfl,hlt,ro,by show l1.length<=_;omega⟩
   |false=>
    simp only[ak,aj,aF,af];exact .inl ⟨_,rfl,rfl,hlt,by simp only[List.length_set];omega,by simp only[List.length_set];omega⟩
  .obtain rfl:i=a0.length:=(by omega);simp only[qW,bW,ak,aF,aj];exact .inr ⟨_,rfl,ro,hl2⟩) n 0 ((0:Int),([]:U Int),([]:U Int)) ⟨rfl,Nat.zero_le _,rfl,aG _⟩ (by omega)
 exact⟨o1,o2,g1,g2⟩
theorem ae5{a0:U aA}(x:Int)(hl:a0.length<=400)(hn:2000<=n):∃o,zb n a0 x=some o/\o.length<=2*a0.length:=by
 have⟨w4,w5,g1,g2,g3⟩:=qc1 (n:=n) (a0:=a0) x hl hn;obtain⟨o,h1,h2⟩:=dK (step:=qX w4 w5) (λ i (v:Int×List Int)=>v.1=(i:Int)/\i<=w4.length/\v.2.length<=2*i) (λ o=>o.length<=2*w4.length) w4.length (λ k v h=>h.2.1) (by
  rintro i ⟨v,l⟩ ⟨hv,hi,ro⟩;simp only at hv ro;subst hv;by_cases hlt:i<w4.length
  .have xm:i<w5.length:=(by omega);have hap:bP l.length l.length 2 2 8=true:=dm (by omega) (by simp only[maxLen];omega);have hs:∀x y:Int,sub ([x,y]:U Int) 0 2=[x,y]:=λ_ _=>rfl;cases hL:l.length with
   |zero=>
    have hz0:decide ((l.length:Int)>0)=false:=(by rw[hL];rfl);simp only[qX,bO hlt,aj,hz0,ak,af,aV hlt,aX hlt,aV xm,aX xm,hs,bG,length_nil,Nat.zero_add,Nat.reduceAdd,hap,dS,aF,aM i];exact .inl ⟨_,rfl,rfl,hlt,by simp;omega⟩
   |succ m=>
    have hm:m<l.length:=(by omega);have hpos:decide ((l.length:Int)>0)=true:=(by rw[hL];exact OI m);have hpred:i64.wrap ((l.length:Int) -1)=(m:Int):=(by rw[hL];exact pred_succ (by omega));have f1:∀y:Int,aE l.length (l.set ((0:Nat)+(m:Int):Int).toNat y).length=true:=λy=>(by rw[List.length_set];exact aF _);simp only[qX,bO hlt,aj,hpos,hpred,af,aV hlt,aX hlt,aV xm,aX xm,aV hm,aX hm,hs,bG,length_nil,Nat.zero_add,Nat.reduceAdd,hap,dS,f1,aF,aM i];cases decide (w4[i]<=l[m])with
    |true=>exact .inl ⟨_,rfl,rfl,hlt,by show(l.set _ _).length<=_;rw[List.length_set];omega⟩
    |false=>exact .inl ⟨_,rfl,rfl,hlt,by show(l++_).length<=_;simp;omega⟩
  .obtain rfl:i=w4.length:=(by omega);simp only[qX,bW,ak,aF,aj];exact .inr ⟨_,rfl,ro⟩) n 0 ((0:Int),([]:U Int)) ⟨rfl,Nat.zero_le _,aG _⟩ (by omega)
 have hz:aE 0 ([]:U Int).length=true:=rfl;exact⟨o,by simp only[zb,hz,aj,g1,h1,af,bZ,aF],by omega⟩
theorem akF{a0:U Int}(hl:a0.length<=1000)(hn:2000<=n):∃o,AL n a0 [] 0=some o/\o.length<=a0.length:=by
 obtain⟨o,h1,h2⟩:=dK (step:=uz a0 [] 0) (λ i (v:Int×Int×Bool×List Int)=>v.1=(i:Int)/\v.2.1=0/\i<=a0.length/\v.2.2.2.length<=i) (λ o=>o.length<=a0.length) a0.length (λ k v h=>h.2.2.1) (by
  rintro i ⟨v,v2,v3,l⟩ ⟨hv,hv2,hi,ro⟩;simp only at hv hv2 ro;subst hv;subst hv2;have z1:decide ((0:Int)<((([]:U Int).length:Int):Int))=false:=rfl;have z2:decide ((0:Int)>=((([]:U Int).length:Int):Int))=true:=rfl;by_cases hlt:i<a0.length
  .have hap:bP l.length l.length 1 1 8=true:=dm (by omega) (by simp only[maxLen];omega);have be:∀x:Int,(x==x)=true:=λx=>(by simp);have⟨b,hb⟩:=ai9 (Int.tmod ((i+1:Nat):Int) 2==(1:Int)) (Int.tmod (0:Int) 2==(1:Int));simp only[uz,bO hlt,aj,z1,z2,bq hlt,af,be,ak,aM i,show((2:Nat) !=0)=true from rfl,show((2:Int) !=0)=true from rfl,hb,show((0:Int)==1)=false from rfl,show((0:Int)==2)=false from rfl,show ∀x:Int,sub ([x]:U Int) 0 1=[x]from λ_=>rfl,length_singleton,hap,dS,aF];cases (!(b==v3))with
   |true=>exact .inl ⟨_,rfl,rfl,rfl,hlt,by show(l++_).length<=_;simp;omega⟩
   |false=>exact .inl ⟨_,rfl,rfl,rfl,hlt,by show l.length<=_;omega⟩
  .obtain rfl:i=a0.length:=(by omega);simp only[uz,bW,ak,z1,af,aF,aj];exact .inr ⟨_,rfl,ro⟩) n 0 ((0:Int),(0:Int),false,([]:U Int)) ⟨rfl,rfl,Nat.zero_le _,aG _⟩ (by omega)
 have hz:aE 0 ([]:U Int).length=true:=rfl;exact⟨o,by simp only[AL,hz,aj,h1,af,bZ,aF],h2⟩
theorem XS{α O:Type}{l:U α}{step:Int->J (Int⊕(Unit⊕O))}(h1:∀i (hi:i<l.length),(∃ o,step (i:Int)=some (.inr (.inr o)))\/step (i:Int)=some (.inl ((i+1:Nat):Int)))
 (h2:step (l.length:Int)=some (.inr (.inl ()))) (hn:l.length<n):(∃ o,iter step n (0:Int)=some (.inr o))\/iter step n (0:Int)=some (.inl ()):=by
 obtain⟨o,g1,_⟩:=dK (step:=step) (λ i (v:Int)=>v=(i:Int)/\i<=l.length) (λ _=>True) l.length (λ k v h=>h.2) (by
  rintro i v ⟨rfl,hi⟩;by_cases hlt:i<l.length
  .rcases h1 i hlt with ⟨o,h⟩ |h
   .exact .inr ⟨_,h,trivial⟩
   .exact .inl ⟨_,h,rfl,hlt⟩
  .obtain rfl:i=l.length:=(by omega);exact .inr ⟨_,h2,trivial⟩) n 0 0 ⟨rfl,Nat.zero_le _⟩ (by omega)
 rcases o with ⟨⟩ |o
 .exact .inr g1
 .exact .inl ⟨o,g1⟩
theorem apJ{a b:U Int}(hl:a.length<=1000)(hn:2000<=n):∃r,Og n a b=some r:=by
 unfold Og;by_cases h:a.length=b.length
 .have e:((a.length:Int) !=(b.length:Int))=false:=by simp[h]
  rw[e];simp only[ak];rcases XS (l:=a) (n:=n) (step:=AO a b) (λ i hi=>by
   simp only[AO,bO hi,aj,bq hi,bq (show i<b.length by omega),af,aM i];cases (a[i] !=b[i]'(by omega))with
   |true=>exact .inl ⟨_,rfl⟩
   |false=>exact .inr rfl) (by simp only[AO,bW,ak]) (by omega)with ⟨o,h⟩ |h
  .rw[h];exact⟨_,rfl⟩
  .rw[h];exact⟨_,rfl⟩
 .have e:((a.length:Int) !=(b.length:Int))=true:=by simpa using λe:(a.length:Int)=(b.length:Int)=>h (by omega)
  rw[e];exact⟨_,rfl⟩
theorem qf2{r1:U Int}{k:Nat}{v3:U aA}{q:Nat}(hk:k+1<r1.length)(hl:r1.length<=1000)(h3:v3.length<=100000)(hn:200000<=n):∃o,iter (wP r1 (k:Int) v3) n ((q:Int),v3)=some o/\o.length=v3.length:=by
 refine AR (step:=wP r1 (k:Int) v3) (λ v=>∃j:Nat,v.1=(j:Int)/\v.2.length=v3.length) (λ o=>o.length=v3.length) (λ v=>v3.length -v.1.toNat) (by
  rintro⟨v,l⟩ ⟨j,rfl,hl⟩;simp only at hl;by_cases hlt:j<v3.length
  .have hj:j<l.length:=(by omega);simp only[wP,bO hlt,aj,aM k,aV hk,aX hk,aV hlt,aX hj,af,aM j];exact .inl ⟨_,rfl,⟨j+1,rfl,by simpa using hl⟩,by simp only[Int.toNat_natCast];omega⟩
  .simp only[wP,QD hlt,ak];exact .inr ⟨_,rfl,hl⟩) n ((q:Int),v3) ⟨q,rfl,rfl⟩ (by omega)
theorem qf3{r1 r4:U Int}{k:Nat}{v3:U aA}(hk:k+1<r1.length)(hl:r1.length<=1000)(h4:r4.length<=1000)(h3:v3.length<=100000)(hn:200000<=n):∃o,iter (wQ r1 (k:Int) r4) n ((0:Int),v3)=some o/\o.length<=v3.length+r4.length:=by
 refine AR (step:=wQ r1 (k:Int) r4) (λ v=>∃j:Nat,v.1=(j:Int)/\j<=r4.length/\v.2.length<=v3.length+j) (λ o=>o.length<=v3.length+r4.length) (λ v=>r4.length -v.1.toNat) (by
  rintro⟨v,l⟩ ⟨j,rfl,hj,hl⟩;simp only at hl;by_cases hlt:j+1<r4.length
  .have hj:j<r4.length:=(by omega);have hk':k<r1.length:=(by omega);have hap:bP l.length l.length 1 1 32=true:=dm (by omega) (by simp only[maxLen];omega);have w2:i64.wrap ((j:Int)+2)=((j+2:Nat):Int):=(by rw[dX (by omega) (by omega)];omega);simp only[wQ,aM j,bO hlt,aj,aM k,aV hk,aX hk,aV hk',aX hk',aV hj,aX hj,aV hlt,aX hlt,af,show ∀x:aA,sub ([x]:U aA) 0 1=[x]from λ_=>rfl,length_singleton,hap,dS,aF,w2];exact .inl ⟨_,rfl,⟨j+2,rfl,by omega,by simp;omega⟩,by simp only[Int.toNat_natCast];omega⟩
  .simp only[wQ,aM j,QD hlt,ak,aF,aj];exact .inr ⟨_,rfl,by omega⟩) n ((0:Int),v3) ⟨0,rfl,Nat.zero_le _,by simp⟩ (by simp;omega)
theorem apK{a:U aA}(hl:a.length<=4)(hn:200000<=n):∃o,Oh n a [] 0=some o:=by
 obtain⟨r1,e1,h1⟩:=aox (n:=n) (a:=a) (by omega) (by omega);obtain⟨o,g1,_⟩:=dK (step:=AP n a [] 0 r1) (λ i (v:Int×Int×List aA×List Int)=>(∃ q:Nat,v.1=(q:Int))/\v.2.1=(i:Int)/\i<=r1.length/\v.2.2.1.length<=8*i/\v.2.2.2.length<=8) (λ _=>True) r1.length (λ k v h=>h.2.2.1) (by
  rintro i ⟨v1,v2,v3,v4⟩ ⟨⟨q,hq⟩,hv,hi,h3,h4⟩;simp only at hq hv h3 h4;subst hq;subst hv;by_cases hlt:i+1<r1.length
  .have hi':i<r1.length:=(by omega);obtain⟨r2,e2,h2⟩:=ae5 (n:=n) (a0:=a) r1[i] (by omega) (by omega);obtain⟨r3,e3,h3'⟩:=ae5 (n:=n) (a0:=[]) r1[i] (by simp) (by omega);obtain rfl:r3=[]:=List.eq_nil_of_length_eq_zero (by simpa using h3');obtain⟨r4,e4,h4'⟩:=akF (n:=n) (a0:=r2) (by omega) (by omega);obtain⟨b5,e5⟩:=apJ (n:=n) (a:=r4) (b:=v4) (by omega) (by omega);have hv5:∃b,((bif (decide ((i:Int)>(0:Int)))then(bif (decide ((r4.length:Int)>(0:Int)))then some b5 else some false)else some false):J Bool)=some b:=cO (cO ⟨_,rfl⟩ ⟨_,rfl⟩) ⟨_,rfl⟩;obtain⟨b,e6⟩:=hv5;obtain⟨o2,f2,k2⟩:=qf2 (n:=n) (r1:=r1) (k:=i) (v3:=v3) (q:=q) hlt (by omega) (by omega) hn;obtain⟨o3,f3,k3⟩:=qf3 (n:=n) (r1:=r1) (r4:=r4) (k:=i) (v3:=v3) hlt (by omega) (by omega) (by omega) hn;have e7:aE v3.length o2.length=true:=Ey k2.symm;simp only[AP,aM i,bO hlt,aj,aV hi',aX hi',af,e2,e3,bZ,aF,e4,e5,e6,f2,f3,e7];cases b with
   |true=>exact .inl ⟨_,rfl,⟨q,rfl⟩,rfl,by omega,by show o2.length<=_;omega,h4⟩
   |false=>exact .inl ⟨_,rfl,⟨_,rfl⟩,rfl,by omega,by show o3.length<=_;omega,by show r4.length<=_;omega⟩
  .simp only[AP,aM i,QD hlt,ak,aF,aj];exact .inr ⟨_,rfl,trivial⟩) n 0 ((0:Int),(0:Int),([]:U aA),([]:U Int)) ⟨⟨0,rfl⟩,rfl,Nat.zero_le _,aG _,Nat.zero_le _⟩ (by omega)
 have hz:aE 0 ([]:U aA).length=true:=rfl;have hz2:aE 0 ([]:U Int).length=true:=rfl;exact⟨o,by simp only[Oh,e1,af,hz,hz2,aj,g1,bZ,aF]⟩
theorem aoy{a:U aA}(hl:a.length<=4)(hn:200000<=n):∃b,Kn n a=some b:=by
 have⟨f,hf⟩:=apK (n:=n) hl hn;have hO:∃o,PM n a=some o:=by
  unfold PM;have xr:decide ((a.length:Int)>400)=false:=by simp;omega
  rcases XS (l:=a) (n:=n) (step:=Km a) (λ i hi=>by
   have hr:∃b,vQ a[i]=some b:=by
    unfold vQ;exact cO (cO (cO (cO (cO ⟨_,rfl⟩ ⟨_,rfl⟩) ⟨_,rfl⟩) ⟨_,rfl⟩) ⟨_,rfl⟩) ⟨_,rfl⟩
   obtain⟨b,hb⟩:=hr;simp only[Km,bO hi,aj,bq hi,af,hb,aM i];cases b with
   |false=>exact .inl ⟨_,rfl⟩
   |true=>exact .inr rfl) (by simp only[Km,bW,ak]) (by omega)with ⟨o,h⟩ |h
  .rw[h];exact⟨_,rfl⟩
  .rw[h];simp only[eO,xr,ak,hf,af,bZ,aF,aj];exact cO ⟨_,rfl⟩ ⟨_,rfl⟩
 obtain⟨o,ho⟩:=hO;unfold Kn;rw[ho];simp only[af,bZ,aF,aj];refine cO ?_ ⟨_,rfl⟩;have hS:∃r,Oi n o.1 a=some r:=by
  unfold Oi;by_cases h:o.1.length=a.length
  .have e:((o.1.length:Int) !=(a.length:Int))=false:=(by simp[h]);rw[e];simp only[ak];rcases XS (l:=o.1) (n:=n) (step:=AQ o.1 a) (λ i hi=>by
    simp only[AQ,bO hi,aj,bq hi,bq (show i<a.length by omega),af,aM i];generalize (!((o.1[i].x0==((a[i]'(by omega)).x0:Int))&&((o.1[i].y0==((a[i]'(by omega)).y0:Int))&&((o.1[i].x1==((a[i]'(by omega)).x1:Int))&&((o.1[i].y1==((a[i]'(by omega)).y1:Int))&&true)))))=c;cases c with
    |true=>exact .inl ⟨_,rfl⟩
    |false=>exact .inr rfl) (by simp only[AQ,bW,ak]) (by omega)with ⟨o,h⟩ |h
   .rw[h];exact⟨_,rfl⟩
   .rw[h];exact⟨_,rfl⟩
  .have e:((o.1.length:Int) !=(a.length:Int))=true:=(by simpa using λe:(o.1.length:Int)=(a.length:Int)=>h (by omega));rw[e];exact⟨_,rfl⟩
 obtain⟨r,hr⟩:=hS;rw[hr];exact⟨_,rfl⟩
theorem amT{a:U aA}(hl:a.length<=4)(hn:200000<=n):∃b,EW n a=some b:=by
 unfold EW;cases a with
 |nil=>exact⟨_,rfl⟩
 |cons r l=>
  have⟨b,hb⟩:=aoy (n:=n) hl hn;have e:((((r::l).length:Nat):Int)==0)=false:=by simp;omega
  rw[hb,e];simp only[ak,af];refine cO ⟨_,rfl⟩ ?_;have g0:bo (r::l) 0=some r:=rfl;obtain⟨o,g1,_⟩:=dK (step:=vS (r::l) r) (λ i (v:Int×Int×Int×Int×Int)=>v.1=(i:Int)/\i<=(r::l).length) (λ _=>True) (r::l).length (λ k v h=>h.2) (by
   rintro i ⟨v,v3,v4,v5,v6⟩ ⟨hv,hi⟩;simp only at hv;subst hv;by_cases hlt:i<(r::l).length
   .simp only[vS,bO hlt,aj,bq hlt,af,aM i];exact .inl ⟨_,rfl,rfl,hlt⟩
   .obtain rfl:i=(r::l).length:=(by omega);simp only[vS,bW,ak];exact .inr ⟨_,rfl,trivial⟩) n 1 ((1:Int),r.x0,r.y0,r.x1,r.y1) ⟨rfl,by simp⟩ (by omega)
  simp only[g0,af,g1];exact⟨_,rfl⟩
theorem XD{α:Type}{l:U α}{step:Int->J (Int⊕(Unit⊕Bool))}{good:α->Prop}(h1:∀i (hi:i<l.length),step (i:Int)=some (.inr (.inr false))\/(step (i:Int)=some (.inl ((i+1:Nat):Int))/\good l[i]))
 (h2:step (l.length:Int)=some (.inr (.inl ()))) (hn:l.length<n):iter step n (0:Int)=some (.inr false)\/(iter step n (0:Int)=some (.inl ())/\∀x∈l,good x):=by
 obtain⟨o,g1,g2⟩:=dK (step:=step) (λ i (v:Int)=>v=(i:Int)/\i<=l.length/\∀x∈l.take i,good x) (λ o=>o= .inr false\/(o= .inl ()/\∀x∈l,good x)) l.length (λ k v h=>h.2.1) (by
  rintro i v ⟨rfl,hi,hall⟩;by_cases hlt:i<l.length
  .rcases h1 i hlt with h |⟨h,hg⟩
   .exact .inr ⟨_,h,.inl rfl⟩
   .refine .inl ⟨_,h,rfl,hlt,λx hx=>?_⟩;rw[List.take_add_one,dU hlt,bn]at hx;rcases hx with hx |hx
    .exact hall x hx
    .simp at hx;subst hx;exact hg
  .obtain rfl:i=l.length:=(by omega);exact .inr ⟨_,h2,.inr ⟨rfl,λx hx=>hall x (by rw[List.take_length];exact hx)⟩⟩) n 0 0 ⟨rfl,Nat.zero_le _,by simp⟩ (by omega)
 rcases g2 with rfl |⟨rfl,g2⟩
 .exact .inl g1
 .exact .inr ⟨g1,g2⟩
theorem acr(hn:4000002<=n):∀(m:Nat)(e:cK),(toE e).wt<m->(toE e).wt<=4000000->∃r,vz n m e=some r
 | 0,_,h,_=>absurd h (by omega)
 |m+1,e,h,hw=>by
  have hla:=ab9 e;show ∃r,ER n (vz n m) e=some r;simp only[ER];obtain⟨o,g1,_⟩:=dK (step:=AJ (vz n m) e) (λ i (v:Int×Int)=>v.2=(i:Int)/\i<=e.args.length) (λ _=>True) e.args.length (λ k v h=>h.2) (by
   rintro i ⟨v1,v2⟩ ⟨hv,hi⟩;simp only at hv;subst hv;by_cases hlt:i<e.args.length
   .have hwx:=Z2 (getElem_mem hlt);obtain⟨r,hr⟩:=acr hn m e.args[i] (by omega) (by omega);simp only[AJ,bO hlt,aj,bq hlt,af,hr,aM i];exact .inl ⟨_,rfl,rfl,hlt⟩
   .obtain rfl:i=e.args.length:=(by omega);simp only[AJ,bW,ak];exact .inr ⟨_,rfl,trivial⟩) n 0 ((1:Int),(0:Int)) ⟨rfl,Nat.zero_le _⟩ (by omega)
  rw[g1];exact⟨_,rfl⟩
structure N2(p:bU):Prop where
 defs:gR p.defs
 rules:∀r∈p.rules,(toE (kq r)).wt<=4000000
structure G0(p:bU):Prop where
 defs:p.defs.length<=5
 rules:p.rules.length<=5
 rule:∀r∈p.rules,Qy r
 tabs:p.tables.length<=4/\∀t∈p.tables,t.rows.length<=8
 zones:p.zones.length<=5
 caps:p.caps.length<=3
theorem aho{p:bU}(hp:N2 p)(hn:4000002<=n):∃b,wO n p=some b/\(b=true->G0 p):=by
 have no:∃b,some false=some b/\(b=true->G0 p):=⟨false,rfl,λh=>(by cases h)⟩;unfold wO;have hk:((bif (decide ((p.defs.length:Int)>(5:Int)))then some true else(bif (decide ((p.rules.length:Int)>(5:Int)))then some true else(bif (decide ((p.tables.length:Int)>(4:Int)))then some true else(bif (decide ((p.zones.length:Int)>(5:Int)))then some true else some (decide ((p.caps.length:Int)>(3:Int))))))):J (Bool))=some (decide (p.defs.length>5\/p.rules.length>5\/p.tables.length>4\/p.zones.length>5\/p.caps.length>3)):=by
  have c:∀a k:Nat,decide ((a:Int)>(k:Int))=decide (a>k):=λa k=>by rw[decide_eq_decide];omega
  have e1:=c p.defs.length 5;have e2:=c p.rules.length 5;have e3:=c p.tables.length 4;have e4:=c p.zones.length 5;have e5:=c p.caps.length 3;rw[show decide ((p.defs.length:Int)>(5:Int))=_ from e1,show decide ((p.rules.length:Int)>(5:Int))=_ from e2,show decide ((p.tables.length:Int)>(4:Int))=_ from e3,show decide ((p.zones.length:Int)>(5:Int))=_ from e4,show decide ((p.caps.length:Int)>(3:Int))=_ from e5,Bool.decide_or,Bool.decide_or,Bool.decide_or,Bool.decide_or];cases decide (p.defs.length>5)<;>cases decide (p.rules.length>5)<;>cases decide (p.tables.length>4)<;>cases decide (p.zones.length>5)<;>rfl
 rw[hk];by_cases hc:p.defs.length>5\/p.rules.length>5\/p.tables.length>4\/p.zones.length>5\/p.caps.length>3
 .rw[decide_eq_true hc];exact no
 .rw[decide_eq_false hc];simp only[af,ak];have s1:=XD (l:=p.defs) (n:=n) (step:=um n p) (good:=λ_=>True) (λ i hi=>by
   obtain⟨r,hr⟩:=acr hn n _ (show _<n by have:=hp.defs.body (getElem_mem hi);omega) (hp.defs.body (getElem_mem hi));have hr':IV n (cK.mk p.defs[i].i9 p.defs[i].mf p.defs[i].k5 p.defs[i].iS p.defs[i].eL)=some r:=hr;simp only[um,bO hi,aj,bq hi,af,hr',aM i];cases decide (r>30)with
   |true=>exact .inl rfl
   |false=>exact .inr ⟨rfl,trivial⟩) (by simp only[um,bW,ak]) (by omega)
  have s2:=XD (l:=p.rules) (n:=n) (step:=uo n p) (good:=Qy) (λ i hi=>by
   obtain⟨r,hr⟩:=acr hn n (kq p.rules[i]) (show _<n by have:=hp.rules _ (getElem_mem hi);omega) (hp.rules _ (getElem_mem hi));have hr':IV n (cK.mk p.rules[i].ld p.rules[i].mS p.rules[i].mN p.rules[i].j8 p.rules[i].gb)=some r:=hr;simp only[uo,bO hi,aj,bq hi,af,hr',aM i];by_cases c1:r>30
   .simp only[c1,decide_true,aj,af];exact .inl rfl
   .by_cases c2:(p.rules[i].zones.length:Int)>5
    .simp only[c1,c2,decide_true,decide_false,aj,ak,af];exact .inl rfl
    .by_cases c3:(p.rules[i].except.length:Int)>5
     .simp only[c1,c2,c3,decide_true,decide_false,aj,ak,af];exact .inl rfl
     .simp only[c1,c2,c3,decide_false,ak,af];exact .inr ⟨trivial,by omega,by omega⟩) (by simp only[uo,bW,ak]) (by omega)
  have s3:=XD (l:=p.tables) (n:=n) (step:=uq p) (good:=λt=>t.rows.length<=8) (λ i hi=>by
   simp only[uq,bO hi,aj,bq hi,af,aM i];by_cases c1:(p.tables[i].rows.length:Int)>8
   .simp only[c1,decide_true,aj];exact .inl rfl
   .simp only[c1,decide_false,ak];exact .inr ⟨trivial,by omega⟩) (by simp only[uq,bW,ak]) (by omega)
  have s4:=XD (l:=p.zones) (n:=n) (step:=uw p) (good:=λ_=>True) (λ i hi=>by
   simp only[uw,bO hi,aj,bq hi,af,aM i];cases decide ((p.zones[i].corners.length:Int)>12)with
   |true=>exact .inl rfl
   |false=>exact .inr ⟨rfl,trivial⟩) (by simp only[uw,bW,ak]) (by omega)
  have s5:=XD (l:=p.caps) (n:=n) (step:=uy p) (good:=λ_=>True) (λ i hi=>by
   simp only[uy,bO hi,aj,bq hi,af,aM i];cases decide ((p.caps[i].corners.length:Int)>12)with
   |true=>exact .inl rfl
   |false=>exact .inr ⟨rfl,trivial⟩) (by simp only[uy,bW,ak]) (by omega)
  rcases s1 with h |⟨h,_⟩
  .simpa only[h,iP]using no
  rcases s2 with h2 |⟨h2,g2⟩
  .simpa only[h,h2,iP,eO]using no
  rcases s3 with h3 |⟨h3,g3⟩
  .simpa only[h,h2,h3,iP,eO]using no
  rcases s4 with h4 |⟨h4,_⟩
  .simpa only[h,h2,h3,h4,iP,eO]using no
  rcases s5 with h5 |⟨h5,_⟩
  .simpa only[h,h2,h3,h4,h5,iP,eO]using no
  simp only[h,h2,h3,h4,h5,eO];exact⟨true,rfl,λ_=>⟨by omega,by omega,g2,⟨by omega,g3⟩,by omega,by omega⟩⟩
theorem akG(lot:dw)(hn:4000002<=n):∃b,EX n lot=some b/\(b=true->lot.area.length<=4):=by
 unfold EX;by_cases h:(lot.area.length:Int)>4
 .simp only[h,decide_true,aj];exact⟨false,rfl,λh=>(by cases h)⟩
 .obtain⟨r,hr⟩:=amT (n:=n) (a:=lot.area) (by omega) (by omega);simp only[h,decide_false,ak,hr,af];have:∃b,((bif (!r.2)then some true else(bif (decide ((i64.wrap (r.1.x1 -r.1.x0))<=(4:Int)))then some true else some (decide ((i64.wrap (r.1.y1 -r.1.y0))<=(4:Int))))):J Bool)=some b:=cO ⟨_,rfl⟩ (cO ⟨_,rfl⟩ ⟨_,rfl⟩);obtain⟨b,hb⟩:=this;exact⟨b,hb,λ_=>by omega⟩
def ly(t:cu):bU:=bU.mk t.cm t.br t.bu t.az t.ct t.b9 t.cE t.ca
structure LI(t:cu):Prop where
 land:t.land.length<=2/\∀l∈t.land,l.area.length<=4
 xz:t.co.length<=3/\∀e∈t.co,e.area.length<=4
 built:t.built.length<=6
theorem apL{t:cu}(hp:N2 (ly t))(hn:4000002<=n):∃b,UG n t=some b/\(b=true->G0 (ly t)/\LI t):=by
 have no:∃b,some false=some b/\(b=true->G0 (ly t)/\LI t):=⟨false,rfl,λh=>(by cases h)⟩;have⟨b,hb,hf⟩:=aho hp hn;have hb':wO n (bU.mk t.cm t.br t.bu t.az t.ct t.b9 t.cE t.ca)=some b:=hb;unfold UG;rw[hb'];cases b with
 |false=>exact no
 |true=>
  simp only[af,Bool.not_true,ak];by_cases c1:(t.land.length:Int)>2
  .simp only[c1,decide_true,aj,af];exact no
  by_cases c2:(t.co.length:Int)>3
  .simp only[c1,c2,decide_true,decide_false,aj,ak,af];exact no
  by_cases c3:(t.built.length:Int)>6
  .simp only[c1,c2,c3,decide_true,decide_false,aj,ak,af];exact no
  simp only[c1,c2,c3,decide_false,ak,af];have s1:=XD (l:=t.land) (n:=n) (step:=EY n t) (good:=λl=>l.area.length<=4) (λ i hi=>by
   have⟨b,hb,h4⟩:=akG (n:=n) t.land[i] hn;simp only[EY,bO hi,aj,bq hi,af,hb,aM i];cases b with
   |false=>exact .inl rfl
   |true=>exact .inr ⟨rfl,h4 rfl⟩) (by simp only[EY,bW,ak]) (by omega)
  have s2:=XD (l:=t.co) (n:=n) (step:=EZ t) (good:=λe=>e.area.length<=4) (λ i hi=>by
   simp only[EZ,bO hi,aj,bq hi,af,aM i];by_cases c1:(t.co[i].area.length:Int)>4
   .simp only[c1,decide_true,aj];exact .inl rfl
   .simp only[c1,decide_false,ak];exact .inr ⟨trivial,by omega⟩) (by simp only[EZ,bW,ak]) (by omega)
  rcases s1 with h |⟨h,g1⟩
  .simpa only[h,iP]using no
  rcases s2 with h2 |⟨h2,g2⟩
  .simpa only[h,h2,iP,eO]using no
  simp only[h,h2,eO];exact⟨true,rfl,λ_=>⟨hf rfl,⟨by omega,g1⟩,⟨by omega,g2⟩,by omega⟩⟩
theorem aoz{t:cu}{p:bU}(hz:N2 p)(hf:G0 p)(ht:LI t)(hr:∀l∈t.land,l.from_.length*8<=140737488355328):yB (oY t p) where
 lots:=λl hl=>⟨by have:=ht.land.2 l hl;omega,hr l hl⟩
 land:=by have:=ht.land.1;show t.land.length<=_;omega
 xz:=⟨by have:=ht.xz.1;show t.co.length<=_;omega,λe he=>by have:=ht.xz.2 e he;omega⟩
 built:=by have:=ht.built;show t.built.length<=_;omega
 zones:=by have:=hf.zones;show p.zones.length<=_;omega
 caps:=by have:=hf.caps;show p.caps.length<=_;omega
 rules:=by have:=hf.rules;show p.rules.length<=_;omega
 rule:=λr hr=>⟨hf.rule r hr,hz.rules r hr⟩
 plan:=⟨hz.defs,by have:=hf.tabs.1;show p.tables.length<=_;omega,λx hx=>by have:=hf.tabs.2 x hx;omega⟩
theorem amU{t:cu}(ht:LI t):LL t.land:=⟨λ l hl=>by have:=ht.land.2 l hl;omega,by have:=ht.land.1;omega⟩
def Hp(x y:aY):Bool:=(x.lot==(y.lot:Int))&&((x.use==(y.use:Int))&&((x.floors==(y.floors:Int))&&((x.cP==(y.cP:Int))&&true)))
theorem UM(x y:aY):Hp x y=true↔x=y:=by
 cases x;cases y;simp[Hp]
structure aqH(n:Nat)(t:cu)(l:List bU):Prop where
 land:LL t.land
 plans:∀p∈l,yB (oY t p)
 n:QB n
theorem n42:QB 5000003:=⟨aG _,by omega⟩
structure XN(t:cu):Prop where
 plan:N2 (ly t)
 zr:∀l∈t.land,l.from_.length*8<=140737488355328
theorem acs{ab:U ByteArray}{name:ByteArray}{bad:Bool}(h:ab≠[]):addN ab name bad≠[]:=by
 unfold addN;cases (bad&&!(ab.any (lw name)))with
 |false=>exact h
 |true=>simp
def zm(t:cu)(l:U bK):cu:=cu.mk t.cm t.br t.bu l t.ct t.b9 t.cE t.ca t.land t.co t.windows t.built t.base
theorem aaS{t:cu}{l:U bK}(ht:yB t)(hs:∀r∈l,r∈t.az)(h:l.length<=100):yB (zm t l) where
 lots:=ht.lots
 land:=ht.land
 xz:=ht.xz
 built:=ht.built
 zones:=ht.zones
 caps:=ht.caps
 rules:=h
 rule:=λr hr=>ht.rule r (hs r hr)
 plan:=⟨ht.plan.defs,ht.plan.tabs⟩
theorem ajb(f:bK->Bool):∀(l:U bK){ab:U ByteArray},ab≠[]->l.foldl (λ ab r=>addN ab r.name (f r)) ab≠[]
 |[],_,h=>h
 |r::l,_,h=>by rw[foldl_cons];exact ajb f l (acs h)
theorem ae7(f:bK->Bool):∀l:U bK,l.foldl (λ ab r=>addN ab r.name (f r)) []=[]↔∀r∈l,f r=false
 |[]=>by simp
 |r::l=>by
  rw[foldl_cons];cases hr:f r with
  |false=>
   rw[show addN [] r.name false=[]from rfl,ae7 f l];simp[hr]
  |true=>
   refine⟨λ h=>absurd h (ajb f l (by rw[show addN [] r.name true=[r.name]from rfl];simp)),λh=>?_⟩;have:=h r (by simp);rw[hr]at this;cases this
theorem amW{t:cu}{d:bD}{day:Int}{l:U bK}(hs:∀r∈l,r∈t.az)(h:uJ n t d day=true):uJ n (zm t l) d day=true:=by
 unfold uJ at h ⊢;have he:Dq n (zm t l) d=Dq n t d:=rfl;rw[aN,aW]at h ⊢;obtain⟨h1,h2⟩:=h;refine⟨h1,?_⟩;unfold vU at h2 ⊢;rw[he];rw[h1]at h2 ⊢;simp only[aj]at h2 ⊢;have hr:Bw n t (oF t d) d (applied t (oF t d) day)=[]:=rX λhne=>acs hne h2;have hr':Bw n (zm t l) (oF t d) d (applied (zm t l) (oF t d) day)=[]:=by
  have hf:(λ (ab:List ByteArray) (r:bK)=>addN ab r.name (Y6 n (zm t l) (oF t d) d r))=λab r=>addN ab r.name (Y6 n t (oF t d) d r):=rfl;unfold Bw at hr ⊢;rw[hf];rw[ae7]at hr ⊢;intro r hm;have hm:r∈l.filter (oC (jW t (oF t d)) day):=hm;rw[mem_filter]at hm;exact hr r (mem_filter.2 ⟨hs r hm.1,hm.2⟩)
 have hl:oF (zm t l) d=oF t d:=rfl;have hea:LN (zm t l) d=LN t d:=rfl;rw[hr]at h2;rw[hl,hr',hea];exact h2
def fR:U dw:=[dw.mk 1 0 [aA.mk 0 0 4 4] []]
def Do:cu:=cu.mk [] [] [] [] [] [] [] 0 fR [] [] [] []
def aqr(k:Int):bU:=bU.mk [] [] [] [(bK.mk (⟨#[97]⟩) ([]) ([]) 0 0 0 false 0 12 0 (⟨#[]⟩) (⟨#[]⟩) [(cK.mk 1 0 (⟨#[104,101,105,103,104,116]⟩) (⟨#[]⟩) ([])),(cK.mk 0 k (⟨#[]⟩) (⟨#[]⟩) ([]))] 0 0 0 0 0 0 0)] [] [] [] 0
theorem zn:LL Do.land:=⟨λ l hl=>by
 have hl:l∈fR:=hl;simp only[fR,aR]at hl;subst hl;decide,by show fR.length<=500;decide⟩
def px:U aY:=(List.range 2).flatMap λ(i:Nat)=>(List.range 72).map λ(k:Nat)=>aY.mk 1 ((k%6:Nat):Int) ((k/6+1:Nat):Int) (i:Int)
def J0:KI:=[(iU.mk 1 0,16),(iU.mk 1 1,4)]
theorem ajc:((qH 5000003 fR).1,(qH 5000003 fR).2.2)=(J0,px):=by kernel_rfl
def dF:dw:=dw.mk 1 0 [aA.mk 0 0 4 4] []
def aqs(p:aY):bD:=(XX 5000003 fR p).1
set_option maxRecDepth 100000 in
theorem apM:(px.all λp=>((kH 5000003 (ke (oY Do (aqr 0))) dF (aqs p)).bind λms=>(ms[4]?).map λe=>e.n)==some (p.floors*3))=true:=by kernel_rfl
def Xs(e1 e2 e3 e4 e5 e6 e7 e8 e9:Int):U bX:=[⟨⟨#[97,114,101,97]⟩,e1⟩,⟨⟨#[99,111,118,101,114]⟩,e2⟩,⟨⟨#[102,108,111,111,114]⟩,e3⟩,⟨⟨#[102,108,111,111,114,115]⟩,e4⟩,⟨⟨#[104,101,105,103,104,116]⟩,e5⟩,⟨⟨#[104,111,109,101,115]⟩,e6⟩,⟨⟨#[114,117,110,111,102,102]⟩,e7⟩,⟨Dp,e8⟩,⟨⟨#[116,114,97,102,102,105,99]⟩,e9⟩]
def DA:U Int:=[1,2,3,4,5,6,7,8,9,10,11,12]
theorem ahp:(px.all λp=>DA.contains p.floors)=true:=by kernel_rfl
theorem ae8:(qH 5000003 fR).1=J0:=congrArg Prod.fst ajc
theorem amZ:(qH 5000003 fR).2.2=px:=congrArg Prod.snd ajc
theorem OJ{p:aY}:p∈dZ 5000003 fR↔p∈px:=by rw[(wV 5000003 fR).mem_iff,amZ]
def X2(x y:aY):Bool:=F8 lz J0 x y
theorem ajd(x:aY):X2 x x=false:=(IA lz J0).irrefl x
theorem XE:List.Pairwise (α:=aY) (λ x y=>X2 y x=false) (dZ 5000003 fR):=by
 have:=EA (α:=aY) (IA lz (qH 5000003 fR).1) (qH 5000003 fR).2.2;rw[ae8]at this;have e:dZ 5000003 fR=lH (α:=aY) (F8 lz J0) (qH 5000003 fR).2.2:=by unfold dZ;rw[ae8]
 rw[e];exact this
mutual
theorem aoA:∀g:cK,(toE g).wt<=kP (rf g)
 |⟨op,n,s,key,args⟩=>by
  have:=OL args;simp only[toE,ET.wt,rf,kP,oA];omega
theorem OL:∀l:List cK,ET.th (IC l)<=Bg (tJ l)
 |[]=>by simp[IC,ET.th]
 |x::xs=>by
  have h1:=aoA x;have h2:=OL xs;simp only[IC,ET.th,tJ,Bg];omega
end
theorem QE:∀l:U eT,rk (l.map toD)<=Bg (l.map Bo)
 |[]=>by simp[rk]
 |x::xs=>by
  have h1:=QE xs;have h2:=OL x.eL;simp only[rk]at h1;simp only[aH,rk,List.foldr_cons,toD,ET.wt,Bg,Bo,kP,oA,<- tK];omega
theorem akH(t:cu):rk (t.cm.map toD)<=kP (Ka t):=by
 have:=QE t.cm;simp only[Ka,kP,oA];omega
theorem XF{r:U Tree}:∀{l:U (List Tree)},r∈l->kP r<=Bg l
 |x::l,h=>by
  rw[Bg];rcases aQ.1 h with rfl |h
  .omega
  .have:=XF h;omega
theorem akI(r:bK):(toE (kq r)).wt<=kP (vI r):=by
 have h:=OL r.gb;rw[tK]at h;simp only[kq,toE,ET.wt,vI,kP,oA];omega
theorem aaT:∀l:U Int,l.length<=Bg (l.map λy=>[Tree.sc (.int .i64 y)])
 |[]=>by simp
 |x::l=>by
  have:=aaT l;simp only[aH,Bg,kP,oA,bG];omega
theorem apN{t:cu}(h:kP (Ka t)<=1048576):XN t:=by
 have hd:=akH t;have hd2:=QE t.cm;simp only[Ka,kP,oA]at h;refine⟨⟨by show rk (t.cm.map toD)<=_;omega,λr hr=>?_⟩,λl hl=>?_⟩
 .have h1:=akI r;have h2:=XF (mem_map.2 ⟨r,hr,rfl⟩:vI r∈t.az.map vI);omega
 .have h1:=aaT l.from_;have h2:=XF (mem_map.2 ⟨l,hl,rfl⟩:IB l∈t.land.map IB);have h3:Bg (l.from_.map λy=>[Tree.sc (.int .i64 y)])<=kP (IB l):=by simp only[IB,kP,oA];omega
  omega
def N1(p:bU)(r:(List Int)×bV×Bool):Prop:=r.2.2=true->∃i k:Nat,i<p.zones.length/\k<p.zones.length/\r.1=[(i:Int),(k:Int)]
theorem ahq{p:bU}(hz:p.zones.length<=100)(hn:4000002<=n):∃r,pK n p=some r/\N1 p r:=by
 have et:((p.zones.length:Int):Int).toNat=p.zones.length:=by omega
 have mk:xK (p.zones.length:Int) 24=true:=ab3 (by omega) (by simp only[maxLen];omega);have d1:decide ((p.zones.length:Int)<=(p.zones.length:Int))=true:=by simp
 have d2:decide (0<=(p.zones.length:Int))=true:=by simp
 obtain⟨w,h1,hwl,hwa⟩:=dK (step:=oZ n p) (λ i (v:Int×List (List aA))=>v.1=(i:Int)/\i<=p.zones.length/\v.2.length=p.zones.length/\∀x∈v.2,x.length<=200) (λ o=>o.length=p.zones.length/\∀x∈o,x.length<=200) p.zones.length (λ k v h=>h.2.1) (by
  rintro i ⟨v,l⟩ ⟨hv,hi,hl,ha⟩;simp only at hv hl ha;subst hv;by_cases hlt:i<p.zones.length
  .have hil:i<l.length:=(by omega);simp only[oZ,bO hlt,aj,bq hlt,af,FV (n:=n) p.zones[i] (by omega),et,aV hlt,bZ,aF,aX hil,aM i];cases p.zones[i].overlay with
   |true=>exact .inl ⟨_,rfl,rfl,hlt,hl,ha⟩
   |false=>
    refine .inl ⟨_,rfl,rfl,hlt,by simpa using hl,λx hx=>?_⟩;rcases List.mem_or_eq_of_mem_set hx with hx |rfl
    .exact ha x hx
    .exact Xn _
  .obtain rfl:i=p.zones.length:=(by omega);simp only[oZ,bW,ak];exact .inr ⟨_,rfl,hl,ha⟩) n 0 ((0:Int),List.replicate p.zones.length []) ⟨rfl,Nat.zero_le _,by simp,λx hx=>by rw[(List.mem_replicate.1 hx).2];simp⟩ (by omega)
 have s3:∀i:Nat,i<p.zones.length->iter (jk n p w (i:Int)) n (((i+1:Nat):Int))=some (.inl ())\/∃r,iter (jk n p w (i:Int)) n (((i+1:Nat):Int))=some (.inr (.inr (.inr r)))/\N1 p r:=by
  intro i hi;obtain⟨o,g1,g2⟩:=AR (step:=jk n p w (i:Int)) (λ v=>∃j:Nat,v=(j:Int)/\j<=p.zones.length) (λ o=>o= .inl ()\/∃r,o= .inr (.inr (.inr r))/\N1 p r) (λ v=>p.zones.length -v.toNat) (by
   rintro v ⟨j,rfl,hj⟩;by_cases hlt:j<p.zones.length
   .have hiw:i<w.length:=(by omega);have hjw:j<w.length:=(by omega);have l1:=hwa _ (getElem_mem hiw);have l2:=hwa _ (getElem_mem hjw);obtain⟨q,hq⟩:=Dn (n:=n) w[i] w[j] (by omega) (by omega) (by omega);simp only[jk,et,bO hlt,aj,aV hi,aX hiw,aV hlt,aX hjw,af,hq,show ∀x y:Int,sub ([x,y]:U Int) 0 2=[x,y]from λ_ _=>rfl,bG,length_nil,Nat.zero_add,Nat.reduceAdd,aF,aM j];cases decide (AX w[i] w[j]>0)with
    |true=>exact .inr ⟨_,rfl,.inr ⟨_,rfl,λ_=>⟨i,j,hi,hlt,rfl⟩⟩⟩
    |false=>exact .inl ⟨_,rfl,⟨j+1,rfl,hlt⟩,by simp only[Int.toNat_natCast];omega⟩
   .obtain rfl:j=p.zones.length:=(by omega);simp only[jk,et,bW,ak];exact .inr ⟨_,rfl,.inl rfl⟩) n _ ⟨i+1,rfl,hi⟩ (by omega)
  rcases g2 with rfl |⟨r,rfl,hr⟩
  .exact .inl g1
  .exact .inr ⟨r,g1,hr⟩
 obtain⟨o,g1,g2⟩:=dK (step:=o6 n p w) (λ i (v:Int)=>v=(i:Int)/\i<=p.zones.length) (λ o=>o= .inl ()\/∃r,o= .inr r/\N1 p r) p.zones.length (λ k v h=>h.2) (by
  rintro i v ⟨rfl,hi⟩;by_cases hlt:i<p.zones.length
  .simp only[o6,et,bO hlt,aj,aM i];rcases s3 i hlt with h |⟨r,h,hr⟩
   .rw[h];exact .inl ⟨_,rfl,rfl,hlt⟩
   .rw[h];exact .inr ⟨_,rfl,.inr ⟨r,rfl,hr⟩⟩
  .obtain rfl:i=p.zones.length:=(by omega);simp only[o6,et,bW,ak];exact .inr ⟨_,rfl,.inl rfl⟩) n 0 0 ⟨rfl,Nat.zero_le _⟩ (by omega)
 unfold pK;simp only[d1,d2,mk,Bool.and_self,aj,et,h1,af];rcases g2 with rfl |⟨r,rfl,hr⟩
 .rw[g1];exact⟨_,rfl,λh=>(by cases h)⟩
 .rw[g1];exact⟨r,rfl,hr⟩
def eS(t:cu)(day:Int):kz:=kz.mk t.cm t.br t.bu t.az t.ct t.b9 t.cE t.ca t.land t.co t.windows t.built t.base day
theorem ahr{t:cu}(day:Int)(ht:yB t)(hn:QB n):∃g,fI n (eS t day)=some g/\g.length<=2/\∀f∈g,(f.kind=3\/f.kind=2)/\f.names.length<=4000001:=by
 obtain⟨hn1,hn2⟩:=hn;have hdl:=ht.plan.defs.len;have⟨o,ho,_,_,hol⟩:=FY (n:=n) (p:=ly t) ht.plan.defs hn1;obtain⟨r,hr,hq⟩:=ahq (n:=n) (p:=ly t) ht.zones (by omega);have ho':jJ n (bU.mk (eS t day).cw (eS t day).b8 (eS t day).b7 (eS t day).ci (eS t day).cx (eS t day).cg (eS t day).cD (eS t day).cj)=some o:=ho;have hr':pK n (bU.mk (eS t day).cw (eS t day).b8 (eS t day).b7 (eS t day).ci (eS t day).cx (eS t day).cg (eS t day).cD (eS t day).cj)=some r:=hr;have ap0:bP 0 0 1 1 88=true:=dm (by omega) (by simp only[maxLen];omega);have s1:∀x:bf,sub ([x]:U bf) 0 1=[x]:=λ_=>rfl;have hv1:∃v1:U bf,((bif (o.2.2==(16:Int))then(ck (bP 0 0 1 1 88) (gH [(bf.mk 3 0 o.2.1 0 0 0 0 0 0)] λr2=>ck (aE r2.length r2.length) (some r2)))else(ck (aE 0 ([]:U bf).length) (some ([]:U bf)))):J (List bf))=some v1/\v1.length<=1/\∀f∈v1,f.kind=3/\f.names.length<=4000001:=by
  rw[ap0];cases (o.2.2==(16:Int))with
  |true=>exact⟨_,rfl,by simp,λf hf=>by simp only[aR]at hf;subst hf;exact⟨rfl,Nat.le_trans hol (Nat.succ_le_succ hdl)⟩⟩
  |false=>exact⟨[],rfl,by simp,λf hf=>by simp at hf⟩
 obtain⟨v1,e1,l1,k1⟩:=hv1;unfold fI;simp only[ho',af,s1,length_singleton,e1,hr'];cases hb:r.2.2 with
 |false=>simp only[ak,aF,aj,af,bZ];exact⟨v1,rfl,by omega,λf hf=>⟨.inl (k1 f hf).1,(k1 f hf).2⟩⟩
 |true=>
  have⟨i,k,hi,hk,hik⟩:=hq hb;have loop:∃ns:U ByteArray,iter (gL (eS t day) r) n ((0:Int),(2:Int),(0:Int),(0:Int),(0:Int),(0:Int),(0:Int),r.2.1.x,r.2.1.y,([]:U ByteArray))=some ((2:Int),(0:Int),(0:Int),(0:Int),(0:Int),(0:Int),r.2.1.x,r.2.1.y,ns)/\ns.length<=2:=by
   have hl2:r.1.length=2:=(by rw[hik];rfl);obtain⟨o,g1,ns,rfl,g2⟩:=dK (step:=gL (eS t day) r) (λ j v=>∃ns:U ByteArray,v=((j:Int),(2:Int),(0:Int),(0:Int),(0:Int),(0:Int),(0:Int),r.2.1.x,r.2.1.y,ns)/\j<=2/\ns.length=j) (λ o=>∃ns:U ByteArray,o=((2:Int),(0:Int),(0:Int),(0:Int),(0:Int),(0:Int),r.2.1.x,r.2.1.y,ns)/\ns.length<=2) 2 (λ k v ⟨_,_,h,_⟩=>h) (by
    rintro j v ⟨ns,rfl,hj,hns⟩;by_cases hlt:j<r.1.length
    .have hz:∃z:Nat,r.1[j]=(z:Int)/\z<(eS t day).b7.length:=by
      have hj2:j=0\/j=1:=(by omega);rcases hj2 with rfl |rfl
      .exact⟨i,by simp[hik],hi⟩
      .exact⟨k,by simp[hik],hk⟩
     obtain⟨z,hz1,hz2⟩:=hz;have hap:bP ns.length ns.length 1 1 16=true:=dm (by omega) (by simp only[maxLen];omega);simp only[gL,bO hlt,aj,aV hlt,aX hlt,hz1,bq hz2,af,show ∀x:ByteArray,sub ([x]:U ByteArray) 0 1=[x]from λ_=>rfl,length_singleton,hap,dS,aF,aM j];exact .inl ⟨_,rfl,_,rfl,by omega,by simp[hns]⟩
    .have hj2:j=r.1.length:=(by omega);have hd:decide ((j:Int)<(r.1.length:Int))=false:=(by rw[hj2];exact bW _);simp only[gL,hd,ak,aF,aj];exact .inr ⟨_,rfl,ns,rfl,by omega⟩) n 0 ((0:Int),(2:Int),(0:Int),(0:Int),(0:Int),(0:Int),(0:Int),r.2.1.x,r.2.1.y,([]:U ByteArray)) ⟨[],rfl,by omega,rfl⟩ (by omega)
   exact⟨ns,g1,g2⟩
  obtain⟨ns,e2,hns⟩:=loop;have hz:aE 0 ([]:U ByteArray).length=true:=rfl;have ap1:bP v1.length v1.length 1 1 88=true:=dm (by omega) (by simp only[maxLen];omega);simp only[aj,hz,e2,af,bZ,aF,ap1,dS];refine⟨_,rfl,by simp;omega,λf hf=>?_⟩;rcases bn.1 hf with hf |hf
  .exact⟨.inl (k1 f hf).1,(k1 f hf).2⟩
  .simp only[aR]at hf;subst hf;exact⟨.inr rfl,by show ns.length<=_;omega⟩
def Jk(n:Nat)(t:cu):U bf:=(fI n (eS t 0)).getD []
theorem aoB{n:Nat}{t:cu}(day:Int)(ht:yB t)(hn:QB n):fI n (eS t day)=some (Jk n t)/\(Jk n t).length<=2/\∀f∈Jk n t,(f.kind=3\/f.kind=2)/\f.names.length<=4000001:=by
 have⟨g,h1,h2,h3⟩:=ahr (n:=n) (t:=t) 0 ht hn;have e:Jk n t=g:=by unfold Jk;rw[h1];rfl
 rw[e];exact⟨h1,h2,h3⟩
def nT(n:Nat)(lot:dw)(p:aY):bD:=bif LB n lot p then Dr n lot p else bD.mk 0 []
theorem ajf(n:Nat)(lot:dw)(p:aY):ye (nT n lot p):=by
 unfold nT;cases LB n lot p
 .exact amP
 .exact acp _ _ _
theorem am1{lot:dw}(ha:lot.area.length<=900)(hn:4000002<=n)(p:aY):IJ n lot p=some (nT n lot p):=by
 unfold IJ;rw[XC ha hn];unfold nT;cases LB n lot p<;>rfl
def Jl(n:Nat)(t:cu)(lot:dw)(day:Int):aY×Bool:=xw (dZ n [lot]) λp=>uJ n t (nT n lot p) day
theorem ae9{t:cu}{lot:dw}{L:U aY}(day:Int)(ht:yB t)(ha:lot.area.length<=900)(hL:L.length<=756000)(hn:QB n):iT n (eS t day) lot L=some (xw L λp=>uJ n t (nT n lot p) day):=by
 have hn1:=hn.1;unfold iT;have hi:rV n L (λ (y1:aY×Unit)=>iM n y1.1 (eS t day) lot)=some (xg (λ p=>uJ n t (nT n lot p) day) L):=fK (l:=L) (φ:=λ(y1:aY×Unit)=>iM n y1.1 (eS t day) lot) (λ p=>uJ n t (nT n lot p) day) (λ p _=>by
  have BE:jY n t (nT n lot p) day=some (uJ n t (nT n lot p) day):=ai8 day ht (ajf n lot p) hn;have HR:jY n (cu.mk (eS t day).cw (eS t day).b8 (eS t day).b7 (eS t day).ci (eS t day).cx (eS t day).cg (eS t day).cD (eS t day).cj (eS t day).eW (eS t day).da (eS t day).d6 (eS t day).dp (eS t day).fc) (nT n lot p) (eS t day).day=some (uJ n t (nT n lot p) day):=BE;simp only[iM,am1 (n:=n) ha (by omega),af,HR]) (by omega) (by omega)
 rw[hi];simp only[af,ad7];unfold xw;cases hany:L.any λp=>uJ n t (nT n lot p) day with
 |false=>
  have:L.find? (λ p=>uJ n t (nT n lot p) day)=none:=List.find?_eq_none.2 λx hx hc=>List.any_eq_false.1 hany x hx hc;rw[this];rfl
 |true=>
  have⟨i,hi,e,hf⟩:=WH hany;rw[e,hf];simp only[Bool.not_true,ak,bq hi,af]
theorem XG(n:Nat)(lot:dw):(dZ n [lot]).length<=1512:=by
 have h1:=(wV n [lot]).length_eq;have h2:=OH n [lot] ([],[],[]);have h3:(qH n [lot]).2.2.length<=1512*[lot].length:=by unfold qH;simpa using h2
 simp only[length_singleton]at h3;omega
theorem afa{t:cu}(id day:Int)(ht:yB t)(hl:LL t.land)(hn:QB n):jw n t id day=some (match t.land.find? λx=>x.id==id with |some lot=>Jl n t lot day |none=>(gS,false)):=by
 have hn1:=hn.1;have hl2:=hl.2;unfold jw;have hi:vw n t.land (λ (y1:dw×Unit)=>vP y1.1 id)=some (xg (λ x:dw=>x.id==id) t.land):=fK (l:=t.land) (φ:=λ(y1:dw×Unit)=>vP y1.1 id) (λ x:dw=>x.id==id) (λ _ _=>rfl) (by omega) (by omega);rw[hi];simp only[af,ad7];cases hany:t.land.any λx:dw=>x.id==id with
 |false=>
  have:t.land.find? (λ x=>x.id==id)=none:=List.find?_eq_none.2 λx hx hc=>List.any_eq_false.1 hany x hx hc;rw[this];rfl
 |true=>
  have⟨i,hi,e,hf⟩:=WH hany;have ha:=hl.1 _ (getElem_mem hi);have hsl:sZ (i:Int) ((i+1:Nat):Int) t.land.length=true:=pX (by omega) (by omega) (by omega);have hsub:sub t.land (i:Int).toNat (((i+1:Nat):Int).toNat -(i:Int).toNat)=[t.land[i]]:=by
   have e1:(i:Int).toNat=i:=(by omega);have e2:((i+1:Nat):Int).toNat -i=1:=(by omega);rw[e1,e2];unfold sub;rw[List.drop_eq_getElem_cons hi];rfl
  have hP:=QC (n:=n) (land:=[t.land[i]]) (λ l hl=>by simp only[aR]at hl;subst hl;exact ha) (by simp) (by omega);have hle:=ae9 (n:=n) (t:=t) (lot:=t.land[i]) (L:=dZ n [t.land[i]]) day ht ha (by have:=XG n t.land[i];omega) hn;have hle':iT n (kz.mk t.cm t.br t.bu t.az t.ct t.b9 t.cE t.ca t.land t.co t.windows t.built t.base day) t.land[i] (dZ n [t.land[i]])=some (Jl n t t.land[i] day):=hle;rw[e,hf];simp only[Bool.not_true,ak,bq hi,af,aM i,hsl,aj,hsub,hP,bZ,aF,hle',show decide ((i:Int)<0)=false from by simp]
def DH(lot:dw):bf:=bf.mk 0 lot.id [] 0 0 0 0 0 0
def N0(n:Nat)(t:cu)(lot:dw)(day:Int):bf:=match dZ n [lot]with
 |[]=>bf.mk 1 lot.id [] 0 0 0 0 0 0
 |p::_=>bf.mk 1 lot.id (vU n t (nT n lot p) day) p.lot p.use p.floors p.cP 0 0
def zo(n:Nat)(t:cu)(lot:dw)(day:Int):bf×Bool:=
 bif(applied t lot day).isEmpty then(DH lot,true)else bif(Jl n t lot day).2 then(DH lot,false)else(N0 n t lot day,true)
theorem aoC{t:cu}{lot:dw}(day:Int)(ht:yB t)(ha:lot.area.length<=900)(hn:QB n):l5 n (eS t day) lot=some (zo n t lot day):=by
 have hn1:=hn.1;have hz:sK n (ly t) lot.area=some (jW t lot):=OC _ _ ht.zones ha (by omega);have hz':sK n (bU.mk (eS t day).cw (eS t day).b8 (eS t day).b7 (eS t day).ci (eS t day).cx (eS t day).cg (eS t day).cD (eS t day).cj) lot.area=some (jW t lot):=hz;have hA:nN n (bU.mk (eS t day).cw (eS t day).b8 (eS t day).b7 (eS t day).ci (eS t day).cx (eS t day).cg (eS t day).cD (eS t day).cj) (jW t lot) (eS t day).day=some ((zk t.az (jW t lot) day).map λ(i:Nat)=>(i:Int)):=FX _ _ _ (λ r hr=>(ht.rule r hr).1) ht.rules (Mf ht lot) (by omega);have hpick:(zk t.az (jW t lot) day).filterMap (λ i=>t.az[i]?)=applied t lot day:=Jg (oC (jW t lot) day) t.az;have hempty:(((((zk t.az (jW t lot) day).map λ(i:Nat)=>(i:Int)).length:Nat):Int)==(0:Int))=(applied t lot day).isEmpty:=by
  rw[List.length_map];cases hap:zk t.az (jW t lot) day with
  |nil=>
   rw[hap]at hpick;rw[<- hpick];rfl
  |cons j l=>
   have hj:j∈zk t.az (jW t lot) day:=(by rw[hap];simp);have h2:=(mem_filter.1 hj).2;obtain⟨r,hr⟩:∃r,t.az[j]? =some r:=by
    cases hc:t.az[j]? with
    |none=>rw[hc]at h2;cases h2
    |some r=>exact⟨r,rfl⟩
   have hmem:r∈applied t lot day:=by
    rw[<- hpick];exact List.mem_filterMap.2 ⟨j,hj,hr⟩
   have e1:((((j::l).length:Nat):Int)==0)=false:=(by simp;omega);rw[e1];cases hq:applied t lot day with
   |nil=>rw[hq]at hmem;simp at hmem
   |cons _ _=>rfl
 have hP:=QC (n:=n) (land:=[lot]) (λ l hl=>by simp only[aR]at hl;subst hl;exact ha) (by simp) (by omega);have hle:=ae9 (n:=n) (t:=t) (lot:=lot) (L:=dZ n [lot]) day ht ha (by have:=XG n lot;omega) hn;have hs1:sub [lot] 0 1=[lot]:=rfl;unfold l5 zo;simp only[hz',af,bZ,aF,aj,hA,hempty];cases (applied t lot day).isEmpty with
 |true=>rfl
 |false=>
  simp only[ak,hs1,length_singleton,aF,aj,hP,af,bZ,hle];have hL:(xw (dZ n [lot]) λp=>uJ n t (nT n lot p) day)=Jl n t lot day:=rfl;rw[hL];cases (Jl n t lot day).2 with
  |true=>rfl
  |false=>
   simp only[ak,N0];cases hq:dZ n [lot]with
   |nil=>rfl
   |cons p l=>
    have hd:decide (((p::l).length:Int)>0)=true:=(by simp);have hB:=aaL (n:=n) (t:=t) (d:=nT n lot p) day ht (ajf n lot p) hn;have hB':oO n (cu.mk (eS t day).cw (eS t day).b8 (eS t day).b7 (eS t day).ci (eS t day).cx (eS t day).cg (eS t day).cD (eS t day).cj (eS t day).eW (eS t day).da (eS t day).d6 (eS t day).dp (eS t day).fc) (nT n lot p) (eS t day).day=some (vU n t (nT n lot p) day,Dq n t (nT n lot p)):=hB;simp only[hd,aj,show bo (p::l) 0=some p from rfl,af,am1 (n:=n) ha (by omega),hB',aF,bZ]
def GW(n:Nat)(t:cu)(day:Int)(lot:dw)(s:U (Int×Bool)×List bf):U (Int×Bool)×List bf:=
 bif(fG io lot.id s.1).getD false then s else(nG io lot.id true s.1,bif(zo n t lot day).2 then s.2++[(zo n t lot day).1]else s.2)
def NX(n:Nat)(t:cu)(day:Int):U bf:=(t.land.foldl (λ s lot=>GW n t day lot s) ([],Jk n t)).2
theorem akJ(n:Nat)(t:cu)(day:Int)(lot:dw)(s:U (Int×Bool)×List bf):(GW n t day lot s).2.length<=s.2.length+1:=by
 unfold GW;cases (fG io lot.id s.1).getD false with
 |true=>simp
 |false=>cases (zo n t lot day).2<;>simp
theorem Kt{t:cu}(day:Int)(ht:yB t)(hl:LL t.land)(hn:QB n):iB n t day=some (NX n t day):=by
 have hn1:=hn.1;have hl2:=hl.2;have⟨hg,hgl,_⟩:=aoB (n:=n) (t:=t) day ht hn;have hg':fI n (kz.mk t.cm t.br t.bu t.az t.ct t.b9 t.cE t.ca t.land t.co t.windows t.built t.base day)=some (Jk n t):=hg;have key:=fC (l:=t.land) (step:=ul n t day) (λ i (s:List (Int×Bool)×List bf)=>((i:Int),s.1,s.2)) (λ lot s=>GW n t day lot s) (λ s=>s.2) (λ i s=>s.2.length<=i+2) (λ i hi s hs=>by
  refine⟨?_,by have:=akJ n t day t.land[i] s;omega⟩;have hlk:l5 n (kz.mk t.cm t.br t.bu t.az t.ct t.b9 t.cE t.ca t.land t.co t.windows t.built t.base day) t.land[i]=some (zo n t t.land[i] day):=aoC day ht (hl.1 _ (getElem_mem hi)) hn;have hap:bP s.2.length s.2.length 1 1 88=true:=dm (by omega) (by simp only[maxLen];omega);simp only[ul,bO hi,aj,bq hi,af,GW];cases (fG io t.land[i].id s.1).getD false with
  |true=>simp only[aj,aF,af,aM i]
  |false=>
   simp only[ak,hlk,af,show ∀x:bf,sub ([x]:U bf) 0 1=[x]from λ_=>rfl,length_singleton,hap,aj,dS,aF,aM i];cases (zo n t t.land[i] day).2<;>rfl) (λ s _=>by simp only[ul,bW,ak,aF,aj]) n (by omega) ([],Jk n t) (by show(Jk n t).length<=0+2;omega)
 unfold iB;have key':iter (ul n t day) n ((0:Int),([]:U (Int×Bool)),Jk n t)=some (NX n t day):=key;simp only[hg',af,aF,aj,key',bZ]
theorem Sl(k:Int):fG io k ([]:U (Int×Bool))=none:=rfl
theorem aht(l:U ByteArray)(hl:l.length<=4000001)(hn:4000003<=n):Kk n l l=some true:=by
 unfold Kk;have e:((l.length:Int) !=(l.length:Int))=false:=by simp
 have key:=qj (step:=yh l l) (λ i=>(i:Int)) (s:=(0:Int)) l.length (.inl ()) rfl (λ i hi=>by
  have be:(ByteArray.toList l[i]==ByteArray.toList l[i])=true:=by simp
  simp only[yh,bO hi,aj,bq hi,af,be,Bool.not_true,ak,aM i]) (by simp only[yh,bW,ak]) n (by omega)
 rw[e,key];rfl
theorem QF(l:U bf)(hl:l.length<=1000)(hm:∀f∈l,f.names.length<=4000001)(hn:4000003<=n):Df n l l=some true:=by
 unfold Df;have e:((l.length:Int) !=(l.length:Int))=false:=by simp
 have key:=qj (step:=AB n l l) (λ i=>(i:Int)) (s:=(0:Int)) l.length (.inl ()) rfl (λ i hi=>by
  have ne:∀x:Int,(x !=x)=false:=λx=>by simp
  have be:∀x:Int,(x==x)=true:=λx=>by simp
  simp only[AB,bO hi,aj,bq hi,af,ne,be,Bool.and_self,Bool.not_true,ak,aht _ (hm _ (getElem_mem hi)) hn,aM i]) (by simp only[AB,bW,ak]) n (by omega)
 rw[e,key];rfl
structure aqG(F:Int->List bf)(fr to:Int)(r:Int×Bool):Prop where
 some:r.2=true->fr<=r.1/\r.1<=to/\F r.1≠[]/\(r.1=fr\/F (r.1 -1)=[]/\F fr=[])
 none:r.2=false->r.1=0/\∀d,fr<=d->d<=to->F d=[]
theorem akK(t:cu):oY t (ly t)=t:=by cases t;rfl
theorem akL{t:cu}(ht:XN t)(hf:G0 (ly t))(hF:LI t):yB t:=by
 have:=aoz ht.plan hf hF ht.zr
 rwa [akK]at this
def am2:ByteArray:=⟨#[99,111,114,101]⟩
def MM:dN:=dN.mk (⟨#[99,111,114,101]⟩) false [(bV.mk 0 0),(bV.mk 9 0),(bV.mk 9 9),(bV.mk 0 9)]
def Y7(zs:U ByteArray)(u k:Int):bK:=bK.mk (⟨#[97]⟩) zs ([]) 0 u 0 false 0 12 0 (⟨#[]⟩) (⟨#[]⟩) [(cK.mk 1 0 (⟨#[104,101,105,103,104,116]⟩) (⟨#[]⟩) ([])),(cK.mk 0 k (⟨#[]⟩) (⟨#[]⟩) ([]))] 0 0 0 0 0 0 0
def aqt:bK:=bK.mk (⟨#[97]⟩) ([]) ([]) 0 0 0 false 0 0 1 (⟨#[]⟩) (⟨#[]⟩) ([]) 0 0 0 0 0 0 0
def aqu:U eT:=[(eT.mk (⟨#[120]⟩) 1 0 (⟨#[121]⟩) (⟨#[]⟩) ([])),(eT.mk (⟨#[121]⟩) 1 0 (⟨#[120]⟩) (⟨#[]⟩) ([]))]
def xT(d:U eT)(r:bK):cu:=cu.mk d [] [MM] [r] [] [] [] 0 fR [] [] [] []
theorem am3(r:bK):yY r=some (xT [] r):=rfl
def so:cu:=xT [] (Y7 [⟨#[99,111,114,101]⟩] 0 6)
def Kd:cu:=xT [] (Y7 [⟨#[114,105,109]⟩] 0 6)
def Jm:cu:=xT [] (Y7 [] 0 2)
def gx:cu:=xT [] (Y7 [] 9 6)
def FA:cu:=xT aqu aqt
theorem XH{d:U eT}{r:bK}(hd:gR d)(hr:Qy r/\(toE (kq r)).wt<=4000000):yB (xT d r) where
 lots:=λl hl=>by
  have hl:l∈fR:=hl;simp only[fR,aR]at hl;subst hl;exact⟨by decide,by decide⟩
 land:=by show fR.length<=1000;decide
 xz:=⟨Nat.zero_le _,λe he=>by have he:e∈([]:U kT):=he;simp at he⟩
 built:=Nat.zero_le _
 zones:=by show 1<=100;decide
 caps:=Nat.zero_le _
 rules:=by show 1<=100;decide
 rule:=λx hx=>by
  have hx:x∈[r]:=hx;rw[aR.1 hx];exact hr
 plan:=⟨hd,⟨Nat.zero_le _,λx hx=>by have hx:x∈([]:U dx):=hx;simp at hx⟩⟩
theorem PB:gR []:=Nat.le_of_ble_eq_true (by kernel_rfl)
theorem aji:yB so:=XH PB ⟨⟨by decide,by decide⟩,Nat.le_of_ble_eq_true (by kernel_rfl)⟩
theorem aoE:yB Kd:=XH PB ⟨⟨by decide,by decide⟩,Nat.le_of_ble_eq_true (by kernel_rfl)⟩
theorem aoF:yB Jm:=XH PB ⟨⟨by decide,by decide⟩,Nat.le_of_ble_eq_true (by kernel_rfl)⟩
theorem ajj:yB gx:=XH PB ⟨⟨by decide,by decide⟩,Nat.le_of_ble_eq_true (by kernel_rfl)⟩
theorem aoG:yB FA:=XH (Nat.le_of_ble_eq_true (by kernel_rfl)) ⟨⟨by decide,by decide⟩,Nat.le_of_ble_eq_true (by kernel_rfl)⟩
def Fv:aY:=aY.mk 1 0 1 1
theorem am5:Jk 5000003 so=[]:=by kernel_rfl
theorem am6:Jk 5000003 Kd=[]:=by kernel_rfl
theorem am7:Jk 5000003 Jm=[]:=by kernel_rfl
theorem afb:Jk 5000003 gx=[]:=by kernel_rfl
theorem am8:Jk 5000003 FA=[bf.mk 3 0 [⟨#[120]⟩,⟨#[121]⟩] 0 0 0 0 0 0]:=by kernel_rfl
theorem aoH:(applied so dF 0).isEmpty=false:=by kernel_rfl
theorem aoI:(applied Kd dF 0).isEmpty=true:=by kernel_rfl
theorem ajk:applied Jm dF 0=[Y7 [] 0 2]:=by kernel_rfl
theorem am9:(applied gx dF 0).isEmpty=false:=by kernel_rfl
theorem ana:(applied gx dF 8).isEmpty=false:=by kernel_rfl
theorem anb:(applied gx dF 9).isEmpty=true:=by kernel_rfl
theorem aoJ:(applied FA dF 0).isEmpty=false:=by kernel_rfl
theorem ajl:uJ 5000003 so (nT 5000003 dF Fv) 0=true:=by kernel_rfl
theorem ane:uJ 5000003 gx (nT 5000003 dF Fv) 0=true:=by kernel_rfl
theorem anf:uJ 5000003 gx (nT 5000003 dF Fv) 8=true:=by kernel_rfl
theorem aoK:uJ 5000003 FA (nT 5000003 dF Fv) 0=true:=by kernel_rfl
theorem aoL:vU 5000003 Jm (nT 5000003 dF Fv) 0=[⟨#[97]⟩]:=by kernel_rfl
theorem apO:jW Jm dF=[am2]:=by kernel_rfl
theorem ang:AA 5000003 (ly gx) 0=some (9,true):=by kernel_rfl
theorem anh(e1 e2 e3 e4 e6 e7 e8 e9:Int):(DA.all λf=>(xX 5000003 (ke Jm) (Xs e1 e2 e3 e4 (f*3) e6 e7 e8 e9) [am2] (kq (Y7 [] 0 2))==some 0))=true:=by kernel_rfl
theorem ajm:(px.all λp=>Hp p Fv || X2 Fv p)=true:=by kernel_rfl
theorem yH{t:cu}{lot:dw}{day:Int}(h:t.land=[lot]):NX n t day=bif(zo n t lot day).2 then Jk n t++[(zo n t lot day).1]else Jk n t:=by
 unfold NX;rw[h];simp only[foldl_cons,List.foldl_nil,GW,Sl,Option.getD_none,ak]
theorem Ku{t:cu}{day:Int}(h:uJ 5000003 t (nT 5000003 dF Fv) day=true):Jl 5000003 t dF day=(Fv,true):=by
 have hin:∀p∈dZ 5000003 fR,p∈px:=λp hp=>OJ.1 hp;have hs:=XE;have hmem:Fv∈dZ 5000003 fR:=OJ.2 (by
  have:(px.any λp=>Hp p Fv)=true:=by kernel_rfl
  obtain⟨p,hp,he⟩:=List.any_eq_true.1 this;rw[UM]at he;rw[<- he];exact hp)
 show xw (dZ 5000003 fR) (λ p=>uJ 5000003 t (nT 5000003 dF p) day)=_;generalize dZ 5000003 fR=L at hin hs hmem;rcases Fu L (λ p=>uJ 5000003 t (nT 5000003 dF p) day)with ⟨p,hf,hr,hp,hq⟩ |⟨_,hn⟩
 .have:=all_eq_true.1 ajm p (hin p hp);rw[Bool.or_eq_true]at this;rcases this with h' |h'
  .rw[UM]at h';rw[hr,h']
  .exfalso;obtain⟨_,i,hi,rfl,hbef⟩:=List.find?_eq_some_iff_getElem.1 hf;obtain⟨j,hj,S4⟩:=List.getElem_of_mem hmem;rcases Nat.lt_trichotomy i j with hij |hij |hij
   .rw[List.pairwise_iff_getElem]at hs;have:=hs i j hi hj hij;rw[S4,h']at this;cases this
   .subst hij;rw[S4,ajd]at h';cases h'
   .have:=hbef j hij;rw[S4,h]at this;cases this
 .have:=hn Fv hmem;rw[h]at this;cases this
theorem ani:∃l,dZ 5000003 fR=Fv::l:=by
 have hin:∀p∈dZ 5000003 fR,p∈px:=λp hp=>OJ.1 hp;have hs:=XE;have hmem:Fv∈dZ 5000003 fR:=OJ.2 (by
  have:(px.any λp=>Hp p Fv)=true:=by kernel_rfl
  obtain⟨p,hp,he⟩:=List.any_eq_true.1 this;rw[UM]at he;rw[<- he];exact hp)
 generalize dZ 5000003 fR=L at hin hs hmem;cases L with
 |nil=>simp at hmem
 |cons p l=>
  have:=all_eq_true.1 ajm p (hin p (by simp));rw[Bool.or_eq_true]at this;rcases this with h' |h'
  .rw[UM]at h';exact⟨l,by rw[h']⟩
  .rcases aQ.1 hmem with h |h
   .rw[<- h,ajd]at h';cases h'
   .rw[List.pairwise_cons]at hs;have:=hs.1 _ h;rw[h']at this;cases this
theorem anj{p:aY}(hp:p∈dZ 5000003 [dF]):uJ 5000003 Jm (nT 5000003 dF p) 0=false:=by
 have hpR:p∈px:=OJ.1 hp;have⟨lot,hof⟩:=aaQ hp;have vn:lot=dF:=by
  have:=List.mem_of_find?_eq_some hof.Mu;simpa using this
 subst vn;have hfits:=aco hof;have hd:nT 5000003 dF p=Dr 5000003 dF p:=by unfold nT;rw[hfits];rfl
 have hD:aqs p=Dr 5000003 dF p:=by
  show(XX 5000003 [dF] p).1=_;unfold XX;rw[hof.Mu];simp only[hfits,aj]
 have hpl:p.lot=1:=by
  have:=hof.Mu;obtain⟨i,k,_,_,_,hpk⟩:=hof.ex;rw[hpk];rfl
 rw[hd];unfold uJ;cases S8:(Dq 5000003 Jm (Dr 5000003 dF p)==0)with
 |false=>rfl
 |true=>
  rw[Bool.true_and];have h2:=all_eq_true.1 apM p hpR;rw[hD]at h2;have hLD:ye (Dr 5000003 dF p):=acp _ _ _;have hlt:oF Jm (Dr 5000003 dF p)=dF:=by
   show(mV fR p.lot).1=_;rw[hpl];rfl
  obtain⟨e1,e2,e3,e4,e5,e6,e7,e8,H4⟩:=amE (n:=5000003) (p:=ke Jm) (lot:=dF) (d:=Dr 5000003 dF p) ⟨Nat.zero_lt_succ _,Nat.zero_le _,λx hx=>by have hx:x∈([]:U dx):=hx;simp at hx⟩ (by decide) hLD.1 (by omega);have hms:kH 5000003 (ke (oY Do (aqr 0))) dF (Dr 5000003 dF p)=some (Xs e1 e2 e3 e4 e5 e6 e7 (wT (oD dF) (fT (Dr 5000003 dF p))) e8):=H4 [] [] [] [] [] [] 0;have hmD:kH 5000003 (ke Jm) dF (Dr 5000003 dF p)=some (Xs e1 e2 e3 e4 e5 e6 e7 (wT (oD dF) (fT (Dr 5000003 dF p))) e8):=H4 [] [MM] [] [] [] [] 0;have h5:e5=p.floors*3:=by
   rw[hms,beq_iff_eq]at h2;have:some e5=some (p.floors*3):=h2;injection this
  have hfl:p.floors∈DA:=by have:=all_eq_true.1 ahp p hpR;simpa using this
  have hev:=all_eq_true.1 (anh e1 e2 e3 e4 e6 e7 (wT (oD dF) (fT (Dr 5000003 dF p))) e8) p.floors hfl;rw[beq_iff_eq,<- h5]at hev;have hb:Y6 5000003 Jm dF (Dr 5000003 dF p) (Y7 [] 0 2)=true:=by
   have ht:Pr 5000003 Jm dF (Dr 5000003 dF p) (Y7 [] 0 2)=true:=by
    unfold Pr;rw[hmD,apO];simp only[af,hev,Option.getD_some];rfl
   unfold Y6;exact ht
  unfold vU Bw;rw[S8,hlt,ajk];simp only[foldl_cons,List.foldl_nil,hb,aj];exact decide_eq_false (acs (by rw[show addN [] (Y7 [] 0 2).name true=[⟨#[97]⟩]from rfl];simp))
theorem apP:iB 5000003 so 0=some []:=by
 rw[Kt 0 aji zn n42,yH (lot:=dF) rfl];unfold zo;rw[aoH,Ku ajl,am5];rfl
theorem apQ:iB 5000003 Kd 0=some [DH dF]:=by
 rw[Kt 0 aoE zn n42,yH (lot:=dF) rfl];unfold zo;rw[aoI,am6];rfl
theorem apR:iB 5000003 Jm 0=some [bf.mk 1 1 [⟨#[97]⟩] 1 0 1 1 0 0]:=by
 rw[Kt 0 aoF zn n42,yH (lot:=dF) rfl];have hl:Jl 5000003 Jm dF 0=(gS,false):=ae3 λp hp=>anj hp;have hdf:N0 5000003 Jm dF 0=bf.mk 1 1 [⟨#[97]⟩] 1 0 1 1 0 0:=by
  obtain⟨l,hl⟩:=ani;have hl':dZ 5000003 [dF]=Fv::l:=hl;unfold N0;rw[hl'];simp only[aoL];rfl
 unfold zo;rw[ajk,hl,hdf,am7];rfl
theorem ank(day:Int)(h1:(applied gx dF day).isEmpty=false)(h2:uJ 5000003 gx (nT 5000003 dF Fv) day=true):iB 5000003 gx day=some []:=by
 rw[Kt day ajj zn n42,yH (lot:=dF) rfl];unfold zo;rw[h1,Ku h2,afb];rfl
theorem ajn:iB 5000003 gx 9=some [DH dF]:=by
 rw[Kt 9 ajj zn n42,yH (lot:=dF) rfl];unfold zo;rw[anb,afb];rfl
theorem apS:iB 5000003 FA 0=some [bf.mk 3 0 [⟨#[120]⟩,⟨#[121]⟩] 0 0 0 0 0 0]:=by
 rw[Kt 0 aoG zn n42,yH (lot:=dF) rfl];unfold zo;rw[aoJ,Ku aoK,am8];rfl
theorem aqv:jw 5000003 so 1 0=some (Fv,true):=by
 rw[afa 1 0 aji zn n42];have:(so.land.find? λx=>x.id==1)=some dF:=rfl;rw[this];simp only[Ku ajl]
theorem aqw:Kj 5000003 gx 0 20=some (9,true):=by
 unfold Kj;have s1:nR 5000003 gx 20 ((0:Int),true)=some (.inl ((9:Int),true)):=by
  have hd:decide ((0:Int)<=20)=true:=rfl;have hN:AA 5000003 (bU.mk gx.cm gx.br gx.bu gx.az gx.ct gx.b9 gx.cE gx.ca) 0=some (9,true):=ang;simp only[nR,aj,hd,af,ank 0 am9 ane,hN];rfl
 have s2:nR 5000003 gx 20 ((9:Int),true)=some (.inr (.inr ((9:Int),true))):=by
  have hd:decide ((9:Int)<=20)=true:=rfl;simp only[nR,aj,hd,af,ajn];rfl
 have h1:iter (nR 5000003 gx 20) (5000002+1) ((0:Int),true)=some (.inr ((9:Int),true)):=by
  rw[ic s1];exact fF (n:=5000001) s2
 have h2:iter (nR 5000003 gx 20) 5000003 ((0:Int),true)=some (.inr ((9:Int),true)):=h1;rw[h2];rfl
theorem aoM:Dg 5000003=some true:=by
 have a1:=apP;have a2:=apQ;have a3:=apR;have a4:=ank 8 ana anf;have a5:=ajn;have a6:=apS;have a7:=aqv;have a8:=aqw;have b1:=QF (n:=5000003) [DH dF] (by simp) (λ f hf=>by simp only[aR]at hf;subst hf;simp[DH]) (by omega);have b2:=QF (n:=5000003) [bf.mk 1 1 [⟨#[97]⟩] 1 0 1 1 0 0] (by simp) (λ f hf=>by simp only[aR]at hf;subst hf;simp) (by omega);have b3:=QF (n:=5000003) [bf.mk 3 0 [⟨#[120]⟩,⟨#[121]⟩] 0 0 0 0 0 0] (by simp) (λ f hf=>by simp only[aR]at hf;subst hf;simp) (by omega);have c1:∀k:Int,ve k=some (cK.mk 12 0 (⟨#[]⟩) (⟨#[]⟩) [(cK.mk 1 0 (⟨#[104,101,105,103,104,116]⟩) (⟨#[]⟩) ([])),(cK.mk 0 k (⟨#[]⟩) (⟨#[]⟩) ([]))]):=λ_=>rfl;have s1:∀r:ByteArray,sub [r] 0 1=[r]:=λ_=>rfl;have s2:∀r:bf,sub [r] 0 1=[r]:=λ_=>rfl;have s3:∀x y:eT,sub [x,y] 0 2=[x,y]:=λ_ _=>rfl;have s4:∀x y:ByteArray,sub [x,y] 0 2=[x,y]:=λ_ _=>rfl;simp only[so,Kd,Jm,gx,FA,xT,Y7,aqt,aqu,MM,Fv,DH,dF]at a1 a2 a3 a4 a5 a6 a7 a8 b1;simp only[Dg,c1,am3,xT,MM,af,s1,s2,s3,s4,length_singleton,bG,length_nil,Nat.zero_add,Nat.reduceAdd,aF,aj,a1,a2,a3,a4,a5,a6,a7,a8,b1,b2,b3];rfl
theorem XI(a b a' b' v:Int):∀m:KI,jr lz a b (nG (CK (X:=xx) SI.ee) (iU.mk a' b') v m)=if a'=a/\b'=b then some v else jr lz a b m
 |[]=>by
  show(ck (decide ([a,b]=[a',b'])) (some v))=_;by_cases h:a'=a/\b'=b
  .obtain⟨rfl,rfl⟩:=h;simp
  .rw[aT h,decide_eq_false λe=>h (by simp only[List.cons.injEq,and_true]at e;exact⟨e.1.symm,e.2.symm⟩)];rfl
 |p::m=>by
  have ih:=XI a b a' b' v m;show jr lz a b (bif decide ([a',b']=[p.1.a0,p.1.a1])then((iU.mk a' b',v)::m)else p::nG (CK (X:=xx) SI.ee) (iU.mk a' b') v m)=(if a'=a/\b'=b then some v else(bif decide ([a,b]=[p.1.a0,p.1.a1])then some p.2 else jr lz a b m));by_cases h1:[a',b']=[p.1.a0,p.1.a1]
  .rw[decide_eq_true h1];show(bif decide ([a,b]=[a',b'])then some v else jr lz a b m)=_;by_cases h:a'=a/\b'=b
   .obtain⟨rfl,rfl⟩:=h;simp
   .have hne:¬ [a,b]=[a',b']:=λe=>h (by simp only[List.cons.injEq,and_true]at e;exact⟨e.1.symm,e.2.symm⟩);rw[aT h,decide_eq_false hne,decide_eq_false (by rw[<- h1];exact hne)];rfl
  .rw[decide_eq_false h1];show(bif decide ([a,b]=[p.1.a0,p.1.a1])then some p.2 else jr lz a b (nG (CK (X:=xx) SI.ee) (iU.mk a' b') v m))=_;rw[ih];by_cases h:a'=a/\b'=b
   .obtain⟨rfl,rfl⟩:=h;rw[decide_eq_false h1];simp
   .rw[aT h,aT h]
theorem afc{lot:dw}{j:Nat}(hb:(eb n lot (j:Int)).2=true):∀(l:U Nat)(s:KI×List aY),(j∈l\/jr lz lot.id (j:Int) s.1=some (Jj (eb n lot (j:Int)).1))->jr lz lot.id (j:Int) (l.foldl (λ s i=>AY n lot i s) s).1=some (Jj (eb n lot (j:Int)).1)
 |[],s,h=>by
  rcases h with h |h
  .simp at h
  .exact h
 |i::l,s,h=>by
  rw[foldl_cons];refine afc hb l _ ?_;by_cases hi:j=i
  .subst hi;right;unfold AY;rw[hb];show jr lz _ _ (nG _ _ _ _)=_;rw[XI,aZ ⟨rfl,rfl⟩]
  .rcases h with h |h
   .left;simpa[hi]using h
   .right;unfold AY;cases hbi:(eb n lot (i:Int)).2 with
    |false=>exact h
    |true=>
     show jr lz _ _ (nG _ _ _ _)=_;rw[XI,aT λe=>hi (by have:=e.2;omega)];exact h
theorem ahu{lot:dw}{p:aY}(h:G3 n [lot] p lot):jr lz p.lot p.cP (qH n [lot]).1=some (Jj (eb n lot p.cP).1):=by
 obtain⟨_,h0,h1,i,k,hi,_,hb,rfl⟩:=h;have hbad:LA lot []=false:=by
  unfold LA;rw[Sl,decide_eq_false (by omega),decide_eq_false (by omega)];rfl
 have e:(qH n [lot]).1=(yd n lot ([],[])).1:=by
  show(wU n lot ([],[],[])).1=_;unfold wU;rw[hbad];rfl
 rw[e];exact afc hb (List.range 21) ([],[]) (.inl (List.mem_range.2 hi))
theorem ahv{lot:dw}(ha:lot.area.length<=900)(hn:4000002<=n)(i:Int)(h:(eb n lot i).2=true):ey (eb n lot i).1=true:=by
 have e:=ack ha hn i;unfold lV at e;rw[Fj (n:=n) lot.area ha (by omega)]at e;simp only[af]at e;have key:∀c1 c2 c3:Bool,∃b,((bif c1 then some true else(bif c2 then some true else some c3)):J Bool)=some b:=λc1 c2 c3=>cO ⟨_,rfl⟩ (cO ⟨_,rfl⟩ ⟨_,rfl⟩);have key2:∀c x:Bool,∃b,((bif c then some true else some x):J Bool)=some b:=λc x=>cO ⟨_,rfl⟩ ⟨_,rfl⟩;have⟨b,hb⟩:=key (!(rH lot.area).2) (decide (i<0)) (decide (i>20));rw[hb]at e;cases b with
 |true=>injection e with e;rw[<- e]at h;cases h
 |false=>
  simp only[af,ak]at e;unfold IG at e;rw[iy]at e;simp only[af]at e;have⟨c,hc⟩:=key2 (!ey (rH lot.area).1) (decide (i<0));rw[hc]at e;cases c with
  |true=>injection e with e;rw[<- e]at h;cases h
  |false=>
   simp only[af,ak,uH]at e;generalize aA.mk (i64.wrap ((rH lot.area).1.x0+(min i (1048576:Int)))) (i64.wrap ((rH lot.area).1.y0+(min i (1048576:Int)))) (i64.wrap ((rH lot.area).1.x1 -(min i (1048576:Int)))) (i64.wrap ((rH lot.area).1.y1 -(min i (1048576:Int))))=R at e;cases hR:ey R with
   |false=>rw[hR]at e;injection e with e;rw[<- e]at h;cases h
   |true=>
    rw[hR]at e;have hcl:=Fa (keep:=λp q=>p&&q) lot.area [R];have hc:=E9 (n:=n) (a:=lot.area) (b:=[R]) (by omega) (by simp) (by omega) (by simp;omega) (by omega);have hA:=Fb (n:=n) (a:=(nk (λ p q=>p&&q) lot.area [R]).1) (by omega) (by omega);simp only[aj,Bool.not_true,ak,show ∀r:aA,sub [r] 0 1=[r]from λ_=>rfl,length_singleton,aF,hc,af,hA,ae1]at e;cases hk:((nk (λ p q=>p&&q) lot.area [R]).2==0)<;>rw[hk]at e<;>injection e with e<;>rw[<- e]<;>exact hR
theorem apT{lot:dw}{p:aY}(ha:lot.area.length<=900)(hn:4000002<=n)(h:G3 n [lot] p lot):wR n lot p=some (Jj (eb n lot p.cP).1):=by
 have hf:=aco h;have hb:(eb n lot p.cP).2=true:=by
  obtain⟨_,_,_,i,k,_,_,hb,rfl⟩:=h;exact hb
 have hr:=ahv ha hn p.cP hb;have e:Jj (eb n lot p.cP).1=i64.wrap ((i64.wrap ((eb n lot p.cP).1.x1 -(eb n lot p.cP).1.x0))*(i64.wrap ((eb n lot p.cP).1.y1 -(eb n lot p.cP).1.y0))):=by
  unfold Jj oU;rw[uH,hr];rfl
 unfold wR;rw[XC ha hn,hf,e];rfl
theorem apU{m:KI}{x y:aY}{ax ay:Int}(hx:jr lz x.lot x.cP m=some ax)(hy:jr lz y.lot y.cP m=some ay)(hl:x.lot=y.lot):IW x ax y ay=some (F8 lz m x y):=by
 have e:F8 lz m x y=decide (cmpL [i64.wrap (x.floors*ax),x.floors,x.lot,x.use,x.cP] [i64.wrap (y.floors*ay),y.floors,y.lot,y.use,y.cP] <0):=by
  show decide (cmpL [i64.wrap (x.floors*(jr lz x.lot x.cP m).getD 0),x.floors,x.lot,x.use,x.cP] [i64.wrap (y.floors*(jr lz y.lot y.cP m).getD 0),y.floors,y.lot,y.use,y.cP] <0)=_;rw[hx,hy];rfl
 have e0:¬cmpL [] [] <0:=by decide
 rw[e];unfold IW;rw[Int.mul_comm ax,Int.mul_comm ay];simp only[J4,hl,e0,and_false,or_false,Int.lt_irrefl,true_and,false_or];generalize i64.wrap (x.floors*ax)=A;generalize i64.wrap (y.floors*ay)=B;have hb:∀u v:Int,(u !=v)=!decide (u=v):=λu v=>by rw[iY];simp
 simp only[hb];by_cases h1:A=B
 .by_cases h2:x.floors=y.floors
  .by_cases h3:x.use=y.use<;>simp[h1,h2,h3]
  .simp[h1,h2]
 .simp[h1]
theorem aoN(k:Int):∃a:Nat,bits .and .i64 k 4611686018427387903=(a:Int):=by
 refine⟨(BitVec.ofInt 64 k &&& BitVec.ofInt 64 4611686018427387903).toNat,?_⟩;have h:(BitVec.ofInt 64 k &&& BitVec.ofInt 64 4611686018427387903).toNat<=4611686018427387903:=by
  rw[BitVec.toNat_and];exact Nat.le_trans Nat.and_le_right (by decide)
 show i64.wrap (((BitVec.ofInt 64 k &&& BitVec.ofInt 64 4611686018427387903).toNat:Nat):Int)=_;exact Io (by omega)
theorem akN(x y:aY):((x.lot==(y.lot:Int))&&((x.use==(y.use:Int))&&((x.floors==(y.floors:Int))&&((x.cP==(y.cP:Int))&&true))))=decide (x=y):=by
 rw[iY];cases x;cases y;simp[and_assoc]
theorem Y8(n:Nat)(land:U dw):List.Pairwise (α:=aY) (λ x y=>F8 lz (qH n land).1 y x=false) (dZ n land):=EA (α:=aY) (IA lz (qH n land).1) (qH n land).2.2
theorem XJ(hs:Dg 5000003=some true)(t:cu)(day k:Int)(ht:XN t):vT 5000003 t day k=some true:=by
 obtain⟨few,hf,S7⟩:=apL (n:=5000003) (t:=t) ht.plan (by omega);unfold vT;rw[hs,hf];simp only[af];cases few with
 |false=>rfl
 |true=>
  have⟨f1,f2⟩:=S7 rfl;have hT:=akL ht f1 f2;have zd:=amU f2;simp only[Bool.not_true,ak];by_cases c0:t.land.length=0
  .have c1:((t.land.length:Int)==0)=true:=(by rw[c0];rfl);simp only[c1,aj,af]
  have c1:((t.land.length:Int)==0)=false:=by rw[beq_eq_false_iff_ne];omega
  have hi:0<t.land.length:=by omega
  obtain⟨lot,vn⟩:∃lot,lot=t.land[0]:=⟨_,rfl⟩;have ha:lot.area.length<=900:=by rw[vn];exact zd.1 _ (getElem_mem hi)
  have hat:bo t.land 0=some lot:=by rw[vn];exact bq (i:=0) hi
  have hfd:t.land.find? (λ x=>x.id==lot.id)=some lot:=List.find?_eq_some_iff_getElem.2 ⟨by simp,0,hi,vn.symm,λj hj=>by omega⟩;have hL:∀l:U bK,yB (zm t l)->jw 5000003 (zm t l) lot.id day=some (Jl 5000003 (zm t l) lot day):=by
   intro l h;rw[afa lot.id day h zd n42];have:(zm t l).land.find? (λ x=>x.id==lot.id)=some lot:=hfd;rw[this]
  have hP:kC 5000003 [lot]=some (dZ 5000003 [lot]):=QC (λ l hl=>by rw[aR.1 hl];exact ha) (by simp) (by omega);have hof:∀p∈dZ 5000003 [lot],G3 5000003 [lot] p lot:=by
   intro p hp;have⟨l',h⟩:=aaQ hp;have:=List.mem_of_find?_eq_some h.Mu;rw[aR]at this;subst this;exact h
  have hlp:∀p∈dZ 5000003 [lot],oq 5000003 t lot p day=some (uJ 5000003 t (nT 5000003 lot p) day):=by
   intro p hp;have hfp:=aco (hof p hp);unfold oq nT;rw[XC ha (by omega),hfp];simp only[aj,af,ai8 day hT (acp _ _ _) n42]
  have hid:∀p∈dZ 5000003 [lot],p.lot=lot.id:=λp hp=>by
   obtain⟨_,_,_,i,k,_,_,_,rfl⟩:=hof p hp;rfl
  have hbase:∀p∈dZ 5000003 [lot],wR 5000003 lot p=some (Jj (eb 5000003 lot p.cP).1):=λp hp=>apT ha (by omega) (hof p hp);have vA:∀p∈dZ 5000003 [lot],jr lz p.lot p.cP (qH 5000003 [lot]).1=some (Jj (eb 5000003 lot p.cP).1):=λp hp=>ahu (hof p hp);have hsort:=Y8 5000003 [lot];have hlen:=ahn 5000003 [lot] (by simp);have hl1:=hL t.az (aaS hT (λ _ h=>h) hT.rules);have S3:jw 5000003 t lot.id day=some (xw (dZ 5000003 [lot]) λp=>uJ 5000003 t (nT 5000003 lot p) day):=hl1;have hl2:∀l:U bK,(∀ r∈l,r∈t.az)->l.length<=100->jw 5000003 (zm t l) lot.id day=some (xw (dZ 5000003 [lot]) λp=>uJ 5000003 (zm t l) (nT 5000003 lot p) day):=λl h1 h2=>hL l (aaS hT h1 h2);have hs1:sub [lot] 0 1=[lot]:=rfl;have SM:=hT.rules;have⟨a,hand⟩:=aoN k;simp only[c1,ak,af,hat,S3,hs1,length_singleton,aF,aj,hP,hand];generalize dZ 5000003 [lot]=L at hlp hid hbase vA hsort hlen hl2
  have ag:∀(r3:aY×Bool),(r3.2=true->∃i,∃hi:i<L.length,L[i]=r3.1/\uJ 5000003 t (nT 5000003 lot L[i]) day=true)->
   ((bif ((t.az.length:Int)==(0:Int))then some true else(ck ((t.az.length:Int) !=0) (ck (sZ 0 (Int.tmod (a:Int) (t.az.length:Int)) t.az.length) (ck (bP ([]:U bK).length 0 (sub t.az 0 ((Int.tmod (a:Int) (t.az.length:Int)).toNat)).length ((sub t.az 0 ((Int.tmod (a:Int) (t.az.length:Int)).toNat)).length) 232) (gH (([]:U bK)++(sub t.az 0 ((Int.tmod (a:Int) (t.az.length:Int)).toNat))) λr7=>ck (sZ (i64.wrap ((Int.tmod (a:Int) (t.az.length:Int))+1)) (t.az.length:Int) t.az.length) (ck (bP r7.length r7.length (sub t.az ((i64.wrap ((Int.tmod (a:Int) (t.az.length:Int))+1)).toNat) (t.az.length -(i64.wrap ((Int.tmod (a:Int) (t.az.length:Int))+1)).toNat)).length ((sub t.az ((i64.wrap ((Int.tmod (a:Int) (t.az.length:Int))+1)).toNat) (t.az.length -(i64.wrap ((Int.tmod (a:Int) (t.az.length:Int))+1)).toNat)).length) 232) (gH (r7++(sub t.az ((i64.wrap ((Int.tmod (a:Int) (t.az.length:Int))+1)).toNat) (t.az.length -(i64.wrap ((Int.tmod (a:Int) (t.az.length:Int))+1)).toNat))) λr8=>ck (aE (sub r8 0 r8.length).length r8.length) ((jw 5000003 (cu.mk t.cm t.br t.bu (sub r8 0 r8.length) t.ct t.b9 t.cE t.ca t.land t.co t.windows t.built t.base) lot.id day).bind λr9=>(bif (!r3.2)then some true else(bif r9.2 then(wR 5000003 lot r3.1).bind λtj=>(wR 5000003 lot r9.1).bind λlP=>(IW r3.1 tj r9.1 lP).bind λtU=>some (!tU)else some false)))))))))):J Bool)=some true:=by
   intro r3 hr3;by_cases c2:t.az.length=0
   .have c3:((t.az.length:Int)==0)=true:=(by rw[c2];rfl);rw[c3];rfl
   have c3:((t.az.length:Int)==0)=false:=(by rw[beq_eq_false_iff_ne];omega);have c4:((t.az.length:Int) !=0)=true:=(by rw[bne,c3];rfl);have em:Int.tmod (a:Int) (t.az.length:Int)=((a%t.az.length:Nat):Int):=(Int.ofNat_tmod _ _).symm;have hm:a%t.az.length<t.az.length:=Nat.mod_lt _ (by omega);rw[c3,c4,em];generalize a%t.az.length=m at hm;have s1:sZ 0 (m:Int) t.az.length=true:=pX (by omega) (by omega) (by omega);have s2:sZ ((m+1:Nat):Int) (t.az.length:Int) t.az.length=true:=pX (by omega) (by omega) (by omega);have hd:sub t.az (m+1) (t.az.length -(m+1))=t.az.drop (m+1):=by
    unfold sub;exact List.take_of_length_le (by rw[List.length_drop];omega)
   have a1:bP ([]:U bK).length 0 (t.az.take m).length (t.az.take m).length 232=true:=by
    have:bP 0 0 (t.az.take m).length (t.az.take m).length 232=true:=(by rw[aj2,aN,aW,aW,length_take];exact⟨by omega,by simp only[maxLen];omega⟩);exact this
   have a2:bP ([]++t.az.take m:U bK).length ([]++t.az.take m:U bK).length (t.az.drop (m+1)).length (t.az.drop (m+1)).length 232=true:=dm (by simp;omega) (by simp only[maxLen,bT,length_take,List.length_drop];omega);have hmem:∀r∈([]++t.az.take m)++t.az.drop (m+1),r∈t.az:=by
    intro r hr;rw[bT]at hr;rcases bn.1 hr with h |h
    .exact List.mem_of_mem_take h
    .exact List.mem_of_mem_drop h
   have hR:=hl2 (([]++t.az.take m)++t.az.drop (m+1)) hmem (by simp;omega);have hR':jw 5000003 (cu.mk t.cm t.br t.bu (([]++t.az.take m)++t.az.drop (m+1)) t.ct t.b9 t.cE t.ca t.land t.co t.windows t.built t.base) lot.id day=some _:=hR;simp only[ak,aj,s1,Int.toNat_natCast,alM,a1,dS,List.take_length,aM m,s2,hd,a2,bZ,aF,hR',af];cases h3:r3.2 with
   |false=>rfl
   |true=>
    have⟨i,hi',HS,hq⟩:=hr3 h3;have hq':=amW (l:=([]++t.az.take m)++t.az.drop (m+1)) hmem hq;rcases Fu L (λ p=>uJ 5000003 (zm t (([]++t.az.take m)++t.az.drop (m+1))) (nT 5000003 lot p) day)with ⟨p9,hf9,hr9,SO,_⟩ |⟨_,hn9⟩
    .rw[hr9,<- HS];have hpi:=getElem_mem hi';simp only[Bool.not_true,ak,aj,hbase _ hpi,hbase _ SO,af,apU (vA _ hpi) (vA _ SO) ((hid _ hpi).trans (hid _ SO).symm)];obtain⟨_,j,hj,rfl,hbef⟩:=List.find?_eq_some_iff_getElem.1 hf9;have hlt:F8 lz (qH 5000003 [lot]).1 L[i] L[j]=false:=by
      rcases Nat.lt_trichotomy i j with hij |hij |hij
      .have:=hbef i hij;rw[hq']at this;cases this
      .subst hij;exact(IA lz (qH 5000003 [lot]).1).irrefl _
      .rw[List.pairwise_iff_getElem]at hsort;exact hsort j i hj hi' hij
     rw[hlt];rfl
    .have:=hn9 _ (getElem_mem hi');rw[hq']at this;cases this
  rcases Fu L (λ p=>uJ 5000003 t (nT 5000003 lot p) day)with ⟨p,hfp,hr,hp,hq⟩ |⟨hr,hq⟩
  .rw[hr];obtain⟨_,i,hi',HS,hbef⟩:=List.find?_eq_some_iff_getElem.1 hfp;have loop:iter (fQ 5000003 t day lot (p,true) L) 5000003 (false,(0:Int))=some (.inl true):=by
    refine qj (step:=fQ 5000003 t day lot (p,true) L) (λ j=>(decide (i<j),(j:Int))) (s:=(false,(0:Int))) (i+1) (.inl true) (by simp) (λ j hj=>?_) ?_ 5000003 (by omega)
    .have ws:j<L.length:=(by omega);have e1:decide (i<j)=false:=(by rw[dL];omega);have e2:=hlp _ (getElem_mem ws);simp only[fQ,e1,bO ws,aj,aV ws,aX ws,af,Bool.not_false,akN,e2,aM j];by_cases hji:j=i
     .subst hji;rw[HS,decide_eq_true rfl];simp
     .have hq2:=hbef j (by omega);simp only[Bool.not_eq_true']at hq2;have hne:¬L[j]=p:=λh=>(by rw[h,hq]at hq2;cases hq2);rw[decide_eq_false hne,hq2];have e3:decide (i<j+1)=false:=(by rw[dL];omega);rw[e3];rfl
    .have e1:decide (i<i+1)=true:=(by simp);simp only[fQ,e1];cases decide (((i+1:Nat):Int)<(L.length:Int))<;>rfl
   have HQ:=hlp p hp;rw[hq]at HQ;simp only[HQ,aj,af,Bool.not_true,ak,loop,eO,beq_self_eq_true];exact ag (p,true) λ_=>⟨i,hi',HS,by rw[HS];exact hq⟩
  .rw[hr];have loop:iter (fQ 5000003 t day lot (gS,false) L) 5000003 (false,(0:Int))=some (.inl false):=by
    refine qj (step:=fQ 5000003 t day lot (gS,false) L) (λ j=>(false,(j:Int))) (s:=(false,(0:Int))) L.length (.inl false) rfl (λ j ws=>?_) ?_ 5000003 (by omega)
    .have e2:=hlp _ (getElem_mem ws);rw[hq _ (getElem_mem ws)]at e2;simp only[fQ,bO ws,aj,aV ws,aX ws,af,Bool.not_false,e2,aM j];cases ((L[j].lot==(gS.lot:Int))&&((L[j].use==(gS.use:Int))&&((L[j].floors==(gS.floors:Int))&&((L[j].cP==(gS.cP:Int))&&true))))<;>rfl
    .simp only[fQ,bW,ak];rfl
   have hz:((gS.lot==(0:Int))&&((gS.use==(0:Int))&&((gS.floors==(0:Int))&&((gS.cP==(0:Int))&&true))))=true:=rfl;simp only[ak,aj,Bool.not_false,af,hz,Bool.not_true,loop,eO,beq_self_eq_true];exact ag (gS,false) λh=>(by cases h)
theorem Y9(q:HL xx.toSE [.st SI.kf,.int .i64,.int .i64])(hb:yi (HL.oc xx.toSE [.st SI.kf,.int .i64,.int .i64] q)<=1048576):∃k,vT k q.1 q.2.1 q.2.2.1=some true:=by
 have h2:kP (Ka q.1)+(1+(1+0))<=1048576:=hb;exact⟨5000003,XJ aoM q.1 q.2.1 q.2.2.1 (apN (by omega))⟩
end Go.Proofs
