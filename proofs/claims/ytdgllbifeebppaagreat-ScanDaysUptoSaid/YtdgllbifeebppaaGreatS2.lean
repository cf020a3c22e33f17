import Derived.Test.YtdgllbifeebppaaGreatS1
open Go.IntKind (i64)
open List (mem_map all_eq_true getElem_mem length_map length_nil foldl_cons length_singleton length_filter_le)
namespace Go.Proofs
open Go.Gb Go.RowKit
variable {n:Nat}
theorem aov{p:bQ}{ms:U bW}{zs:U ByteArray}{e:cu}(hp:Z1 p)(hm:ms.length<=4000000)(hz:zs.length<=4000000)(he:(toE e).wt<=4000000)(hn:5000003<=n)(hn2:n<=9223372036854775000):∃v,xN n p ms zs e=some v:=by
 obtain⟨b,hb,hv⟩:=R7 (n:=n) (by omega) hn2 he;simp only[xN,za,hb,af];cases b with
 |false=>exact⟨_,rfl⟩
 |true=>
  have⟨kn,ab,h1,_⟩:=LP (n:=n) hp hm hz hn hn2;obtain⟨v,h2⟩:=Xt (n:=n) (a0:=p.defs) (a2:=p.zones) (a3:=p.rules) (a4:=p.caps) (a5:=p.views) (a6:=p.ut) (a7:=p.hours) (by omega) hp.tabs hz n e kn (hv rfl) he;simp only[Bool.not_true,ak,h1,af,fV,h2];exact⟨_,rfl⟩
section
variable {n:Nat} {d:List eu} {ts:List cZ} {z:List dL} {r r':List bP} {c c':List gq} {v v':List fu} {su sx:List cB} {h h':Int} {zs:List ByteArray}
theorem I5:∀(m:Nat)(e:cu)(kn:U (ByteArray×Int)),cK n m d ts z r c v su h zs e kn=cK n m d ts z r' c' v' sx h' zs e kn
 | 0,_,_=>rfl
 |m+1,e,kn=>by
  have ih:=I5 m;have hs:fB n (cK n m) d ts z r c v su h zs e=fB n (cK n m) d ts z r' c' v' sx h' zs e:=by
   funext ⟨v1,v2,v3⟩;simp only[fB,ih]
  have hr:∀w,ji n d ts z r c v su h zs e w=ji n d ts z r' c' v' sx h' zs e w:=λ_=>rfl;show fF n (cK n m) d ts z r c v su h zs e kn=fF n (cK n m) d ts z r' c' v' sx h' zs e kn;simp only[fF,hs,za,hr]
theorem ahi{ms:U bW}:(mF n (bQ.mk d ts z r c v su h) ms zs).map (λ q=>q.2.2.2.2.2.2.2.2.2)=(mF n (bQ.mk d ts z r' c' v' sx h') ms zs).map (λ q=>q.2.2.2.2.2.2.2.2.2):=by
 have hs:∀w2 r1,gJ n (bQ.mk d ts z r c v su h) zs w2 r1=gJ n (bQ.mk d ts z r' c' v' sx h') zs w2 r1:=by
  intro w2 r1;funext ⟨v6,v7,v8⟩;have hv:∀e kn,fV n d ts z r c v su h zs e kn=fV n d ts z r' c' v' sx h' zs e kn:=λe kn=>I5 n e kn;simp only[gJ,hv]
 have ho:jD n (bQ.mk d ts z r c v su h)=jD n (bQ.mk d ts z r' c' v' sx h'):=rfl;simp only[mF,hs,ho];cases iter (jV n ms) n ((0:Int),([]:(List (ByteArray×Int))),([]:(List (ByteArray×Bool))))with
 |none=>rfl
 |some w=>
  obtain⟨w1,w2⟩:=w;simp only[af];cases (decide ((d.length:Int)<=(d.length:Int))&&(decide (0<=(d.length:Int))&&xA (d.length:Int) 8))with
  |false=>rfl
  |true=>
   simp only[aj];cases jD n (bQ.mk d ts z r' c' v' sx h')with
   |none=>rfl
   |some r1=>
    simp only[af];cases (r1.2.2 !=(0:Int))with
    |true=>
     simp only[aj];cases aE (((d.length:Int):Int).toNat) (List.replicate ((d.length:Int):Int).toNat (0:Int)).length<;>rfl
    |false=>
     simp only[ak];cases iter (gJ n (bQ.mk d ts z r' c' v' sx h') zs w2 r1) n ((0:Int),w1,(List.replicate ((d.length:Int):Int).toNat (0:Int)))with
     |none=>rfl
     |some q=>
      obtain⟨w3,w4⟩:=q;simp only[af];cases aE (((d.length:Int):Int).toNat) w4.length<;>rfl
theorem ahj{ms:U bW}{e:cu}(hp:gR d)(ht:OF ts)(hm:ms.length<=4000000)(hz:zs.length<=4000000)(hn:5000003<=n)(hn2:n<=9223372036854775000):xN n (bQ.mk d ts z r c v su h) ms zs e=xN n (bQ.mk d ts z r' c' v' sx h') ms zs e:=by
 have⟨kn,ab,h1,_⟩:=LP (n:=n) (p:=bQ.mk d ts z r c v su h) ⟨hp,ht⟩ hm hz hn hn2;have⟨kn2,out2,h2,_⟩:=LP (n:=n) (p:=bQ.mk d ts z r' c' v' sx h') ⟨hp,ht⟩ hm hz hn hn2;have h3:=ahi (n:=n) (d:=d) (ts:=ts) (z:=z) (r:=r) (r':=r') (c:=c) (c':=c') (v:=v) (v':=v') (su:=su) (sx:=sx) (h:=h) (h':=h') (zs:=zs) (ms:=ms);rw[h1,h2]at h3;simp only[Option.map_some,aA,Prod.mk.injEq]at h3;obtain⟨rfl,rfl⟩:=h3;simp only[xN,h1,h2,af,fV,I5 (r:=r) (r':=r') (c:=c) (c':=c') (v:=v) (v':=v') (su:=su) (sx:=sx) (h:=h) (h':=h')]
end
theorem SV{b:ax}{l:U dW}{s:U fP}(ha:∀c∈s,c.area.length<=200)(hs:s.length<=1000)(hl:l.length<=1000)(hn:2000<=n):
 xR n b l s=some (EZ b l&&(E5 s&&!(s.any λc=>decide (Mu b l c.area<c.z1)))):=by
 unfold xR;rw[Xk b l hl hn];simp only[af];cases hv:EZ b l with
 |false=>simp only[Bool.not_false,aj,af,Bool.false_and]
 |true=>
  have⟨v1,v2⟩:=(aeH b l).1 hv;simp only[Bool.not_true,ak,R6 (n:=n) (s:=s) (λ x hx=>by have:=ha x hx;omega) (by omega),af,Bool.true_and];cases hr:E5 s with
  |false=>simp only[Bool.not_false,aj,Bool.false_and]
  |true=>
   have⟨_,sok,_⟩:=(Xm s).1 hr;simp only[Bool.not_true,ak,Bool.true_and];rw[sH (λ c=>decide (Mu b l c.area<c.z1)) (λ c hc=>by
    have:=ha c hc;show rz n c b l=_;unfold rz;rw[SS v1 v2 (uw (sok c hc).rt).1 (by omega) hl hn];rfl) (by omega) (by omega)]
   simp only[af]
def vv(v:aH):U fP:=[⟨v.eM,v.ep,[iq v]⟩]
theorem aeV(v:aH):xO v=some (vv v):=rfl
def UE(b:ax)(p:dW)(v:aH):Bool:=EZ b [p]&&(E5 (vv v)&&!((vv v).any λc=>decide (Mu b [p] c.area<c.z1)))
def Qs(r:bP):dW:=dW.mk r.ir r.iu r.j9 r.ka
theorem ab5(v:aH)(b:ax)(r:bP)(hn:2000<=n):jL n v b r=some (!UE b (Qs r) v):=by
 have h:=SV (n:=n) (b:=b) (l:=[Qs r]) (s:=vv v) (by simp[vv]) (by simp[vv]) (by simp) hn;unfold Qs at h;have hl:(vv v).length=1:=rfl;simp only[jL,aeV,af,bX,aC,aj,show ∀x:dW,sub [x] 0 1=[x]from λ_=>rfl,length_singleton,h,UE,Qs];rfl
def On(r:bP)(v:aH):Bool:=bits .and .i64 r.uses (i64.wrap (1*2 ^ (v.use:Int).toNat))==(0:Int)
theorem ab6{v:aH}(h:okV v=true)(r:bP):jM v r=some (On r v):=by
 have hu:0<=v.use/\v.use<6:=by
  simp only[okV,aL,aV]at h;omega
 have hb:i64.bits=64:=rfl;simp only[jM,On,show(decide (0<=v.use)&&decide (v.use<=i64.bits))=true from by simp[hb];omega,aj]
def P0(lot:Int)(r:bP)(v:aH)(b:jd):Bool:=(dV b (mh.mk [] [] [] [] [] [] [] 0 [] [] [] [] [] 0 0 [] [] lot [] [] []) v r).getD false
theorem aeW{b:jd}{s:mh}{v:aH}{r:bP}:dV b s v r=some (P0 s.ee r v b):=by
 have key:∃x,dV b (mh.mk [] [] [] [] [] [] [] 0 [] [] [] [] [] 0 0 [] [] s.ee [] [] []) v r=some x:=by
  simp only[dV,iR,ami,af];refine sI (dh ⟨_,rfl⟩ (dh ⟨_,rfl⟩ (dh ⟨_,rfl⟩ ⟨_,rfl⟩))) λ_=>dh ⟨_,rfl⟩ (sI (dh (dh ⟨_,rfl⟩ (dh ⟨_,rfl⟩ ⟨_,rfl⟩)) (dh ⟨_,rfl⟩ ⟨_,rfl⟩)) λ_=>dh ⟨_,rfl⟩ ⟨_,rfl⟩)
 have e:dV b s v r=dV b (mh.mk [] [] [] [] [] [] [] 0 [] [] [] [] [] 0 0 [] [] s.ee [] [] []) v r:=rfl;obtain⟨x,hx⟩:=key;rw[e,P0,hx];rfl
theorem zO{l:U jd}{φ:(jd×Unit)->J Bool}(p:jd->Bool)(h:∀x∈l,φ (x,())=some (p x))(hl:l.length<1099511627776)(hn:l.length<n):jN n l φ=some (l.any p):=by
 have:qC n l φ=some (wT p l):=fI p h hl hn;simp only[jN,this,af,xC]
def PT(built:U jd)(lot:Int)(r:bP)(v:aH):Bool:=built.any (P0 lot r v)
theorem ab9{s:mh}{v:aH}{r:bP}(hb:s.dp.length<=1000)(hn:2000<=n):jO n v s r=some (PT s.dp s.ee r v):=by simp only[jO,rO,zO (n:=n) (l:=s.dp) (φ:=λ(y1:jd×Unit)=>dV y1.1 s v r) (P0 s.ee r v) (λ x _=>aeW) (by omega) (by omega),af,PT]
def kq(r:bP):cu:=cu.mk r.ld r.mL r.mC r.j8 r.ga
def kf(t:bU):bQ:=bQ.mk t.cm t.br t.bu [] t.cw t.b9 t.cE t.ca
structure wO(t:bU):Prop where
 lots:∀l∈t.land,Ek l
 land:t.land.length<=1000
 DD:t.cx.length<=900/\∀e∈t.cx,e.area.length<=900
 built:t.built.length<=1000
 zones:t.bu.length<=100
 caps:t.cw.length<=1000
 rules:t.az.length<=100
 rule:∀r∈t.az,Qq r/\(toE (kq r)).wt<=4000000
 plan:Z1 (kf t)
def yd(d:bq):Prop:=Xo d/\J0 d
def Kq(n:Nat):Prop:=5000003<=n/\n<=9223372036854775000
def kC(t:bU)(lot:dn):U ByteArray:=Fi t.bu lot.area
def sY(t:bU)(lot:dn)(d:bq):mh:=mh.mk t.cm t.br t.bu t.az t.cw t.b9 t.cE t.ca t.land t.cx t.windows t.built t.base lot.id lot.owner lot.area lot.from_ d.lot d.phases (kJ d) (kC t lot)
theorem amE{d:bq}(h:Xo d)(hn:1001<=n):tO n d=some (kJ d):=by
 obtain⟨h1,h2⟩:=h;unfold tO;have key:=vo (step:=oO d) (λ i=>((i:Int),(d.phases.take i).flatMap (·.cM))) (s:=((0:Int),([]:U aH))) d.phases.length (kJ d) rfl (λ i hi=>by
  have hl:=ed (l:=d.phases.take i) λp hp=>h2 p (List.mem_of_mem_take hp);rw[List.length_take]at hl;have hv:=h2 _ (getElem_mem hi);generalize hL:(d.phases.take i).flatMap (·.cM)=L at hl;have hap:bR L.length L.length d.phases[i].cM.length d.phases[i].cM.length 72=true:=dm (by omega) (by simp only[maxLen];omega);simp only[oO,bJ hi,aj,bf hi,af,hap,dS,aC,aK i];rw[iw hi,List.flatMap_append,hL];simp only[List.flatMap_cons,List.flatMap_nil,List.append_nil]) (by simp only[oO,bV,ak,aC,aj,List.take_length,kJ]) n (by omega)
 have hz:aE 0 ([]:U aH).length=true:=rfl;simp only[hz,aj,key,af,bX,aC]
def X2(n:Nat)(t:bU)(d:bq):Bool:=(oF n (kf t) (mU t.land d.lot).1 d).getD false
def Fe(n:Nat)(t:bU)(d:bq):Int:=bif(mU t.land d.lot).2 then(bif X2 n t d then 0 else 1)else 4
def aqt:mh:=mh.mk ([]) ([]) ([]) ([]) ([]) ([]) ([]) 0 ([]) ([]) ([]) ([]) ([]) 0 0 ([]) ([]) 0 ([]) ([]) ([])
theorem look_eq{t:bU}{d:bq}(ht:wO t)(hd:yd d)(hn:Kq n):Am n t d=some (bif Fe n t d==0 then sY t (mU t.land d.lot).1 d else aqt,Fe n t d)/\(Fe n t d=0->∀v∈kJ d,okV v=true):=by
 obtain⟨hn1,hn2⟩:=hn;have hl:=ht.land;have e1:NU n t.land d.lot=some (mU t.land d.lot):=akf ht.lots (by omega) (by omega);have hw:=aaB ht.lots d.lot;obtain⟨b,hb,hv⟩:=akp (n:=n) (p:=kf t) (lot:=(mU t.land d.lot).1) (d:=d) ht.caps hw.1 hd.1 hd.2 (by omega);have e2:oF n (bQ.mk t.cm t.br t.bu t.az t.cw t.b9 t.cE t.ca) (mU t.land d.lot).1 d=some b:=hb;have e3:sD n (bQ.mk t.cm t.br t.bu t.az t.cw t.b9 t.cE t.ca) (mU t.land d.lot).1.area=some (Fi t.bu (mU t.land d.lot).1.area):=Ot _ _ ht.zones hw.1 (by omega);have e4:X2 n t d=b:=by unfold X2;rw[hb];rfl
 simp only[Am,e1,e2,e3,amE hd.1 (show 1001<=n by omega),af,bX,aC,aj,Fe,e4];cases (mU t.land d.lot).2 with
 |false=>exact⟨rfl,λh=>absurd (show (4:Int)=0 from h) (by decide)⟩
 |true=>
  cases b with
  |false=>exact⟨rfl,λh=>absurd (show (1:Int)=0 from h) (by decide)⟩
  |true=>exact⟨rfl,λ_=>hv rfl⟩
def Ok(n:Nat)(t:bU)(lot:dn)(d:bq)(r:bP):Bool:=((ku n (kf t) lot d).bind λms=>xN n (kf t) ms (kC t lot) (kq r)).getD 1==0
def xT(n:Nat)(t:bU)(lot:dn)(d:bq)(r:bP):Bool:=
 bif r.kind==0 then Ok n t lot d r else bif r.kind==1 then(kJ d).any (λ v=>!UE (J8 lot.area).1 (Qs r) v)else bif r.kind==2 then(kJ d).any (On r)else bif r.kind==3 then(kJ d).any (PT t.built d.lot r)else false
theorem LQ{t:bU}(ht:wO t)(lot:dn):(kC t lot).length<=100:=Nat.le_trans (aoo _ _) ht.zones
theorem akq{t:bU}{lot:dn}{d:bq}{r:bP}(ht:wO t)(hl:lot.area.length<=900)(hd:yd d)(hv:∀v∈kJ d,okV v=true)(hr:(toE (kq r)).wt<=4000000)(hn:Kq n):mR n (sY t lot d) r=some (xT n t lot d r):=by
 obtain⟨hn1,hn2⟩:=hn;have hvl:=J9 hd.1;have hz:=LQ ht lot;simp only[mR,gK,xT];cases (r.kind==0)with
 |true=>
  have htb:=ht.plan.tabs;obtain⟨e1,e2,e3,e4,e5,e6,e7,e8,H3⟩:=aqr (n:=n) (p:=kf t) (lot:=lot) (d:=d) ⟨by have:=htb.1;omega,by have:=htb.1;omega,λx hx=>by have:=htb.2 x hx;omega⟩ hl hd.1 (by omega);have h1:=H3 t.az;have h2:=H3 [];have h2':ku n (kf t) lot d=_:=h2;have h1':ku n (bQ.mk t.cm t.br t.bu t.az t.cw t.b9 t.cE t.ca) (dn.mk lot.id lot.owner lot.area lot.from_) (bq.mk d.lot d.phases)=_:=h1;obtain⟨v,hE⟩:=aov (n:=n) (p:=kf t) (ms:=[⟨⟨#[97,114,101,97]⟩,e1⟩,⟨⟨#[99,111,118,101,114]⟩,e2⟩,⟨⟨#[102,108,111,111,114]⟩,e3⟩,⟨⟨#[102,108,111,111,114,115]⟩,e4⟩,⟨⟨#[104,101,105,103,104,116]⟩,e5⟩,⟨⟨#[104,111,109,101,115]⟩,e6⟩,⟨⟨#[114,117,110,111,102,102]⟩,e7⟩,⟨Dj,wN (om lot) (fM d)⟩,⟨⟨#[116,114,97,102,102,105,99]⟩,e8⟩]) (zs:=kC t lot) (e:=kq r) ht.plan (by simp) (by omega) hr hn1 hn2;have hE':=(ahj (n:=n) (d:=t.cm) (ts:=t.br) (z:=t.bu) (r:=t.az) (r':=[]) (c:=t.cw) (v:=t.b9) (su:=t.cE) (h:=t.ca) (zs:=kC t lot) (ms:=[⟨⟨#[97,114,101,97]⟩,e1⟩,⟨⟨#[99,111,118,101,114]⟩,e2⟩,⟨⟨#[102,108,111,111,114]⟩,e3⟩,⟨⟨#[102,108,111,111,114,115]⟩,e4⟩,⟨⟨#[104,101,105,103,104,116]⟩,e5⟩,⟨⟨#[104,111,109,101,115]⟩,e6⟩,⟨⟨#[114,117,110,111,102,102]⟩,e7⟩,⟨Dj,wN (om lot) (fM d)⟩,⟨⟨#[116,114,97,102,102,105,99]⟩,e8⟩]) (e:=kq r) ht.plan.defs ht.plan.tabs (by simp) (by omega) hn1 hn2).trans hE;unfold kq at hE';simp only[aj,sY,h1',af,bX,aC,hE',Ok,h2',hE,Option.getD_some]
 |false=>
  cases (r.kind==1)with
  |true=>
   simp only[aj,ak,show(sY t lot d).kB=lot.area from rfl,show(sY t lot d).cM=kJ d from rfl,Ov (n:=n) lot.area hl (by omega),af];rw[fT (λ v=>!UE (J8 lot.area).1 (Qs r) v) (λ v _=>ab5 v _ r (by omega)) (by omega) (by omega)];rfl
  |false=>
   cases (r.kind==2)with
   |true=>
    simp only[aj,ak,show(sY t lot d).cM=kJ d from rfl];rw[fT (On r) (λ v hm=>ab6 (hv v hm) r) (by omega) (by omega)];rfl
   |false=>
    cases (r.kind==3)with
    |true=>
     simp only[aj,ak,show(sY t lot d).cM=kJ d from rfl];rw[fT (PT t.built d.lot r) (λ v _=>ab9 (s:=sY t lot d) ht.built (by omega)) (by omega) (by omega)];rfl
    |false=>rfl
def addN(ab:U ByteArray)(name:ByteArray)(bad:Bool):U ByteArray:=bif bad&&!(ab.any (lw name))then ab++[name]else ab
theorem Xu(ab:U ByteArray)(name:ByteArray)(bad:Bool):(addN ab name bad).length<=ab.length+1:=by
 unfold addN;cases (bad&&!(ab.any (lw name)))<;>simp
theorem aeX{name:ByteArray}{bad:Bool}{ab:U ByteArray}(hl:ab.length<=1000)(hn:2000<=n):jr n name bad ab=some (addN ab name bad):=by
 have hmx:maxLen=9223372036854775807:=rfl;have hap:bR ab.length ab.length (sub [name] 0 1).length 1 16=true:=by simp[bR,sub];omega
 simp only[jr,bX,aC,aj,uK (n:=n) (l:=ab) (a:=name) (by omega) (by omega),af,addN,hap,dS];cases bad with
 |false=>rfl
 |true=>cases (ab.any (lw name))<;>rfl
def Of(t:bU)(d:bq):Bool:=(kJ d).any λv=>!Ly t.cx d.lot (vv v)
def aaE:ByteArray:=⟨#[101,97,115,101,109,101,110,116]⟩
def Ff(n:Nat)(t:bU)(lot:dn)(d:bq)(l:U bP):U ByteArray:=l.foldl (λ ab r=>addN ab r.name (xT n t lot d r)) []
theorem Bt(f:bP->Bool):∀(l:U bP)(ab:U ByteArray),(l.foldl (λ ab r=>addN ab r.name (f r)) ab).length<=ab.length+l.length
 |[],ab=>by simp
 |r::l,ab=>by
  have h1:=Bt f l (addN ab r.name (f r));have h2:=Xu ab r.name (f r);rw[foldl_cons,bC];omega
def applied(t:bU)(lot:dn)(day:Int):U bP:=t.az.filter (lX (kC t lot) day)
def oP(t:bU)(d:bq):dn:=(mU t.land d.lot).1
def nQ(n:Nat)(t:bU)(d:bq)(day:Int):U ByteArray:=bif Fe n t d==0 then addN (Ff n t (oP t d) d (applied t (oP t d) day)) aaE (Of t d)else []
theorem aaF{t:bU}{d:bq}(day:Int)(ht:wO t)(hd:yd d)(hn:Kq n):oH n t d day=some (nQ n t d day,Fe n t d):=by
 obtain⟨hk,hv⟩:=look_eq (n:=n) ht hd hn;have hn1:=hn.1;have hvl:=J9 hd.1;simp only[oH,hk,af,nQ];by_cases h0:Fe n t d=0
 .have T5:(Fe n t d==0)=true:=by simp[h0]
  have T4:(Fe n t d !=0)=false:=by simp[h0]
  have hw:=aaB ht.lots d.lot;have hz:=LQ ht (oP t d);have hA:nK n (bQ.mk t.cm t.br t.bu t.az t.cw t.b9 t.cE t.ca) (kC t (oP t d)) day=some ((y9 t.az (kC t (oP t d)) day).map λ(i:Nat)=>(i:Int)):=FP _ _ _ (λ r hr=>(ht.rule r hr).1) ht.rules hz (by omega);have hal:(y9 t.az (kC t (oP t d)) day).length<=100:=Nat.le_trans (length_filter_le _ _) (by rw[List.length_range];exact ht.rules);have hpick:(y9 t.az (kC t (oP t d)) day).filterMap (λ i=>t.az[i]?)=applied t (oP t d) day:=IZ (lX (kC t (oP t d)) day) t.az;have hloop:∀A:U Nat,A.length<=100->(∀ i∈A,i<t.az.length)->iter (mZ n t (sY t (oP t d) d,Fe n t d) (A.map λ(i:Nat)=>(i:Int))) n ((0:Int),([]:U ByteArray))=some (Ff n t (oP t d) d (A.filterMap λi=>t.az[i]?)):=by
   intro A hA hAr
   have key:=fA (l:=A) (step:=mZ n t (sY t (oP t d) d,Fe n t d) (A.map λ(i:Nat)=>(i:Int))) (λ i (s:List ByteArray)=>((i:Int),s)) (λ i s=>match t.az[i]? with
    |some r=>addN s r.name (xT n t (oP t d) d r)
    |none=>s) (λ s=>s) (λ i s=>s.length<=i) (λ i hi s hs=>by
    have hr:=hAr _ (getElem_mem hi);have hlm:(A.map λ(i:Nat)=>(i:Int)).length=A.length:=(by simp);have hg:bo (A.map λ(i:Nat)=>(i:Int)) (((0:Nat):Int)+(i:Int))=some ((A[i]:Nat):Int):=(by rw[aW (by omega)];simp);have hrr:=ht.rule _ (getElem_mem hr);have hb:=akq (n:=n) (t:=t) (lot:=oP t d) (d:=d) ht hw.1 hd (hv h0) hrr.2 hn;have e:=dQ hr;simp only[mZ,hlm,bJ hi,aj,aU hi,hg,af,bf hr,hb,aC,aeX (n:=n) (name:=t.az[A[i]].name) (bad:=xT n t (oP t d) d t.az[A[i]]) (ab:=s) (by omega) (by omega),aK i,e];exact⟨trivial,Nat.le_trans (Xu _ _ _) (by omega)⟩) (λ s _=>by
    have hlm:(A.map λ(i:Nat)=>(i:Int)).length=A.length:=(by simp);simp only[mZ,hlm,bV,ak,aC,aj]) n (by omega) [] (aD _)
   rw[show ((0:Nat):Int)=0 from rfl]at key;rw[key];congr 1;unfold Ff;generalize ([]:U ByteArray)=s0;clear key hA
   induction A generalizing s0 with
   |nil=>rfl
   |cons a A ih=>
    have ha:=hAr a (by simp);rw[foldl_cons,List.filterMap_cons];simp only[dQ ha];rw[foldl_cons];exact ih (λ i hi=>hAr i (by simp[hi])) _
  have hlo:=hloop (y9 t.az (kC t (oP t d)) day) hal (λ i hi=>by
   have:=(List.mem_filter.1 hi).1;simpa using this)
  rw[hpick]at hlo;have hrl:(Ff n t (oP t d) d (applied t (oP t d) day)).length<=100:=by
   have h1:=Bt (xT n t (oP t d) d) (applied t (oP t d) day) [];have h2:(applied t (oP t d) day).length<=100:=Nat.le_trans (length_filter_le _ _) ht.rules;unfold Ff;simp only[length_nil]at h1;omega
  have hany:gK n (sY t (oP t d) d) (λ (y1:aH×Unit)=>mY n y1.1 t d)=some (Of t d):=by
   have hs:∀v,mY n v t d=some (!Ly t.cx d.lot (vv v)):=by
    intro v;have hl1:(vv v).length=1:=rfl;have h:=YW (n:=n) (l:=t.cx) (lot:=d.lot) (s:=vv v) ht.DD.1 ht.DD.2 (by simp[vv]) (by omega);simp only[mY,aeV,af,bX,aC,aj,h]
   simp only[gK,show(sY t (oP t d) d).cM=kJ d from rfl];rw[fT (λ v=>!Ly t.cx d.lot (vv v)) (λ v _=>hs v) (by omega) (by omega)];rfl
  have hsc:sY t (mU t.land d.lot).1 d=sY t (oP t d) d:=rfl;simp only[T5,T4,aj,ak,hsc,show(sY t (oP t d) d).zones=kC t (oP t d)from rfl,hA,af,length_nil,aC,hlo,hany,aeX (n:=n) (name:=⟨#[101,97,115,101,109,101,110,116]⟩) (bad:=Of t d) (ab:=Ff n t (oP t d) d (applied t (oP t d) day)) (by omega) (by omega),bX];rw[h0];rfl
 .have T5:(Fe n t d==0)=false:=by simpa using h0
  have T4:(Fe n t d !=0)=true:=by simpa using h0
  simp only[T5,T4,aj,ak]
theorem akr{t:bU}{d:bq}(day:Int)(ht:wO t)(hd:yd d)(hn:Kq n):mG n t d day=some ((Fe n t d==0)&&decide (nQ n t d day=[])):=by
 simp only[mG,aaF day ht hd hn,af];cases (Fe n t d==0)with
 |false=>rfl
 |true=>
  simp only[aj,Bool.true_and];cases nQ n t d day with
  |nil=>rfl
  |cons x l=>
   have:(((x::l).length:Nat):Int)≠0:=(by simp;omega);rw[beq_eq_false_iff_ne.2 this];simp
theorem Lc(r:ax):∃q,rZ r=some q:=by rw[EX];cases eE r<;>exact⟨_,rfl⟩
theorem Xv(r:ax):∃q,pz r=some q:=by
 unfold pz;have⟨q,hq⟩:=Lc r;rw[hq];simp only[af]
 first |exact⟨_,rfl⟩ |(cases q.2<;>exact⟨_,rfl⟩)
theorem acf(r:ax)(d:Int):∃q,NP r d=some q:=by
 unfold NP;rw[iR];simp only[af];have key:∀c x:Bool,∃b,((bif c then some true else some x):J Bool)=some b:=λc x=>dh ⟨_,rfl⟩ ⟨_,rfl⟩;have⟨b,hb⟩:=key (!eE r) (decide (d<0));rw[hb];cases b with
 |true=>exact⟨_,rfl⟩
 |false=>
  simp only[af,ak];have⟨q,hq⟩:=Lc (ax.mk (i64.wrap (r.x0+(min d (1048576:Int)))) (i64.wrap (r.y0+(min d (1048576:Int)))) (i64.wrap (r.x1 -(min d (1048576:Int)))) (i64.wrap (r.y1 -(min d (1048576:Int)))));rw[hq];exact⟨_,rfl⟩
theorem amG{lot:dn}(ha:lot.area.length<=900)(hn:4000002<=n)(i:Int):∃q,nL n lot i=some q:=by
 unfold nL;rw[Ov (n:=n) lot.area ha (by omega)];simp only[af];have key:∀c1 c2 c3:Bool,∃b,((bif c1 then some true else(bif c2 then some true else some c3)):J Bool)=some b:=λc1 c2 c3=>dh ⟨_,rfl⟩ (dh ⟨_,rfl⟩ ⟨_,rfl⟩);have⟨b,hb⟩:=key (!(J8 lot.area).2) (decide (i<0)) (decide (i>20));rw[hb];cases b with
 |true=>exact⟨_,rfl⟩
 |false=>
  simp only[af,ak];have⟨q,hq⟩:=acf (J8 lot.area).1 i;rw[hq];simp only[af];cases q.2 with
  |false=>exact⟨_,rfl⟩
  |true=>
   have hcl:=Om (keep:=λp q=>p&&q) lot.area [q.1];have hc:=Ol (n:=n) (a:=lot.area) (b:=[q.1]) (by omega) (by simp) (by omega) (by simp;omega) (by omega);have hA:=LM (n:=n) (a:=(pK (λ p q=>p&&q) lot.area [q.1]).1) (by omega) (by omega);have⟨z,hz⟩:=Xv q.1;simp only[Bool.not_true,ak,show ∀r:ax,sub [r] 0 1=[r]from λ_=>rfl,length_singleton,aC,aj,hc,af,hA,hz];cases ((pK (λ p q=>p&&q) lot.area [q.1]).2==0)<;>exact⟨_,rfl⟩
def jj(n:Nat)(lot:dn)(i:Int):ax×Bool:=(nL n lot i).getD (⟨0,0,0,0⟩,false)
theorem aiW{lot:dn}(ha:lot.area.length<=900)(hn:4000002<=n)(i:Int):nL n lot i=some (jj n lot i):=by
 have⟨q,hq⟩:=amG ha hn i;unfold jj;rw[hq];rfl
def X1(r:ax):Int:=(pz r).getD 0
theorem amI(r:ax):pz r=some (X1 r):=by
 have⟨q,hq⟩:=Xv r;unfold X1;rw[hq];rfl
def ux(lot:dn)(iv:Int)(k:Nat):bB:=bB.mk lot.id (Int.tmod (k:Int) 6) (i64.wrap ((i64.wrap (Int.tdiv (k:Int) 6))+1)) iv
theorem aks(lot:dn)(v:Int)(l:U bB)(hl:l.length<=1000000)(hn:1000<=n):iter (lM lot v) n ((0:Int),l)=some (l++(List.range 72).map (ux lot v)):=by
 refine vo (step:=lM lot v) (λ i=>((i:Int),l++(List.range i).map (ux lot v))) (s:=((0:Int),l)) 72 (l++(List.range 72).map (ux lot v)) (by simp) (λ i hi=>?_) ?_ n (by omega)
 .have hap:bR (l++(List.range i).map (ux lot v)).length (l++(List.range i).map (ux lot v)).length 1 1 32=true:=dm (by simp;omega) (by simp only[maxLen,dN,length_map,List.length_range];omega);have hlt:decide ((i:Int)<72)=true:=by simp;omega
  simp only[lM,hlt,aj,show((6:Nat) !=0)=true from rfl,show((6:Int) !=0)=true from rfl,show ∀r:bB,sub [r] 0 1=[r]from λ_=>rfl,length_singleton,hap,dS,aC,aK i];rw[List.range_succ,List.map_append,<- aM];rfl
 .have hlt:decide (((72:Nat):Int)<72)=false:=by simp
  simp only[lM,hlt,ak,aC,aj]
abbrev Qt:=List (lu×Int)
def I6(n:Nat)(lot:dn)(i:Nat)(s:Qt×List bB):Qt×List bB:=
 bif(jj n lot (i:Int)).2 then(oZ (HV (X:=xx) SI.eJ) (lu.mk lot.id (i:Int)) (X1 (jj n lot (i:Int)).1) s.1,s.2++(List.range 72).map (ux lot (i:Int)))else s
def At(n:Nat)(lot:dn)(s:Qt×List bB):Qt×List bB:=(List.range 21).foldl (λ s i=>I6 n lot i s) s
theorem aaG(n:Nat)(lot:dn)(i:Nat)(s:Qt×List bB):(I6 n lot i s).2.length<=s.2.length+72:=by
 unfold I6;cases (jj n lot (i:Int)).2<;>simp
theorem aaH(n:Nat)(lot:dn):∀(l:U Nat)(s:Qt×List bB),(l.foldl (λ s i=>I6 n lot i s) s).2.length<=s.2.length+72*l.length
 |[],s=>by simp
 |i::l,s=>by
  have h1:=aaH n lot l (I6 n lot i s);have h2:=aaG n lot i s;rw[foldl_cons,bC];omega
theorem akt{lot:dn}(ha:lot.area.length<=900)(hn:4000002<=n)(s:Qt×List bB)(hs:s.2.length<=900000):iter (lN n lot) n ((0:Int),s.1,s.2)=some (At n lot s):=by
 have key:=fA (l:=List.range 21) (step:=lN n lot) (λ i (s:Qt×List bB)=>((i:Int),s.1,s.2)) (λ i s=>I6 n lot i s) (λ s=>s) (λ i s=>s.2.length<=900000+72*i) (λ i hi s hs=>by
  rw[List.length_range]at hi;have hlt:decide ((i:Int)<21)=true:=by simp;omega
  have hg:(List.range 21)[i]'(by rw[List.length_range];exact hi)=i:=List.getElem_range _;rw[hg];refine⟨?_,by have:=aaG n lot i s;show(I6 n lot i s).2.length<=_;omega⟩;simp only[lN,hlt,aj,aiW ha hn,af,I6];cases hb:(jj n lot (i:Int)).2 with
  |false=>simp only[Bool.not_false,aj,ak,aC,af,aK i]
  |true=>simp only[Bool.not_true,aj,ak,amI,af,aC,aks (n:=n) lot (i:Int) s.2 (by omega) (by omega),aK i]) (λ s _=>by
  have hlt:decide (((List.range 21).length:Int)<21)=false:=by simp
  simp only[lN,hlt,ak,aC,aj]) n (by rw[List.length_range];omega) s (by simpa using hs)
 exact key
def R9(lot:dn)(seen:U (Int×Bool)):Bool:=(eX gd lot.id seen).getD false || (decide (lot.id<0) || decide (lot.id>1073741824))
abbrev yp:=Qt×List (Int×Bool)×List bB
def zb(n:Nat)(lot:dn)(s:yp):yp:=
 bif R9 lot s.2.1 then s else((At n lot (s.1,s.2.2)).1,oZ gd lot.id true s.2.1,(At n lot (s.1,s.2.2)).2)
def ze(n:Nat)(land:U dn):yp:=land.foldl (λ s lot=>zb n lot s) ([],[],[])
theorem amJ(n:Nat)(lot:dn)(s:Qt×List bB):(At n lot s).2.length<=s.2.length+1512:=by
 have:=aaH n lot (List.range 21) s;rw[List.length_range]at this;unfold At;omega
theorem aaI(n:Nat)(lot:dn)(s:yp):(zb n lot s).2.2.length<=s.2.2.length+1512:=by
 have:=amJ n lot (s.1,s.2.2);unfold zb;cases R9 lot s.2.1
 .exact this
 .simp
theorem Xw(n:Nat):∀(land:U dn)(s:yp),(land.foldl (λ s lot=>zb n lot s) s).2.2.length<=s.2.2.length+1512*land.length
 |[],s=>by simp
 |lot::l,s=>by
  have h1:=Xw n l (zb n lot s);have h2:=aaI n lot s;rw[foldl_cons,bC];omega
def gm(n:Nat)(land:U dn):U bB:=lq (α:=bB) (Ny we (ze n land).1) (ze n land).2.2
theorem AQ(n:Nat)(land:U dn):(gm n land).Perm (ze n land).2.2:=Lx (α:=bB) (WJ we (ze n land).1) _
theorem aaJ{land:U dn}(ha:∀l∈land,l.area.length<=900)(hl:land.length<=500)(hn:4000002<=n):pF n land=some (gm n land):=by
 have key:=fA (l:=land) (step:=lQ n land) (λ i (s:yp)=>((i:Int),s.1,s.2.1,s.2.2)) (λ lot s=>zb n lot s) (λ s=>(s.1,s.2.2)) (λ i s=>s.2.2.length<=1512*i) (λ i hi s hs=>by
  refine⟨?_,by have:=aaI n land[i] s;show(zb n land[i] s).2.2.length<=_;omega⟩;simp only[lQ,bJ hi,aj,bf hi,af,zb];have hk:((bif ((eX gd land[i].id s.2.1).getD false)then some true else(bif (decide (land[i].id<(0:Int)))then some true else some (decide (land[i].id>(1073741824:Int))))):J (Bool))=some (R9 land[i] s.2.1):=by
   unfold R9;cases (eX gd land[i].id s.2.1).getD false<;>cases decide (land[i].id<(0:Int))<;>rfl
  rw[hk];cases hb:R9 land[i] s.2.1 with
  |true=>simp only[af,aj,aC,aK i]
  |false=>simp only[af,ak,aj,aC,akt (n:=n) (ha _ (getElem_mem hi)) hn (s.1,s.2.2) (by show s.2.2.length<=_;omega),aK i]) (λ s _=>by simp only[lQ,bV,ak,aC,aj]) n (by omega) ([],[],[]) (by simp)
 have hz:aE 0 ([]:U bB).length=true:=rfl;rw[show ((0:Nat):Int)=0 from rfl]at key;have hlen:=Xw n land ([],[],[]);have aqL:(ze n land).2.2.length<=1512*land.length:=by unfold ze;simpa using hlen
 have hS:=(AQ n land).length_eq;have hps:aiJ (ze n land).2.2 (ze n land).1=some (gm n land,(ze n land).1):=by exact @rN xx SI.kw SI.eJ (inferInstance:Inhabited bB) we (ze n land).2.2 (ze n land).1 (show List.length (ze n land).2.2<=_ by omega)
 have key':iter (lQ n land) n ((0:Int),([]:U (lu×Int)),([]:U (Int×Bool)),([]:U bB))=some ((ze n land).1,(ze n land).2.2):=key;unfold pF;rw[hz,key'];simp only[aj,af,aC,hps,<- hS,bX]
theorem amK{lot:dn}{s:Qt×List bB}{p:bB}(h:p∈(At n lot s).2):p∈s.2\/∃i k:Nat,i<21/\k<72/\(jj n lot (i:Int)).2=true/\p=ux lot (i:Int) k:=by
 have gen:∀(l:U Nat)(s:Qt×List bB),(∀ i∈l,i<21)->p∈(l.foldl (λ s i=>I6 n lot i s) s).2->p∈s.2\/∃i k:Nat,i<21/\k<72/\(jj n lot (i:Int)).2=true/\p=ux lot (i:Int) k:=by
  intro l
  induction l with
  |nil=>intro s _ h;exact .inl h
  |cons i l ih=>
   intro s hl h;rcases ih (I6 n lot i s) (λ j hj=>hl j (by simp[hj])) h with h |h
   .unfold I6 at h;cases hb:(jj n lot (i:Int)).2 with
    |false=>rw[hb]at h;exact .inl h
    |true=>
     rw[hb]at h;simp only[aj,aY,mem_map,List.mem_range]at h;rcases h with h |⟨k,hk,rfl⟩
     .exact .inl h
     .exact .inr ⟨i,k,hl i (by simp),hk,hb,rfl⟩
   .exact .inr h
 exact gen (List.range 21) s (λ i hi=>List.mem_range.1 hi) h
theorem Qu(k k':Int)(v:Bool):∀l:U (Int×Bool),eX gd k (oZ gd k' v l)=if k=k' then some v else eX gd k l
 |[]=>by
  show(bif gd k k' then some v else eX gd k [])=_;by_cases h:k=k'
  .subst h;simp[gd]
  .have e2:gd k k'=false:=(by simp[gd,h]);rw[e2,aR h];rfl
 |p::l=>by
  have ih:=Qu k k' v l;show eX gd k (bif gd k' p.1 then(k',v)::l else p::oZ gd k' v l)=_;by_cases h1:k'=p.1
  .have e1:gd k' p.1=true:=(by simp[gd,h1]);rw[e1];show(bif gd k k' then some v else eX gd k l)=if k=k' then some v else(bif gd k p.1 then some p.2 else eX gd k l)
   by_cases h:k=k'
   .subst h;simp[gd]
   .have e2:gd k k'=false:=(by simp[gd,h]);have e3:gd k p.1=false:=(by rw[<- h1];exact e2);rw[e2,e3,aR h];rfl
  .have e1:gd k' p.1=false:=(by simp[gd,h1]);rw[e1];show(bif gd k p.1 then some p.2 else eX gd k (oZ gd k' v l))=if k=k' then some v else(bif gd k p.1 then some p.2 else eX gd k l)
   rw[ih];by_cases h:k=k'
   .subst h;rw[e1];simp
   .rw[aR h,aR h]
structure OfP(n:Nat)(land:List dn)(p:bB)(lot:dn):Prop where
 UT:land.find? (λ x=>x.id==p.lot)=some lot
 id0:0<=lot.id
 id1:lot.id<=1073741824
 ex:∃i k:Nat,i<21/\k<72/\(jj n lot (i:Int)).2=true/\p=ux lot (i:Int) k
theorem aiX(n:Nat)(land:U dn):∀i,i<=land.length->(∀ p∈((land.take i).foldl (λ s lot=>zb n lot s) (([],[],[]):yp)).2.2,∃lot,OfP n land p lot)/\
 (∀ j (hj:j<land.length),j<i->0<=land[j].id->land[j].id<=1073741824->eX gd land[j].id ((land.take i).foldl (λ s lot=>zb n lot s) (([],[],[]):yp)).2.1=some true)
 | 0,_=>by simp
 |i+1,hi=>by
  obtain⟨h1,h2⟩:=aiX n land i (by omega);rw[iw (show i<land.length by omega),List.foldl_append];generalize hs:(land.take i).foldl (λ s lot=>zb n lot s) (([],[],[]):yp)=s at h1 h2;simp only[foldl_cons,List.foldl_nil];have hi':i<land.length:=by omega
  cases hb:R9 land[i] s.2.1 with
  |true=>
   have e:zb n land[i] s=s:=(by unfold zb;rw[hb];rfl);rw[e];refine⟨h1,λj hj hji h0 h3=>?_⟩;rcases Nat.lt_or_ge j i with h |h
   .exact h2 j hj h h0 h3
   .obtain rfl:j=i:=(by omega);unfold R9 at hb;have e1:decide (land[j].id<0)=false:=(by simp;omega);have e2:decide (land[j].id>1073741824)=false:=(by simp;omega);rw[e1,e2]at hb;simp only[Bool.or_false]at hb;cases hm:eX gd land[j].id s.2.1 with
    |none=>rw[hm]at hb;cases hb
    |some b=>rw[hm]at hb;simp only[Option.getD_some]at hb;rw[hb]
  |false=>
   have e:zb n land[i] s=((At n land[i] (s.1,s.2.2)).1,oZ gd land[i].id true s.2.1,(At n land[i] (s.1,s.2.2)).2):=(by unfold zb;rw[hb];rfl);rw[e];simp only[R9,Bool.or_eq_false_iff,dP]at hb;obtain⟨b1,b2,b3⟩:=hb;refine⟨λ p hp=>?_,λj hj hji h0 h3=>?_⟩
   .rcases amK hp with hp |⟨a,k,ha,hk,hbs,rfl⟩
    .exact h1 p hp
    .refine⟨land[i],?_,by omega,by omega,a,k,ha,hk,hbs,rfl⟩;rw[List.find?_eq_some_iff_getElem];refine⟨by simp[ux],i,hi',rfl,λj hj=>?_⟩;simp only[ux,Bool.not_eq_true',beq_eq_false_iff_ne];intro hj2;have:=h2 j (by omega) hj (by rw[hj2];omega) (by rw[hj2];omega);rw[hj2]at this;rw[this]at b1;cases b1
   .show eX gd land[j].id (oZ gd land[i].id true s.2.1)=some true;rw[Qu];by_cases hij:land[j].id=land[i].id
    .rw[aX hij]
    .rw[aR hij];rcases Nat.lt_or_ge j i with h |h
     .exact h2 j hj h h0 h3
     .obtain rfl:j=i:=(by omega);exact absurd rfl hij
theorem aku{land:U dn}{p:bB}(h:p∈gm n land):∃lot,OfP n land p lot:=by
 have h1:=(AQ n land).mem_iff.1 h;have:=(aiX n land land.length (aD _)).1 p;rw[List.take_length]at this;exact this h1
def aqu(r:ax)(p:bB):aH:=aH.mk r.x0 r.y0 r.x1 r.y1 0 (i64.wrap (p.floors*3)) p.use (bif (p.use==(0:Int))then p.floors else 0) false
def Dk(n:Nat)(lot:dn)(p:bB):bq:=bq.mk p.lot [tu.mk [aqu (jj n lot p.iv).1 p] []]
def Ld(n:Nat)(lot:dn)(p:bB):Bool:=(jj n lot p.iv).2&&(decide (p.lot=lot.id)&&(decide (0<=p.lot)&&(decide (p.lot<=1073741824)&&(decide (0<=p.use)&&(decide (p.use<6)&&(decide (1<=p.floors)&&decide (p.floors<=12)))))))
theorem amL{lot:dn}(ha:lot.area.length<=900)(hn:4000002<=n)(p:bB):vJ n lot p=some (bif Ld n lot p then(Dk n lot p,true)else(bq.mk 0 [],false)):=by
 unfold vJ;rw[aiW ha hn];simp only[af];have hk:((bif (!(jj n lot p.iv).2)then some true else(bif (p.lot !=(lot.id:Int))then some true else(bif (decide (p.lot<(0:Int)))then some true else(bif (decide (p.lot>(1073741824:Int)))then some true else(bif (decide (p.use<(0:Int)))then some true else(bif (decide (p.use>=(6:Int)))then some true else(bif (decide (p.floors<(1:Int)))then some true else some (decide (p.floors>(12:Int)))))))))):J (Bool))=some (!Ld n lot p):=by
  unfold Ld;have e1:(p.lot !=lot.id)=!decide (p.lot=lot.id):=by rw[jW];simp
  have e2:decide (p.lot<0)=!decide (0<=p.lot):=by rw[<- decide_not,decide_eq_decide];omega
  have e3:decide (p.lot>1073741824)=!decide (p.lot<=1073741824):=by rw[<- decide_not,decide_eq_decide];omega
  have e4:decide (p.use<0)=!decide (0<=p.use):=by rw[<- decide_not,decide_eq_decide];omega
  have e5:decide (p.use>=6)=!decide (p.use<6):=by rw[<- decide_not,decide_eq_decide];omega
  have e6:decide (p.floors<1)=!decide (1<=p.floors):=by rw[<- decide_not,decide_eq_decide];omega
  have e7:decide (p.floors>12)=!decide (p.floors<=12):=by rw[<- decide_not,decide_eq_decide];omega
  rw[e1,e2,e3,e4,e5,e6,e7];cases (jj n lot p.iv).2<;>cases decide (p.lot=lot.id)<;>cases decide (0<=p.lot)<;>cases decide (p.lot<=1073741824)<;>cases decide (0<=p.use)<;>cases decide (p.use<6)<;>cases decide (1<=p.floors)<;>rfl
 rw[hk];cases Ld n lot p with
 |false=>rfl
 |true=>
  simp only[Bool.not_true,af,ak,aj,Dk,aqu];cases (p.use==(0:Int))<;>rfl
theorem aow{land:U dn}{p:bB}{lot:dn}(h:OfP n land p lot):Ld n lot p=true:=by
 obtain⟨h1,h2,h3,i,k,hi,hk,hb,rfl⟩:=h;have e1:Int.tmod (k:Int) 6=((k%6:Nat):Int):=by rw[show (6:Int)=((6:Nat):Int)from rfl,<- Int.ofNat_tmod]
 have e2:Int.tdiv (k:Int) 6=((k/6:Nat):Int):=by rw[show (6:Int)=((6:Nat):Int)from rfl,<- Int.ofNat_tdiv]
 have e3:i64.wrap ((i64.wrap (Int.tdiv (k:Int) 6))+1)=((k/6+1:Nat):Int):=by rw[e2,Nk (by omega),bK (by omega)]
 simp only[Ld,ux,e1,e3,hb,Bool.true_and,aL,aV];refine⟨trivial,h2,h3,?_,?_,?_,?_⟩<;>omega
theorem aiY(n:Nat)(lot:dn)(p:bB):yd (Dk n lot p):=by refine⟨⟨by simp[Dk],λq hq=>?_⟩,λq hq=>?_⟩<;> · simp only[Dk,aP]at hq;subst hq;simp
theorem amM:yd (bq.mk 0 []):=by refine⟨⟨by simp,λq hq=>?_⟩,λq hq=>?_⟩<;>simp at hq
def Lt:bB:=bB.mk 0 0 0 0
def zf(n:Nat)(t:bU)(d:bq)(day:Int):Bool:=(Fe n t d==0)&&decide (nQ n t d day=[])
theorem aox{t:bU}{d:bq}(day:Int)(ht:wO t)(hd:yd d)(hn:Kq n):mG n t d day=some (zf n t d day):=akr day ht hd hn
def G3(land:U dn):Prop:=(∀ l∈land,l.area.length<=900)/\land.length<=500
def XX(n:Nat)(land:U dn)(p:bB):bq×Bool:=match land.find? λx=>x.id==p.lot with
 |none=>(bq.mk 0 [],false)
 |some lot=>bif Ld n lot p then(Dk n lot p,true)else(bq.mk 0 [],false)
def oT(t:bU)(p:bQ):bU:=bU.mk p.defs p.tables p.zones p.rules p.caps p.views p.ut p.hours t.land t.cx t.windows t.built t.base
def vw(l:U bB)(q:bB->Bool):bB×Bool:=match l.find? q with
 |some p=>(p,true)
 |none=>(Lt,false)
theorem acg(l:U bB)(q:bB->Bool):(∃ p,l.find? q=some p/\vw l q=(p,true)/\p∈l/\q p=true)\/(vw l q=(Lt,false)/\∀p∈l,q p=false):=by
 unfold vw;cases h:l.find? q with
 |none=>exact .inr ⟨rfl,λp hp=>by have:=List.find?_eq_none.1 h p hp;simpa using this⟩
 |some p=>exact .inl ⟨p,rfl,rfl,List.mem_of_find?_eq_some h,List.find?_some h⟩
theorem ae0{l:U bB}{q:bB->Bool}(h:∀p∈l,q p=false):vw l q=(Lt,false):=by
 unfold vw;rw[List.find?_eq_none.2 λp hp=>by rw[h p hp];decide]
theorem ach{l:U bB}{q q':bB->Bool}(h:∀p∈l,q p=q' p):vw l q=vw l q':=by
 unfold vw;have:l.find? q=l.find? q':=by
  induction l with
  |nil=>rfl
  |cons a l ih=>rw[List.find?_cons,List.find?_cons,h a (by simp),ih λp hp=>h p (by simp[hp])]
 rw[this]
theorem Oy(j:Nat):decide (((j+1:Nat):Int)>0)=true:=by simp
theorem ae1:decide (((0:Nat):Int)>0)=false:=rfl
theorem pred_succ{j:Nat}(h:j<9223372036854775807):i64.wrap (((j+1:Nat):Int) -1)=(j:Int):=by rw[mW (by omega) (by omega)];simp
theorem Qv{i n:Nat}(h:¬i<n):decide ((i:Int)<(n:Int))=false:=by simp;omega
theorem aiZ(c1 c2:Bool):∃b,((bif c1 then some true else some c2):J Bool)=some b:=dh ⟨_,rfl⟩ ⟨_,rfl⟩
theorem qs2{a0 v2:U Int}{k:Nat}(hk:k<a0.length)(hl:v2.length<=1000)(hn:2000<=n):∃w:Nat,iter (qM a0 (k:Int) v2) n (v2.length:Int)=some (w:Int)/\w<=v2.length:=by
 obtain⟨o,h1,w,rfl,h2⟩:=xV (step:=qM a0 (k:Int) v2) (λ v=>∃j:Nat,v=(j:Int)/\j<=v2.length) (λ o=>∃j:Nat,o=(j:Int)/\j<=v2.length) Int.toNat (by
  rintro v ⟨j,rfl,hj⟩;cases j with
  |zero=>simp only[qM,ae1,ak,af];exact .inr ⟨_,rfl,0,rfl,hj⟩
  |succ j=>
   have hj':j<v2.length:=hj;simp only[qM,Oy,aj,pred_succ (show j<9223372036854775807 by omega),aU hj',aW hj',bf hk,af];cases decide (v2[j]>a0[k])with
   |false=>exact .inr ⟨_,rfl,j+1,rfl,hj⟩
   |true=>exact .inl ⟨_,rfl,⟨j,rfl,by omega⟩,by omega⟩) n _ ⟨_,rfl,aD _⟩ (by omega)
 exact⟨w,h1,h2⟩
theorem qs3{r1:U Int}{w m:Nat}(hm:r1.length=m+1)(hw:w<=m)(hl:m<=1000)(hn:2000<=n):∃o,iter (qN (w:Int) r1) n (i64.wrap ((r1.length:Int) -1),r1)=some o/\o.length=r1.length:=by
 rw[hm,pred_succ (by omega)];obtain⟨o,h1,h2⟩:=xV (step:=qN (w:Int) r1) (λ v=>∃j:Nat,v.1=(j:Int)/\w<=j/\j<=m/\v.2.length=r1.length) (λ o=>o.length=r1.length) (λ v=>v.1.toNat) (by
  rintro⟨v,l⟩ ⟨j,rfl,hj,hjm,hlen⟩;simp only at hlen;by_cases h:w<j
  .obtain⟨j,rfl⟩:∃i,j=i+1:=⟨j -1,by omega⟩;have e:decide (((j+1:Nat):Int)>(w:Int))=true:=(by simp;omega);have a1:j<r1.length:=(by omega);have a2:j<l.length:=(by omega);have a3:j+1<r1.length:=(by omega);have a4:j+1<l.length:=(by omega);simp only[qN,e,aj,pred_succ (show j<9223372036854775807 by omega),aU a1,aW a2,aU a3,aW a4,af];exact .inl ⟨_,rfl,⟨j,rfl,by omega,by omega,by simpa using hlen⟩,by simp⟩
  .have e:decide ((j:Int)>(w:Int))=false:=(by simp;omega);simp only[qN,e,ak];exact .inr ⟨_,rfl,hlen⟩) n ((m:Int),r1) ⟨m,rfl,hw,aD _,rfl⟩ (by simp;omega)
 rw[<- hm];exact⟨o,h1,h2⟩
theorem amO{a0:U Int}(hl:a0.length<=1000)(hn:2000<=n):∃o,EN n a0=some o/\o.length<=a0.length:=by
 obtain⟨o,h1,h2⟩:=dH (step:=vO n a0) (λ i (v:Int×List Int)=>v.1=(i:Int)/\i<=a0.length/\v.2.length<=i) (λ o=>o.length<=a0.length) a0.length (λ k v h=>h.2.1) (by
  rintro i ⟨v,l⟩ ⟨hv,hi,ro⟩;simp only at hv ro;subst hv;by_cases hlt:i<a0.length
  .obtain⟨w,e1,hw⟩:=qs2 (n:=n) (v2:=l) hlt (by omega) hn;have hv5:∃b,((bif (decide ((w:Int)>(0:Int)))then(ck (cN (i64.wrap ((w:Int) -1)) l.length) ((bo l ((0:Nat)+(i64.wrap ((w:Int) -1)):Int)).bind λx3=>some (x3==a0[i])))else some false):J Bool)=some b:=by
    cases w with
    |zero=>exact⟨false,rfl⟩
    |succ w=>
     have hw':w<l.length:=hw;simp only[Oy,aj,pred_succ (show w<9223372036854775807 by omega),aU hw',aW hw',af];exact⟨_,rfl⟩
   obtain⟨b,e2⟩:=hv5;have hap:bR l.length l.length 1 1 8=true:=dm (by omega) (by simp only[maxLen];omega);obtain⟨o,e3,ho⟩:=qs3 (n:=n) (r1:=l++[0]) (w:=w) (m:=l.length) (by simp) hw (by omega) hn;have hz:sub ([0]:U Int) 0 1=[0]:=rfl;have ho':o.length=l.length+1:=(by rw[ho];simp);have i1:w<(l++[0]).length:=(by simp;omega);have i2:w<o.length:=(by omega);have e4:aE (l++[0]).length (o.set ((0:Nat)+(w:Int):Int).toNat a0[i]).length=true:=(by rw[List.length_set,ho];exact aC _);simp only[vO,bJ hlt,aj,e1,af,e2,hz,length_singleton,hap,dS,e3,bf hlt,aU i1,aW i2,e4,aK i];cases b with
   |true=>simp only[aj,aC,af];exact .inl ⟨_,rfl,rfl,hlt,by show l.length<=_;omega⟩
   |false=>simp only[ak,aC,af,aj];exact .inl ⟨_,rfl,rfl,hlt,by show(o.set _ _).length<=_;rw[List.length_set];omega⟩
  .obtain rfl:i=a0.length:=(by omega);simp only[vO,bV,ak,aC,aj];exact .inr ⟨_,rfl,ro⟩) n 0 ((0:Int),([]:U Int)) ⟨rfl,Nat.zero_le _,aD _⟩ (by omega)
 have hz:aE 0 ([]:U Int).length=true:=rfl;exact⟨o,by simp only[EN,hz,aj,h1,af,bX,aC],h2⟩
theorem aoy{a:U ax}(hl:a.length<=400)(hn:2000<=n):∃o,J3 n a []=some o/\o.length<=2*a.length:=by
 obtain⟨o,h1,h2⟩:=dH (step:=xU a) (λ i (v:Int×List Int)=>v.1=(i:Int)/\i<=a.length/\v.2.length=2*i) (λ o=>o.length=2*a.length) a.length (λ k v h=>h.2.1) (by
  rintro i ⟨v,l⟩ ⟨hv,hi,ro⟩;simp only at hv ro;subst hv;by_cases hlt:i<a.length
  .have hap:bR l.length l.length 2 2 8=true:=dm (by omega) (by simp only[maxLen];omega);simp only[xU,bJ hlt,aj,bf hlt,af,show ∀x y:Int,sub ([x,y]:U Int) 0 2=[x,y]from λ_ _=>rfl,bC,length_nil,Nat.zero_add,Nat.reduceAdd,hap,dS,aC,aK i];exact .inl ⟨_,rfl,rfl,hlt,by simp;omega⟩
  .obtain rfl:i=a.length:=(by omega);simp only[xU,bV,ak,aC,aj];exact .inr ⟨_,rfl,ro⟩) n 0 ((0:Int),([]:U Int)) ⟨rfl,Nat.zero_le _,rfl⟩ (by omega)
 obtain⟨m,rfl⟩:∃m,n=m+1:=⟨n -1,by omega⟩;have e2:iter (EO []) (m+1) ((0:Int),o)=some o:=fD (by
  have hz:decide ((0:Int)<((([]:U ax).length:Int):Int))=false:=rfl;simp only[EO,hz,ak,aC,aj])
 obtain⟨p,e3,h3⟩:=amO (n:=m+1) (a0:=o) (by omega) hn;have hz:aE 0 ([]:U Int).length=true:=rfl;exact⟨p,by simp only[J3,hz,aj,h1,af,aC,e2,bX,e3],by omega⟩
theorem qc2{a0:U ax}{k m:Nat}{r1 r2:U Int}(hk:k<a0.length)(h1:r1.length=m+1)(h2:r2.length=m+1)(hm:m<=1000)(hn:2000<=n):∃(w:Nat)(o1 o2:U Int),iter (qO a0 (k:Int) r1 r2) n ((m:Int),r1,r2)=some ((w:Int),o1,o2)/\w<=m/\o1.length=m+1/\o2.length=m+1:=by
 obtain⟨⟨o,o1,o2⟩,g1,w,rfl,g2⟩:=xV (step:=qO a0 (k:Int) r1 r2) (λ v=>∃j:Nat,v.1=(j:Int)/\j<=m/\v.2.1.length=m+1/\v.2.2.length=m+1) (λ o=>∃j:Nat,o.1=(j:Int)/\j<=m/\o.2.1.length=m+1/\o.2.2.length=m+1) (λ v=>v.1.toNat) (by
  rintro⟨v,l1,l2⟩ ⟨j,rfl,hj,hl1,hl2⟩;simp only at hl1 hl2;cases j with
  |zero=>simp only[qO,ae1,ak,af];exact .inr ⟨_,rfl,0,rfl,hj,hl1,hl2⟩
  |succ j=>
   have a1:j<r1.length:=(by omega);have a2:j<l1.length:=(by omega);have a3:j+1<r1.length:=(by omega);have a4:j+1<l1.length:=(by omega);have b1:j<r2.length:=(by omega);have b2:j<l2.length:=(by omega);have b3:j+1<r2.length:=(by omega);have b4:j+1<l2.length:=(by omega);simp only[qO,Oy,aj,pred_succ (show j<9223372036854775807 by omega),aU a1,aW a2,bf hk,aU a3,aW a4,aU b1,aW b2,aU b3,aW b4,af];cases decide (l1[j]>a0[k].y0)with
   |false=>exact .inr ⟨_,rfl,j+1,rfl,hj,hl1,hl2⟩
   |true=>exact .inl ⟨_,rfl,⟨j,rfl,by omega,by simpa using hl1,by simpa using hl2⟩,by simp⟩) n ((m:Int),r1,r2) ⟨m,rfl,aD _,h1,h2⟩ (by simp;omega)
 exact⟨w,o1,o2,g1,g2⟩
theorem qc1{a0:U ax}(x:Int)(hl:a0.length<=400)(hn:2000<=n):∃o1 o2:U Int,iter (qP n a0 x) n ((0:Int),([]:U Int),([]:U Int))=some (o1,o2)/\o1.length=o2.length/\o1.length<=a0.length:=by
 obtain⟨⟨o1,o2⟩,g1,g2⟩:=dH (step:=qP n a0 x) (λ i (v:Int×List Int×List Int)=>v.1=(i:Int)/\i<=a0.length/\v.2.1.length=v.2.2.length/\v.2.1.length<=i) (λ o=>o.1.length=o.2.length/\o.1.length<=a0.length) a0.length (λ k v h=>h.2.1) (by
  rintro i ⟨v,l1,l2⟩ ⟨hv,hi,ro,hl2⟩;simp only at hv ro hl2;subst hv;by_cases hlt:i<a0.length
  .have hap:bR l1.length l1.length 1 1 8=true:=dm (by omega) (by simp only[maxLen];omega);have Tl:bR l2.length l2.length 1 1 8=true:=ro ▸ hap;have hz:sub ([0]:U Int) 0 1=[0]:=rfl;obtain⟨w,p1,p2,e1,hw,hp1,hp2⟩:=qc2 (n:=n) (a0:=a0) (k:=i) (m:=l1.length) (r1:=l1++[0]) (r2:=l2++[0]) hlt (by simp) (by simp[ro]) (by omega) hn;have i1:w<(l1++[0]).length:=(by simp;omega);have i2:w<p1.length:=(by omega);have i3:w<(l2++[0]).length:=(by simp;omega);have i4:w<p2.length:=(by omega);have f1:∀y:Int,aE (l1++[0]).length (p1.set ((0:Nat)+(w:Int):Int).toNat y).length=true:=λy=>(by rw[List.length_set,hp1];exact Er (by simp));have f2:∀y:Int,aE (l2++[0]).length (p2.set ((0:Nat)+(w:Int):Int).toNat y).length=true:=λy=>(by rw[List.length_set,hp2];exact Er (by simp[ro]));have⟨b,hb⟩:=aiZ (decide (a0[i].x0>(x:Int))) (decide (a0[i].x1<=(x:Int)));simp only[qP,bJ hlt,aj,bf hlt,af,hb,hz,length_singleton,hap,Tl,dS,e1,aU i1,aW i2,aU i3,aW i4,f1,f2,aK i];cases b with
   |true=>simp only[aj,aC,af];exact .inl ⟨_,rfl,rfl,hlt,ro,by show l1.length<=_;omega⟩
   |false=>
    simp only[ak,aj,aC,af];exact .inl ⟨_,rfl,rfl,hlt,by simp only[List.length_set];omega,by simp only[List.length_set];omega⟩
  .obtain rfl:i=a0.length:=(by omega);simp only[qP,bV,ak,aC,aj];exact .inr ⟨_,rfl,ro,hl2⟩) n 0 ((0:Int),([]:U Int),([]:U Int)) ⟨rfl,Nat.zero_le _,rfl,aD _⟩ (by omega)
 exact⟨o1,o2,g1,g2⟩
theorem ae2{a0:U ax}(x:Int)(hl:a0.length<=400)(hn:2000<=n):∃o,yY n a0 x=some o/\o.length<=2*a0.length:=by
 have⟨w4,w5,g1,g2,g3⟩:=qc1 (n:=n) (a0:=a0) x hl hn;obtain⟨o,h1,h2⟩:=dH (step:=qQ w4 w5) (λ i (v:Int×List Int)=>v.1=(i:Int)/\i<=w4.length/\v.2.length<=2*i) (λ o=>o.length<=2*w4.length) w4.length (λ k v h=>h.2.1) (by
  rintro i ⟨v,l⟩ ⟨hv,hi,ro⟩;simp only at hv ro;subst hv;by_cases hlt:i<w4.length
  .have xl:i<w5.length:=(by omega);have hap:bR l.length l.length 2 2 8=true:=dm (by omega) (by simp only[maxLen];omega);have hs:∀x y:Int,sub ([x,y]:U Int) 0 2=[x,y]:=λ_ _=>rfl;cases hL:l.length with
   |zero=>
    have hz0:decide ((l.length:Int)>0)=false:=(by rw[hL];rfl);simp only[qQ,bJ hlt,aj,hz0,ak,af,aU hlt,aW hlt,aU xl,aW xl,hs,bC,length_nil,Nat.zero_add,Nat.reduceAdd,hap,dS,aC,aK i];exact .inl ⟨_,rfl,rfl,hlt,by simp;omega⟩
   |succ m=>
    have hm:m<l.length:=(by omega);have hpos:decide ((l.length:Int)>0)=true:=(by rw[hL];exact Oy m);have hpred:i64.wrap ((l.length:Int) -1)=(m:Int):=(by rw[hL];exact pred_succ (by omega));have f1:∀y:Int,aE l.length (l.set ((0:Nat)+(m:Int):Int).toNat y).length=true:=λy=>(by rw[List.length_set];exact aC _);simp only[qQ,bJ hlt,aj,hpos,hpred,af,aU hlt,aW hlt,aU xl,aW xl,aU hm,aW hm,hs,bC,length_nil,Nat.zero_add,Nat.reduceAdd,hap,dS,f1,aC,aK i];cases decide (w4[i]<=l[m])with
    |true=>exact .inl ⟨_,rfl,rfl,hlt,by show(l.set _ _).length<=_;rw[List.length_set];omega⟩
    |false=>exact .inl ⟨_,rfl,rfl,hlt,by show(l++_).length<=_;simp;omega⟩
  .obtain rfl:i=w4.length:=(by omega);simp only[qQ,bV,ak,aC,aj];exact .inr ⟨_,rfl,ro⟩) n 0 ((0:Int),([]:U Int)) ⟨rfl,Nat.zero_le _,aD _⟩ (by omega)
 have hz:aE 0 ([]:U Int).length=true:=rfl;exact⟨o,by simp only[yY,hz,aj,g1,h1,af,bX,aC],by omega⟩
theorem akv{a0:U Int}(hl:a0.length<=1000)(hn:2000<=n):∃o,AA n a0 [] 0=some o/\o.length<=a0.length:=by
 obtain⟨o,h1,h2⟩:=dH (step:=ul a0 [] 0) (λ i (v:Int×Int×Bool×List Int)=>v.1=(i:Int)/\v.2.1=0/\i<=a0.length/\v.2.2.2.length<=i) (λ o=>o.length<=a0.length) a0.length (λ k v h=>h.2.2.1) (by
  rintro i ⟨v,v2,v3,l⟩ ⟨hv,hv2,hi,ro⟩;simp only at hv hv2 ro;subst hv;subst hv2;have z1:decide ((0:Int)<((([]:U Int).length:Int):Int))=false:=rfl;have z2:decide ((0:Int)>=((([]:U Int).length:Int):Int))=true:=rfl;by_cases hlt:i<a0.length
  .have hap:bR l.length l.length 1 1 8=true:=dm (by omega) (by simp only[maxLen];omega);have be:∀x:Int,(x==x)=true:=λx=>(by simp);have⟨b,hb⟩:=aiZ (Int.tmod ((i+1:Nat):Int) 2==(1:Int)) (Int.tmod (0:Int) 2==(1:Int));simp only[ul,bJ hlt,aj,z1,z2,bf hlt,af,be,ak,aK i,show((2:Nat) !=0)=true from rfl,show((2:Int) !=0)=true from rfl,hb,show((0:Int)==1)=false from rfl,show((0:Int)==2)=false from rfl,show ∀x:Int,sub ([x]:U Int) 0 1=[x]from λ_=>rfl,length_singleton,hap,dS,aC];cases (!(b==v3))with
   |true=>exact .inl ⟨_,rfl,rfl,rfl,hlt,by show(l++_).length<=_;simp;omega⟩
   |false=>exact .inl ⟨_,rfl,rfl,rfl,hlt,by show l.length<=_;omega⟩
  .obtain rfl:i=a0.length:=(by omega);simp only[ul,bV,ak,z1,af,aC,aj];exact .inr ⟨_,rfl,ro⟩) n 0 ((0:Int),(0:Int),false,([]:U Int)) ⟨rfl,rfl,Nat.zero_le _,aD _⟩ (by omega)
 have hz:aE 0 ([]:U Int).length=true:=rfl;exact⟨o,by simp only[AA,hz,aj,h1,af,bX,aC],h2⟩
theorem XS{α O:Type}{l:U α}{step:Int->J (Int⊕(Unit⊕O))}(h1:∀i (hi:i<l.length),(∃ o,step (i:Int)=some (.inr (.inr o)))\/step (i:Int)=some (.inl ((i+1:Nat):Int)))
 (h2:step (l.length:Int)=some (.inr (.inl ()))) (hn:l.length<n):(∃ o,iter step n (0:Int)=some (.inr o))\/iter step n (0:Int)=some (.inl ()):=by
 obtain⟨o,g1,_⟩:=dH (step:=step) (λ i (v:Int)=>v=(i:Int)/\i<=l.length) (λ _=>True) l.length (λ k v h=>h.2) (by
  rintro i v ⟨rfl,hi⟩;by_cases hlt:i<l.length
  .rcases h1 i hlt with ⟨o,h⟩ |h
   .exact .inr ⟨_,h,trivial⟩
   .exact .inl ⟨_,h,rfl,hlt⟩
  .obtain rfl:i=l.length:=(by omega);exact .inr ⟨_,h2,trivial⟩) n 0 0 ⟨rfl,Nat.zero_le _⟩ (by omega)
 rcases o with ⟨⟩ |o
 .exact .inr g1
 .exact .inl ⟨o,g1⟩
theorem apM{a b:U Int}(hl:a.length<=1000)(hn:2000<=n):∃r,NY n a b=some r:=by
 unfold NY;by_cases h:a.length=b.length
 .have e:((a.length:Int) !=(b.length:Int))=false:=by simp[h]
  rw[e];simp only[ak];rcases XS (l:=a) (n:=n) (step:=AB a b) (λ i hi=>by
   simp only[AB,bJ hi,aj,bf hi,bf (show i<b.length by omega),af,aK i];cases (a[i] !=b[i]'(by omega))with
   |true=>exact .inl ⟨_,rfl⟩
   |false=>exact .inr rfl) (by simp only[AB,bV,ak]) (by omega)with ⟨o,h⟩ |h
  .rw[h];exact⟨_,rfl⟩
  .rw[h];exact⟨_,rfl⟩
 .have e:((a.length:Int) !=(b.length:Int))=true:=by simpa using λe:(a.length:Int)=(b.length:Int)=>h (by omega)
  rw[e];exact⟨_,rfl⟩
theorem qf2{r1:U Int}{k:Nat}{v3:U ax}{q:Nat}(hk:k+1<r1.length)(hl:r1.length<=1000)(h3:v3.length<=100000)(hn:200000<=n):∃o,iter (wK r1 (k:Int) v3) n ((q:Int),v3)=some o/\o.length=v3.length:=by
 refine xV (step:=wK r1 (k:Int) v3) (λ v=>∃j:Nat,v.1=(j:Int)/\v.2.length=v3.length) (λ o=>o.length=v3.length) (λ v=>v3.length -v.1.toNat) (by
  rintro⟨v,l⟩ ⟨j,rfl,hl⟩;simp only at hl;by_cases hlt:j<v3.length
  .have hj:j<l.length:=(by omega);simp only[wK,bJ hlt,aj,aK k,aU hk,aW hk,aU hlt,aW hj,af,aK j];exact .inl ⟨_,rfl,⟨j+1,rfl,by simpa using hl⟩,by simp only[Int.toNat_natCast];omega⟩
  .simp only[wK,Qv hlt,ak];exact .inr ⟨_,rfl,hl⟩) n ((q:Int),v3) ⟨q,rfl,rfl⟩ (by omega)
theorem qf3{r1 r4:U Int}{k:Nat}{v3:U ax}(hk:k+1<r1.length)(hl:r1.length<=1000)(h4:r4.length<=1000)(h3:v3.length<=100000)(hn:200000<=n):∃o,iter (wL r1 (k:Int) r4) n ((0:Int),v3)=some o/\o.length<=v3.length+r4.length:=by
 refine xV (step:=wL r1 (k:Int) r4) (λ v=>∃j:Nat,v.1=(j:Int)/\j<=r4.length/\v.2.length<=v3.length+j) (λ o=>o.length<=v3.length+r4.length) (λ v=>r4.length -v.1.toNat) (by
  rintro⟨v,l⟩ ⟨j,rfl,hj,hl⟩;simp only at hl;by_cases hlt:j+1<r4.length
  .have hj:j<r4.length:=(by omega);have hk':k<r1.length:=(by omega);have hap:bR l.length l.length 1 1 32=true:=dm (by omega) (by simp only[maxLen];omega);have w2:i64.wrap ((j:Int)+2)=((j+2:Nat):Int):=(by rw[dO (by omega) (by omega)];omega);simp only[wL,aK j,bJ hlt,aj,aK k,aU hk,aW hk,aU hk',aW hk',aU hj,aW hj,aU hlt,aW hlt,af,show ∀x:ax,sub ([x]:U ax) 0 1=[x]from λ_=>rfl,length_singleton,hap,dS,aC,w2];exact .inl ⟨_,rfl,⟨j+2,rfl,by omega,by simp;omega⟩,by simp only[Int.toNat_natCast];omega⟩
  .simp only[wL,aK j,Qv hlt,ak,aC,aj];exact .inr ⟨_,rfl,by omega⟩) n ((0:Int),v3) ⟨0,rfl,Nat.zero_le _,by simp⟩ (by simp;omega)
theorem apN{a:U ax}(hl:a.length<=4)(hn:200000<=n):∃o,NZ n a [] 0=some o:=by
 obtain⟨r1,e1,h1⟩:=aoy (n:=n) (a:=a) (by omega) (by omega);obtain⟨o,g1,_⟩:=dH (step:=AJ n a [] 0 r1) (λ i (v:Int×Int×List ax×List Int)=>(∃ q:Nat,v.1=(q:Int))/\v.2.1=(i:Int)/\i<=r1.length/\v.2.2.1.length<=8*i/\v.2.2.2.length<=8) (λ _=>True) r1.length (λ k v h=>h.2.2.1) (by
  rintro i ⟨v1,v2,v3,v4⟩ ⟨⟨q,hq⟩,hv,hi,h3,h4⟩;simp only at hq hv h3 h4;subst hq;subst hv;by_cases hlt:i+1<r1.length
  .have hi':i<r1.length:=(by omega);obtain⟨r2,e2,h2⟩:=ae2 (n:=n) (a0:=a) r1[i] (by omega) (by omega);obtain⟨r3,e3,h3'⟩:=ae2 (n:=n) (a0:=[]) r1[i] (by simp) (by omega);obtain rfl:r3=[]:=List.eq_nil_of_length_eq_zero (by simpa using h3');obtain⟨r4,e4,h4'⟩:=akv (n:=n) (a0:=r2) (by omega) (by omega);obtain⟨b5,e5⟩:=apM (n:=n) (a:=r4) (b:=v4) (by omega) (by omega);have hv5:∃b,((bif (decide ((i:Int)>(0:Int)))then(bif (decide ((r4.length:Int)>(0:Int)))then some b5 else some false)else some false):J Bool)=some b:=dh (dh ⟨_,rfl⟩ ⟨_,rfl⟩) ⟨_,rfl⟩;obtain⟨b,e6⟩:=hv5;obtain⟨o2,f2,k2⟩:=qf2 (n:=n) (r1:=r1) (k:=i) (v3:=v3) (q:=q) hlt (by omega) (by omega) hn;obtain⟨o3,f3,k3⟩:=qf3 (n:=n) (r1:=r1) (r4:=r4) (k:=i) (v3:=v3) hlt (by omega) (by omega) (by omega) hn;have e7:aE v3.length o2.length=true:=Er k2.symm;simp only[AJ,aK i,bJ hlt,aj,aU hi',aW hi',af,e2,e3,bX,aC,e4,e5,e6,f2,f3,e7];cases b with
   |true=>exact .inl ⟨_,rfl,⟨q,rfl⟩,rfl,by omega,by show o2.length<=_;omega,h4⟩
   |false=>exact .inl ⟨_,rfl,⟨_,rfl⟩,rfl,by omega,by show o3.length<=_;omega,by show r4.length<=_;omega⟩
  .simp only[AJ,aK i,Qv hlt,ak,aC,aj];exact .inr ⟨_,rfl,trivial⟩) n 0 ((0:Int),(0:Int),([]:U ax),([]:U Int)) ⟨⟨0,rfl⟩,rfl,Nat.zero_le _,aD _,Nat.zero_le _⟩ (by omega)
 have hz:aE 0 ([]:U ax).length=true:=rfl;have hz2:aE 0 ([]:U Int).length=true:=rfl;exact⟨o,by simp only[NZ,e1,af,hz,hz2,aj,g1,bX,aC]⟩
theorem aoz{a:U ax}(hl:a.length<=4)(hn:200000<=n):∃b,J5 n a=some b:=by
 have⟨f,hf⟩:=apN (n:=n) hl hn;have hO:∃o,PH n a=some o:=by
  unfold PH;have xp:decide ((a.length:Int)>400)=false:=by simp;omega
  rcases XS (l:=a) (n:=n) (step:=J4 a) (λ i hi=>by
   have hr:∃b,vN a[i]=some b:=by
    unfold vN;exact dh (dh (dh (dh (dh ⟨_,rfl⟩ ⟨_,rfl⟩) ⟨_,rfl⟩) ⟨_,rfl⟩) ⟨_,rfl⟩) ⟨_,rfl⟩
   obtain⟨b,hb⟩:=hr;simp only[J4,bJ hi,aj,bf hi,af,hb,aK i];cases b with
   |false=>exact .inl ⟨_,rfl⟩
   |true=>exact .inr rfl) (by simp only[J4,bV,ak]) (by omega)with ⟨o,h⟩ |h
  .rw[h];exact⟨_,rfl⟩
  .rw[h];simp only[eY,xp,ak,hf,af,bX,aC,aj];exact dh ⟨_,rfl⟩ ⟨_,rfl⟩
 obtain⟨o,ho⟩:=hO;unfold J5;rw[ho];simp only[af,bX,aC,aj];refine dh ?_ ⟨_,rfl⟩;have hS:∃r,N7 n o.1 a=some r:=by
  unfold N7;by_cases h:o.1.length=a.length
  .have e:((o.1.length:Int) !=(a.length:Int))=false:=(by simp[h]);rw[e];simp only[ak];rcases XS (l:=o.1) (n:=n) (step:=AL o.1 a) (λ i hi=>by
    simp only[AL,bJ hi,aj,bf hi,bf (show i<a.length by omega),af,aK i];generalize (!((o.1[i].x0==((a[i]'(by omega)).x0:Int))&&((o.1[i].y0==((a[i]'(by omega)).y0:Int))&&((o.1[i].x1==((a[i]'(by omega)).x1:Int))&&((o.1[i].y1==((a[i]'(by omega)).y1:Int))&&true)))))=c;cases c with
    |true=>exact .inl ⟨_,rfl⟩
    |false=>exact .inr rfl) (by simp only[AL,bV,ak]) (by omega)with ⟨o,h⟩ |h
   .rw[h];exact⟨_,rfl⟩
   .rw[h];exact⟨_,rfl⟩
  .have e:((o.1.length:Int) !=(a.length:Int))=true:=(by simpa using λe:(o.1.length:Int)=(a.length:Int)=>h (by omega));rw[e];exact⟨_,rfl⟩
 obtain⟨r,hr⟩:=hS;rw[hr];exact⟨_,rfl⟩
theorem amQ{a:U ax}(hl:a.length<=4)(hn:200000<=n):∃b,EP n a=some b:=by
 unfold EP;cases a with
 |nil=>exact⟨_,rfl⟩
 |cons r l=>
  have⟨b,hb⟩:=aoz (n:=n) hl hn;have e:((((r::l).length:Nat):Int)==0)=false:=by simp;omega
  rw[hb,e];simp only[ak,af];refine dh ⟨_,rfl⟩ ?_;have g0:bo (r::l) 0=some r:=rfl;obtain⟨o,g1,_⟩:=dH (step:=vP (r::l) r) (λ i (v:Int×Int×Int×Int×Int)=>v.1=(i:Int)/\i<=(r::l).length) (λ _=>True) (r::l).length (λ k v h=>h.2) (by
   rintro i ⟨v,v3,v4,v5,v6⟩ ⟨hv,hi⟩;simp only at hv;subst hv;by_cases hlt:i<(r::l).length
   .simp only[vP,bJ hlt,aj,bf hlt,af,aK i];exact .inl ⟨_,rfl,rfl,hlt⟩
   .obtain rfl:i=(r::l).length:=(by omega);simp only[vP,bV,ak];exact .inr ⟨_,rfl,trivial⟩) n 1 ((1:Int),r.x0,r.y0,r.x1,r.y1) ⟨rfl,by simp⟩ (by omega)
  simp only[g0,af,g1];exact⟨_,rfl⟩
theorem Xx{α:Type}{l:U α}{step:Int->J (Int⊕(Unit⊕Bool))}{good:α->Prop}(h1:∀i (hi:i<l.length),step (i:Int)=some (.inr (.inr false))\/(step (i:Int)=some (.inl ((i+1:Nat):Int))/\good l[i]))
 (h2:step (l.length:Int)=some (.inr (.inl ()))) (hn:l.length<n):iter step n (0:Int)=some (.inr false)\/(iter step n (0:Int)=some (.inl ())/\∀x∈l,good x):=by
 obtain⟨o,g1,g2⟩:=dH (step:=step) (λ i (v:Int)=>v=(i:Int)/\i<=l.length/\∀x∈l.take i,good x) (λ o=>o= .inr false\/(o= .inl ()/\∀x∈l,good x)) l.length (λ k v h=>h.2.1) (by
  rintro i v ⟨rfl,hi,hall⟩;by_cases hlt:i<l.length
  .rcases h1 i hlt with h |⟨h,hg⟩
   .exact .inr ⟨_,h,.inl rfl⟩
   .refine .inl ⟨_,h,rfl,hlt,λx hx=>?_⟩;rw[List.take_add_one,dQ hlt,aY]at hx;rcases hx with hx |hx
    .exact hall x hx
    .simp at hx;subst hx;exact hg
  .obtain rfl:i=l.length:=(by omega);exact .inr ⟨_,h2,.inr ⟨rfl,λx hx=>hall x (by rw[List.take_length];exact hx)⟩⟩) n 0 0 ⟨rfl,Nat.zero_le _,by simp⟩ (by omega)
 rcases g2 with rfl |⟨rfl,g2⟩
 .exact .inl g1
 .exact .inr ⟨g1,g2⟩
theorem aci(hn:4000002<=n):∀(m:Nat)(e:cu),(toE e).wt<m->(toE e).wt<=4000000->∃r,vk n m e=some r
 | 0,_,h,_=>absurd h (by omega)
 |m+1,e,h,hw=>by
  have hla:=ab4 e;show ∃r,EM n (vk n m) e=some r;simp only[EM];obtain⟨o,g1,_⟩:=dH (step:=Az (vk n m) e) (λ i (v:Int×Int)=>v.2=(i:Int)/\i<=e.args.length) (λ _=>True) e.args.length (λ k v h=>h.2) (by
   rintro i ⟨v1,v2⟩ ⟨hv,hi⟩;simp only at hv;subst hv;by_cases hlt:i<e.args.length
   .have hwx:=Z2 (getElem_mem hlt);obtain⟨r,hr⟩:=aci hn m e.args[i] (by omega) (by omega);simp only[Az,bJ hlt,aj,bf hlt,af,hr,aK i];exact .inl ⟨_,rfl,rfl,hlt⟩
   .obtain rfl:i=e.args.length:=(by omega);simp only[Az,bV,ak];exact .inr ⟨_,rfl,trivial⟩) n 0 ((1:Int),(0:Int)) ⟨rfl,Nat.zero_le _⟩ (by omega)
  rw[g1];exact⟨_,rfl⟩
structure Pl(p:bQ):Prop where
 defs:gR p.defs
 rules:∀r∈p.rules,(toE (kq r)).wt<=4000000
structure G2(p:bQ):Prop where
 defs:p.defs.length<=5
 rules:p.rules.length<=5
 rule:∀r∈p.rules,Qq r
 tabs:p.tables.length<=4/\∀t∈p.tables,t.rows.length<=8
 zones:p.zones.length<=5
 caps:p.caps.length<=3
theorem ahk{p:bQ}(hp:Pl p)(hn:4000002<=n):∃b,wJ n p=some b/\(b=true->G2 p):=by
 have no:∃b,some false=some b/\(b=true->G2 p):=⟨false,rfl,λh=>(by cases h)⟩;unfold wJ;have hk:((bif (decide ((p.defs.length:Int)>(5:Int)))then some true else(bif (decide ((p.rules.length:Int)>(5:Int)))then some true else(bif (decide ((p.tables.length:Int)>(4:Int)))then some true else(bif (decide ((p.zones.length:Int)>(5:Int)))then some true else some (decide ((p.caps.length:Int)>(3:Int))))))):J (Bool))=some (decide (p.defs.length>5\/p.rules.length>5\/p.tables.length>4\/p.zones.length>5\/p.caps.length>3)):=by
  have c:∀a k:Nat,decide ((a:Int)>(k:Int))=decide (a>k):=λa k=>by rw[decide_eq_decide];omega
  have e1:=c p.defs.length 5;have e2:=c p.rules.length 5;have e3:=c p.tables.length 4;have e4:=c p.zones.length 5;have e5:=c p.caps.length 3;rw[show decide ((p.defs.length:Int)>(5:Int))=_ from e1,show decide ((p.rules.length:Int)>(5:Int))=_ from e2,show decide ((p.tables.length:Int)>(4:Int))=_ from e3,show decide ((p.zones.length:Int)>(5:Int))=_ from e4,show decide ((p.caps.length:Int)>(3:Int))=_ from e5,Bool.decide_or,Bool.decide_or,Bool.decide_or,Bool.decide_or];cases decide (p.defs.length>5)<;>cases decide (p.rules.length>5)<;>cases decide (p.tables.length>4)<;>cases decide (p.zones.length>5)<;>rfl
 rw[hk];by_cases hc:p.defs.length>5\/p.rules.length>5\/p.tables.length>4\/p.zones.length>5\/p.caps.length>3
 .rw[decide_eq_true hc];exact no
 .rw[decide_eq_false hc];simp only[af,ak];have s1:=Xx (l:=p.defs) (n:=n) (step:=tZ n p) (good:=λ_=>True) (λ i hi=>by
   obtain⟨r,hr⟩:=aci hn n _ (show _<n by have:=hp.defs.body (getElem_mem hi);omega) (hp.defs.body (getElem_mem hi));have hr':Iz n (cu.mk p.defs[i].i9 p.defs[i].lR p.defs[i].k5 p.defs[i].iS p.defs[i].eK)=some r:=hr;simp only[tZ,bJ hi,aj,bf hi,af,hr',aK i];cases decide (r>30)with
   |true=>exact .inl rfl
   |false=>exact .inr ⟨rfl,trivial⟩) (by simp only[tZ,bV,ak]) (by omega)
  have s2:=Xx (l:=p.rules) (n:=n) (step:=uf n p) (good:=Qq) (λ i hi=>by
   obtain⟨r,hr⟩:=aci hn n (kq p.rules[i]) (show _<n by have:=hp.rules _ (getElem_mem hi);omega) (hp.rules _ (getElem_mem hi));have hr':Iz n (cu.mk p.rules[i].ld p.rules[i].mL p.rules[i].mC p.rules[i].j8 p.rules[i].ga)=some r:=hr;simp only[uf,bJ hi,aj,bf hi,af,hr',aK i];by_cases c1:r>30
   .simp only[c1,decide_true,aj,af];exact .inl rfl
   .by_cases c2:(p.rules[i].zones.length:Int)>5
    .simp only[c1,c2,decide_true,decide_false,aj,ak,af];exact .inl rfl
    .by_cases c3:(p.rules[i].except.length:Int)>5
     .simp only[c1,c2,c3,decide_true,decide_false,aj,ak,af];exact .inl rfl
     .simp only[c1,c2,c3,decide_false,ak,af];exact .inr ⟨trivial,by omega,by omega⟩) (by simp only[uf,bV,ak]) (by omega)
  have s3:=Xx (l:=p.tables) (n:=n) (step:=ug p) (good:=λt=>t.rows.length<=8) (λ i hi=>by
   simp only[ug,bJ hi,aj,bf hi,af,aK i];by_cases c1:(p.tables[i].rows.length:Int)>8
   .simp only[c1,decide_true,aj];exact .inl rfl
   .simp only[c1,decide_false,ak];exact .inr ⟨trivial,by omega⟩) (by simp only[ug,bV,ak]) (by omega)
  have s4:=Xx (l:=p.zones) (n:=n) (step:=uh p) (good:=λ_=>True) (λ i hi=>by
   simp only[uh,bJ hi,aj,bf hi,af,aK i];cases decide ((p.zones[i].corners.length:Int)>12)with
   |true=>exact .inl rfl
   |false=>exact .inr ⟨rfl,trivial⟩) (by simp only[uh,bV,ak]) (by omega)
  have s5:=Xx (l:=p.caps) (n:=n) (step:=uj p) (good:=λ_=>True) (λ i hi=>by
   simp only[uj,bJ hi,aj,bf hi,af,aK i];cases decide ((p.caps[i].corners.length:Int)>12)with
   |true=>exact .inl rfl
   |false=>exact .inr ⟨rfl,trivial⟩) (by simp only[uj,bV,ak]) (by omega)
  rcases s1 with h |⟨h,_⟩
  .simpa only[h,iM]using no
  rcases s2 with h2 |⟨h2,g2⟩
  .simpa only[h,h2,iM,eY]using no
  rcases s3 with h3 |⟨h3,g3⟩
  .simpa only[h,h2,h3,iM,eY]using no
  rcases s4 with h4 |⟨h4,_⟩
  .simpa only[h,h2,h3,h4,iM,eY]using no
  rcases s5 with h5 |⟨h5,_⟩
  .simpa only[h,h2,h3,h4,h5,iM,eY]using no
  simp only[h,h2,h3,h4,h5,eY];exact⟨true,rfl,λ_=>⟨by omega,by omega,g2,⟨by omega,g3⟩,by omega,by omega⟩⟩
theorem akw(lot:dn)(hn:4000002<=n):∃b,EQ n lot=some b/\(b=true->lot.area.length<=4):=by
 unfold EQ;by_cases h:(lot.area.length:Int)>4
 .simp only[h,decide_true,aj];exact⟨false,rfl,λh=>(by cases h)⟩
 .obtain⟨r,hr⟩:=amQ (n:=n) (a:=lot.area) (by omega) (by omega);simp only[h,decide_false,ak,hr,af];have:∃b,((bif (!r.2)then some true else(bif (decide ((i64.wrap (r.1.x1 -r.1.x0))<=(4:Int)))then some true else some (decide ((i64.wrap (r.1.y1 -r.1.y0))<=(4:Int))))):J Bool)=some b:=dh ⟨_,rfl⟩ (dh ⟨_,rfl⟩ ⟨_,rfl⟩);obtain⟨b,hb⟩:=this;exact⟨b,hb,λ_=>by omega⟩
def ke(t:bU):bQ:=bQ.mk t.cm t.br t.bu t.az t.cw t.b9 t.cE t.ca
structure LL(t:bU):Prop where
 land:t.land.length<=2/\∀l∈t.land,l.area.length<=4
 DD:t.cx.length<=3/\∀e∈t.cx,e.area.length<=4
 built:t.built.length<=6
theorem apO{t:bU}(hp:Pl (ke t))(hn:4000002<=n):∃b,Uz n t=some b/\(b=true->G2 (ke t)/\LL t):=by
 have no:∃b,some false=some b/\(b=true->G2 (ke t)/\LL t):=⟨false,rfl,λh=>(by cases h)⟩;have⟨b,hb,hf⟩:=ahk hp hn;have hb':wJ n (bQ.mk t.cm t.br t.bu t.az t.cw t.b9 t.cE t.ca)=some b:=hb;unfold Uz;rw[hb'];cases b with
 |false=>exact no
 |true=>
  simp only[af,Bool.not_true,ak];by_cases c1:(t.land.length:Int)>2
  .simp only[c1,decide_true,aj,af];exact no
  by_cases c2:(t.cx.length:Int)>3
  .simp only[c1,c2,decide_true,decide_false,aj,ak,af];exact no
  by_cases c3:(t.built.length:Int)>6
  .simp only[c1,c2,c3,decide_true,decide_false,aj,ak,af];exact no
  simp only[c1,c2,c3,decide_false,ak,af];have s1:=Xx (l:=t.land) (n:=n) (step:=ER n t) (good:=λl=>l.area.length<=4) (λ i hi=>by
   have⟨b,hb,h4⟩:=akw (n:=n) t.land[i] hn;simp only[ER,bJ hi,aj,bf hi,af,hb,aK i];cases b with
   |false=>exact .inl rfl
   |true=>exact .inr ⟨rfl,h4 rfl⟩) (by simp only[ER,bV,ak]) (by omega)
  have s2:=Xx (l:=t.cx) (n:=n) (step:=ES t) (good:=λe=>e.area.length<=4) (λ i hi=>by
   simp only[ES,bJ hi,aj,bf hi,af,aK i];by_cases c1:(t.cx[i].area.length:Int)>4
   .simp only[c1,decide_true,aj];exact .inl rfl
   .simp only[c1,decide_false,ak];exact .inr ⟨trivial,by omega⟩) (by simp only[ES,bV,ak]) (by omega)
  rcases s1 with h |⟨h,g1⟩
  .simpa only[h,iM]using no
  rcases s2 with h2 |⟨h2,g2⟩
  .simpa only[h,h2,iM,eY]using no
  simp only[h,h2,eY];exact⟨true,rfl,λ_=>⟨hf rfl,⟨by omega,g1⟩,⟨by omega,g2⟩,by omega⟩⟩
theorem aoA{t:bU}{p:bQ}(hz:Pl p)(hf:G2 p)(ht:LL t)(hr:∀l∈t.land,l.from_.length*8<=140737488355328):wO (oT t p) where
 lots:=λl hl=>⟨by have:=ht.land.2 l hl;omega,hr l hl⟩
 land:=by have:=ht.land.1;show t.land.length<=_;omega
 DD:=⟨by have:=ht.DD.1;show t.cx.length<=_;omega,λe he=>by have:=ht.DD.2 e he;omega⟩
 built:=by have:=ht.built;show t.built.length<=_;omega
 zones:=by have:=hf.zones;show p.zones.length<=_;omega
 caps:=by have:=hf.caps;show p.caps.length<=_;omega
 rules:=by have:=hf.rules;show p.rules.length<=_;omega
 rule:=λr hr=>⟨hf.rule r hr,hz.rules r hr⟩
 plan:=⟨hz.defs,by have:=hf.tabs.1;show p.tables.length<=_;omega,λx hx=>by have:=hf.tabs.2 x hx;omega⟩
theorem amR{t:bU}(ht:LL t):G3 t.land:=⟨λ l hl=>by have:=ht.land.2 l hl;omega,by have:=ht.land.1;omega⟩
def Hs(x y:bB):Bool:=(x.lot==(y.lot:Int))&&((x.use==(y.use:Int))&&((x.floors==(y.floors:Int))&&((x.iv==(y.iv:Int))&&true)))
theorem UF(x y:bB):Hs x y=true↔x=y:=by
 cases x;cases y;simp[Hs]
structure aqK(n:Nat)(t:bU)(l:List bQ):Prop where
 land:G3 t.land
 plans:∀p∈l,wO (oT t p)
 n:Kq n
theorem n42:Kq 5000003:=⟨aD _,by omega⟩
structure Pi(t:bU):Prop where
 plan:Pl (ke t)
 zt:∀l∈t.land,l.from_.length*8<=140737488355328
theorem Oz{zs:U ByteArray}{day later:Int}(h:day<=later){r:bP}(h1:¬(r.from_>day/\r.from_<=later))(h2:¬(r.cP>day/\r.cP<=later)):lX zs day r=lX zs later r:=by
 unfold lX;have e1:decide (r.from_<=day)=decide (r.from_<=later):=by rw[decide_eq_decide];omega
 have e2:decide (day<r.cP)=decide (later<r.cP):=by rw[decide_eq_decide];omega
 rw[e1,e2]
theorem amS{t:bU}{d:bq}{day later:Int}(h:day<=later)(hb:∀r∈t.az,¬(r.from_>day/\r.from_<=later)/\¬(r.cP>day/\r.cP<=later)):zf n t d day=zf n t d later:=by
 have:applied t (oP t d) day=applied t (oP t d) later:=by
  unfold applied;exact List.filter_congr λr hr=>Oz h (hb r hr).1 (hb r hr).2
 unfold zf nQ;rw[this]
def Pc(day:Int)(l:U bP)(nx:Int)(fd:Bool):Prop:=(fd=true->nx>day/\((∃ r∈l,nx=r.from_)\/∃r∈l,nx=r.cP))/\∀r∈l,(r.from_>day->fd=true/\nx<=r.from_)/\(r.cP≠0->r.cP>day->fd=true/\nx<=r.cP)
theorem ai3(x day nx:Int)(fd:Bool):∃UV nx',pG x day fd nx=some (UV,nx')/\((UV=fd/\nx'=nx/\(x>day->fd=true/\nx<=x))\/(UV=true/\nx'=x/\x>day/\(fd=true->x<=nx))):=by
 unfold pG;by_cases h:x>day
 .cases fd with
  |false=>exact⟨true,x,by simp[h],.inr ⟨rfl,rfl,h,λh=>(by cases h)⟩⟩
  |true=>
   by_cases h2:x<nx
   .exact⟨true,x,by simp[h,h2],.inr ⟨rfl,rfl,h,λ_=>by omega⟩⟩
   .exact⟨true,nx,by simp[h,h2],.inl ⟨rfl,rfl,λ_=>⟨rfl,by omega⟩⟩⟩
 .exact⟨fd,nx,by simp[h],.inl ⟨rfl,rfl,λh'=>absurd h' h⟩⟩
theorem ai4(p:bQ)(day:Int)(hl:p.rules.length<=100)(hn:1000<=n):∃nx fd,lV n p day=some (nx,fd)/\Pc day p.rules nx fd:=by
 obtain⟨o,g1,g2⟩:=dH (step:=pI p day) (λ i (v:Int×Int×Bool)=>v.1=(i:Int)/\i<=p.rules.length/\Pc day (p.rules.take i) v.2.1 v.2.2) (λ o=>Pc day p.rules o.1 o.2) p.rules.length (λ k v h=>h.2.1) (by
  rintro i ⟨v,nx,fd⟩ ⟨hv,hi,hI⟩;simp only at hv hI;subst hv;by_cases hlt:i<p.rules.length
  .obtain⟨fd1,A1,e1,h1⟩:=ai3 p.rules[i].from_ day nx fd;obtain⟨fd2,nx2,e2,h2⟩:=ai3 p.rules[i].cP day A1 fd1;have htk:p.rules.take (i+1)=p.rules.take i++[p.rules[i]]:=iw hlt;obtain⟨j1,j2⟩:=hI;have hmem:∀r∈p.rules.take i,r∈p.rules.take i++[p.rules[i]]:=λr hr=>List.mem_append_left _ hr;have hself:p.rules[i]∈p.rules.take i++[p.rules[i]]:=List.mem_append_right _ (aP.2 rfl);have step1:(fd1=true->A1>day/\((∃ r∈p.rules.take i++[p.rules[i]],A1=r.from_)\/∃r∈p.rules.take i++[p.rules[i]],A1=r.cP))/\(∀ r∈p.rules.take i,(r.from_>day->fd1=true/\A1<=r.from_)/\(r.cP≠0->r.cP>day->fd1=true/\A1<=r.cP))/\(p.rules[i].from_>day->fd1=true/\A1<=p.rules[i].from_):=by
    rcases h1 with ⟨rfl,rfl,h⟩ |⟨rfl,rfl,h,h'⟩
    .refine⟨λ hf=>?_,j2,h⟩;have⟨q1,q2⟩:=j1 hf;exact⟨q1,q2.imp (λ ⟨r,hr,e⟩=>⟨r,hmem r hr,e⟩) λ⟨r,hr,e⟩=>⟨r,hmem r hr,e⟩⟩
    .refine⟨λ _=>⟨h,.inl ⟨_,hself,rfl⟩⟩,λr hr=>⟨λ hq=>?_,λh0 hq=>?_⟩,λ_=>⟨rfl,Int.le_refl _⟩⟩
     .have⟨a,b⟩:=(j2 r hr).1 hq;exact⟨rfl,Int.le_trans (h' a) b⟩
     .have⟨a,b⟩:=(j2 r hr).2 h0 hq;exact⟨rfl,Int.le_trans (h' a) b⟩
   obtain⟨s1,s2,s3⟩:=step1;by_cases hu:p.rules[i].cP=0
   .have hu':(p.rules[i].cP !=0)=false:=(by simp[hu]);simp only[pI,bJ hlt,aj,bf hlt,af,e1,hu',ak,aK i];refine .inl ⟨_,rfl,rfl,hlt,?_⟩;rw[htk];refine⟨s1,λr hr=>?_⟩;rcases aY.1 hr with hr |hr
    .exact s2 r hr
    .simp only[aP]at hr;subst hr;exact⟨s3,λh0=>absurd hu h0⟩
   .have hu':(p.rules[i].cP !=0)=true:=(by simpa using hu);simp only[pI,bJ hlt,aj,bf hlt,af,e1,e2,hu',aK i];refine .inl ⟨_,rfl,rfl,hlt,?_⟩;rw[htk];rcases h2 with ⟨rfl,rfl,h⟩ |⟨rfl,rfl,h,h'⟩
    .refine⟨s1,λr hr=>?_⟩;rcases aY.1 hr with hr |hr
     .exact s2 r hr
     .simp only[aP]at hr;subst hr;exact⟨s3,λ_=>h⟩
    .refine⟨λ _=>⟨h,.inr ⟨_,hself,rfl⟩⟩,λr hr=>?_⟩;rcases aY.1 hr with hr |hr
     .refine⟨λ hq=>?_,λh0 hq=>?_⟩
      .have⟨a,b⟩:=(s2 r hr).1 hq;exact⟨rfl,Int.le_trans (h' a) b⟩
      .have⟨a,b⟩:=(s2 r hr).2 h0 hq;exact⟨rfl,Int.le_trans (h' a) b⟩
     .simp only[aP]at hr;subst hr;refine⟨λ hq=>?_,λ_ _=>⟨rfl,Int.le_refl _⟩⟩;have⟨a,b⟩:=s3 hq;exact⟨rfl,Int.le_trans (h' a) b⟩
  .obtain rfl:i=p.rules.length:=(by omega);simp only[pI,bV,ak];refine .inr ⟨_,rfl,?_⟩;rw[List.take_length]at hI;exact hI) n 0 ((0:Int),(0:Int),false) ⟨rfl,Nat.zero_le _,⟨λ h=>(by cases h),λr hr=>(by simp at hr)⟩⟩ (by omega)
 refine⟨o.1,o.2,?_,g2⟩;unfold lV;rw[g1];rfl
def PA(l:U bP):Prop:=∀r∈l,r.from_<=9223372036854775807/\r.cP<=9223372036854775807
theorem aoB{day nx:Int}{fd:Bool}{l:U bP}(h0:0<=day)(h1:day<=1073741824)(hr:PA l)(h:Pc day l nx fd):∃last,((bif fd then some (i64.wrap (nx -1))else some (1073741824:Int)):J Int)=some last/\day<=last/\∀r∈l,¬(r.from_>day/\r.from_<=last)/\¬(r.cP>day/\r.cP<=last):=by
 obtain⟨g1,g2⟩:=h;cases fd with
 |false=>
  refine⟨1073741824,rfl,h1,λr hm=>⟨λ h=>?_,λh=>?_⟩⟩
  .have:=((g2 r hm).1 h.1).1;cases this
  .have:=((g2 r hm).2 (by omega) h.1).1;cases this
 |true=>
  have⟨q1,q2⟩:=g1 rfl;have hx:nx<=9223372036854775807:=by
   rcases q2 with ⟨r,hm,rfl⟩ |⟨r,hm,rfl⟩
   .exact(hr r hm).1
   .exact(hr r hm).2
  refine⟨nx -1,by simp only[aj];rw[dO (by omega) (by omega)],by omega,λr hm=>⟨λ h=>?_,λh=>?_⟩⟩
  .have:=((g2 r hm).1 h.1).2;omega
  .have:=((g2 r hm).2 (by omega) h.1).2;omega
theorem aoC{ab:U ByteArray}{name:ByteArray}{bad:Bool}(h:ab≠[]):addN ab name bad≠[]:=by
 unfold addN;cases (bad&&!(ab.any (lw name)))with
 |false=>exact h
 |true=>simp
def fL:U dn:=[dn.mk 1 0 [ax.mk 0 0 4 4] []]
def DE:bU:=bU.mk [] [] [] [] [] [] [] 0 fL [] [] [] []
def aqv(k:Int):bQ:=bQ.mk [] [] [] [(bP.mk (⟨#[97]⟩) ([]) ([]) 0 0 0 false 0 12 0 (⟨#[]⟩) (⟨#[]⟩) [(cu.mk 1 0 (⟨#[104,101,105,103,104,116]⟩) (⟨#[]⟩) ([])),(cu.mk 0 k (⟨#[]⟩) (⟨#[]⟩) ([]))] 0 0 0 0 0 0 0)] [] [] [] 0
theorem zh:G3 DE.land:=⟨λ l hl=>by
 have hl:l∈fL:=hl;simp only[fL,aP]at hl;subst hl;decide,by show fL.length<=500;decide⟩
def pr:U bB:=(List.range 2).flatMap λ(i:Nat)=>(List.range 72).map λ(k:Nat)=>bB.mk 1 ((k%6:Nat):Int) ((k/6+1:Nat):Int) (i:Int)
def JT:Qt:=[(lu.mk 1 0,16),(lu.mk 1 1,4)]
theorem ai5:((ze 5000003 fL).1,(ze 5000003 fL).2.2)=(JT,pr):=by kernel_rfl
def dx:dn:=dn.mk 1 0 [ax.mk 0 0 4 4] []
def aqw(p:bB):bq:=(XX 5000003 fL p).1
set_option maxRecDepth 100000 in
theorem apP:(pr.all λp=>((ku 5000003 (kf (oT DE (aqv 0))) dx (aqw p)).bind λms=>(ms[4]?).map λe=>e.n)==some (p.floors*3))=true:=by kernel_rfl
def XN(e1 e2 e3 e4 e5 e6 e7 e8 e9:Int):U bW:=[⟨⟨#[97,114,101,97]⟩,e1⟩,⟨⟨#[99,111,118,101,114]⟩,e2⟩,⟨⟨#[102,108,111,111,114]⟩,e3⟩,⟨⟨#[102,108,111,111,114,115]⟩,e4⟩,⟨⟨#[104,101,105,103,104,116]⟩,e5⟩,⟨⟨#[104,111,109,101,115]⟩,e6⟩,⟨⟨#[114,117,110,111,102,102]⟩,e7⟩,⟨Dj,e8⟩,⟨⟨#[116,114,97,102,102,105,99]⟩,e9⟩]
def DG:U Int:=[1,2,3,4,5,6,7,8,9,10,11,12]
theorem ahl:(pr.all λp=>DG.contains p.floors)=true:=by kernel_rfl
theorem ae4:(ze 5000003 fL).1=JT:=congrArg Prod.fst ai5
theorem amV:(ze 5000003 fL).2.2=pr:=congrArg Prod.snd ai5
theorem OA{p:bB}:p∈gm 5000003 fL↔p∈pr:=by rw[(AQ 5000003 fL).mem_iff,amV]
def Xs(x y:bB):Bool:=Ny we JT x y
theorem ai6(x:bB):Xs x x=false:=(WJ we JT).irrefl x
theorem Xy:List.Pairwise (α:=bB) (λ x y=>Xs y x=false) (gm 5000003 fL):=by
 have:=Nn (α:=bB) (WJ we (ze 5000003 fL).1) (ze 5000003 fL).2.2;rw[ae4]at this;have e:gm 5000003 fL=lq (α:=bB) (Ny we JT) (ze 5000003 fL).2.2:=by unfold gm;rw[ae4]
 rw[e];exact this
mutual
theorem aoD:∀g:cu,(toE g).wt<=kI (qY g)
 |⟨op,n,s,key,args⟩=>by
  have:=OC args;simp only[toE,ET.wt,qY,kI,ox];omega
theorem OC:∀l:List cu,ET.tt (Im l)<=Bd (sW l)
 |[]=>by simp[Im,ET.tt]
 |x::xs=>by
  have h1:=aoD x;have h2:=OC xs;simp only[Im,ET.tt,sW,Bd];omega
end
theorem Qw:∀l:U eu,rk (l.map toD)<=Bd (l.map Bj)
 |[]=>by simp[rk]
 |x::xs=>by
  have h1:=Qw xs;have h2:=OC x.eK;simp only[rk]at h1;simp only[aF,rk,List.foldr_cons,toD,ET.wt,Bd,Bj,kI,ox,<- sZ];omega
theorem akx(t:bU):rk (t.cm.map toD)<=kI (JS t):=by
 have:=Qw t.cm;simp only[JS,kI,ox];omega
theorem amX{X:SX}{c:CT X.ι}{cs:U (CT X.ι)}{ss:U VS}(hs:zN (uk n) (c::cs)=some ss)(q:HL X.toSE (c::cs))(h:KV ss (HL.mA X.toSE (c::cs) q)):∃s ss',uk n c=some s/\zN (uk n) cs=some ss'/\yi s (CT.tv X.toSE c q.1)/\KV ss' (HL.mA X.toSE cs q.2):=by
 simp only[zN]at hs;rw[ai]at hs;obtain⟨a,h1,hs⟩:=hs;rw[ai]at hs;obtain⟨b,h2,hs⟩:=hs;cases hs;exact⟨a,b,h1,h2,h.1,h.2⟩
theorem apQ{X:SX}{i:X.ι}{s:VS}{x:X.T i}(hs:uk n (.st i)=some s)(h:yi s (CT.tv X.toSE (.st i) x)):∃l,sE (X:=X) n (.st i)=some l/\du l (X.row i x):=by
 simp only[uk]at hs;obtain⟨l,h1,rfl⟩:=dJ.1 hs;obtain⟨ys,e,hf⟩:=h;rw[CT.tv]at e;injection e with e;exact⟨l,h1,by rw[e];exact hf⟩
theorem UG:∀{cs:U CS}{ts:U Tree},du cs ts->∀{i:Nat}{c:CS}{x:Tree},cs[i]? =some c->ts[i]? =some x->Fit c x
 |c::cs,x::ts,h,0,c',x',hc,hx=>by
  simp only[List.getElem?_cons_zero,aA]at hc hx;subst hc;subst hx;simp only[du]at h;exact h.1
 |c::cs,x::ts,h,i+1,c',x',hc,hx=>by
  simp only[List.getElem?_cons_succ]at hc hx;simp only[du]at h;exact UG h.2 hc hx
 |[],_,h,_,_,_,hc,_=>by simp at hc
 |_::_,[],h,_,_,_,_,hx=>by simp at hx
theorem apR{row:U CS}{α:Type}{l:U α}{f:α->U Tree}(h:Fit (.sl row) (.sl (l.map f))):l.length<=maxLen/\l.length*Lk row<=reachBytes/\∀x∈l,du row (f x):=by
 simp only[Fit]at h;obtain⟨rows,e,⟨h1,h2⟩,h3⟩:=h;cases e;rw[length_map]at h1 h2;exact⟨h1,h2,λx hx=>h3 _ (mem_map.2 ⟨x,hx,rfl⟩)⟩
noncomputable def W8:U CS:=(sE (X:=xx) 6 (.st SI.Rule)).getD []
theorem ai7{x:Int}(h:Fit (.int .i64) (.sc (.int .i64 x))):x<=9223372036854775807:=by
 obtain⟨n,e,hw⟩:=h;injection e with e;injection e with _ e;subst e;simp only[Lit.wf,aL,aV]at hw;exact hw.2
theorem Xz{r:U Tree}:∀{l:U (List Tree)},r∈l->kI r<=Bd l
 |x::l,h=>by
  rw[Bd];rcases aN.1 h with rfl |h
  .omega
  .have:=Xz h;omega
theorem aky(r:bP):(toE (kq r)).wt<=kI (tq r):=by
 have h:=OC r.ga;rw[sZ]at h;simp only[kq,toE,ET.wt,tq,kI,ox];omega
theorem aaM:∀l:U Int,l.length<=Bd (l.map λy=>[Tree.sc (.int .i64 y)])
 |[]=>by simp
 |x::l=>by
  have:=aaM l;simp only[aF,Bd,kI,ox,bC];omega
theorem apS{t:bU}(h:kI (JS t)<=1048576):Pi t:=by
 have hd:=akx t;have hd2:=Qw t.cm;simp only[JS,kI,ox]at h;refine⟨⟨by show rk (t.cm.map toD)<=_;omega,λr hr=>?_⟩,λl hl=>?_⟩
 .have h1:=aky r;have h2:=Xz (mem_map.2 ⟨r,hr,rfl⟩:tq r∈t.az.map tq);omega
 .have h1:=aaM l.from_;have h2:=Xz (mem_map.2 ⟨l,hl,rfl⟩:Il l∈t.land.map Il);have h3:Bd (l.from_.map λy=>[Tree.sc (.int .i64 y)])<=kI (Il l):=by simp only[Il,kI,ox];omega
  omega
def Pa(p:bQ)(r:(List Int)×bT×Bool):Prop:=r.2.2=true->∃i k:Nat,i<p.zones.length/\k<p.zones.length/\r.1=[(i:Int),(k:Int)]
theorem ahm{p:bQ}(hz:p.zones.length<=100)(hn:4000002<=n):∃r,pE n p=some r/\Pa p r:=by
 have et:((p.zones.length:Int):Int).toNat=p.zones.length:=by omega
 have mk:xA (p.zones.length:Int) 24=true:=abY (by omega) (by simp only[maxLen];omega);have d1:decide ((p.zones.length:Int)<=(p.zones.length:Int))=true:=by simp
 have d2:decide (0<=(p.zones.length:Int))=true:=by simp
 obtain⟨w,h1,hwl,hwa⟩:=dH (step:=oM n p) (λ i (v:Int×List (List ax))=>v.1=(i:Int)/\i<=p.zones.length/\v.2.length=p.zones.length/\∀x∈v.2,x.length<=200) (λ o=>o.length=p.zones.length/\∀x∈o,x.length<=200) p.zones.length (λ k v h=>h.2.1) (by
  rintro i ⟨v,l⟩ ⟨hv,hi,hl,ha⟩;simp only at hv hl ha;subst hv;by_cases hlt:i<p.zones.length
  .have hil:i<l.length:=(by omega);simp only[oM,bJ hlt,aj,bf hlt,af,FN (n:=n) p.zones[i] (by omega),et,aU hlt,bX,aC,aW hil,aK i];cases p.zones[i].overlay with
   |true=>exact .inl ⟨_,rfl,rfl,hlt,hl,ha⟩
   |false=>
    refine .inl ⟨_,rfl,rfl,hlt,by simpa using hl,λx hx=>?_⟩;rcases List.mem_or_eq_of_mem_set hx with hx |rfl
    .exact ha x hx
    .exact Xg _
  .obtain rfl:i=p.zones.length:=(by omega);simp only[oM,bV,ak];exact .inr ⟨_,rfl,hl,ha⟩) n 0 ((0:Int),List.replicate p.zones.length []) ⟨rfl,Nat.zero_le _,by simp,λx hx=>by rw[(List.mem_replicate.1 hx).2];simp⟩ (by omega)
 have s3:∀i:Nat,i<p.zones.length->iter (jf n p w (i:Int)) n (((i+1:Nat):Int))=some (.inl ())\/∃r,iter (jf n p w (i:Int)) n (((i+1:Nat):Int))=some (.inr (.inr (.inr r)))/\Pa p r:=by
  intro i hi;obtain⟨o,g1,g2⟩:=xV (step:=jf n p w (i:Int)) (λ v=>∃j:Nat,v=(j:Int)/\j<=p.zones.length) (λ o=>o= .inl ()\/∃r,o= .inr (.inr (.inr r))/\Pa p r) (λ v=>p.zones.length -v.toNat) (by
   rintro v ⟨j,rfl,hj⟩;by_cases hlt:j<p.zones.length
   .have hiw:i<w.length:=(by omega);have hjw:j<w.length:=(by omega);have l1:=hwa _ (getElem_mem hiw);have l2:=hwa _ (getElem_mem hjw);obtain⟨q,hq⟩:=Di (n:=n) w[i] w[j] (by omega) (by omega) (by omega);simp only[jf,et,bJ hlt,aj,aU hi,aW hiw,aU hlt,aW hjw,af,hq,show ∀x y:Int,sub ([x,y]:U Int) 0 2=[x,y]from λ_ _=>rfl,bC,length_nil,Nat.zero_add,Nat.reduceAdd,aC,aK j];cases decide (AP w[i] w[j]>0)with
    |true=>exact .inr ⟨_,rfl,.inr ⟨_,rfl,λ_=>⟨i,j,hi,hlt,rfl⟩⟩⟩
    |false=>exact .inl ⟨_,rfl,⟨j+1,rfl,hlt⟩,by simp only[Int.toNat_natCast];omega⟩
   .obtain rfl:j=p.zones.length:=(by omega);simp only[jf,et,bV,ak];exact .inr ⟨_,rfl,.inl rfl⟩) n _ ⟨i+1,rfl,hi⟩ (by omega)
  rcases g2 with rfl |⟨r,rfl,hr⟩
  .exact .inl g1
  .exact .inr ⟨r,g1,hr⟩
 obtain⟨o,g1,g2⟩:=dH (step:=oN n p w) (λ i (v:Int)=>v=(i:Int)/\i<=p.zones.length) (λ o=>o= .inl ()\/∃r,o= .inr r/\Pa p r) p.zones.length (λ k v h=>h.2) (by
  rintro i v ⟨rfl,hi⟩;by_cases hlt:i<p.zones.length
  .simp only[oN,et,bJ hlt,aj,aK i];rcases s3 i hlt with h |⟨r,h,hr⟩
   .rw[h];exact .inl ⟨_,rfl,rfl,hlt⟩
   .rw[h];exact .inr ⟨_,rfl,.inr ⟨r,rfl,hr⟩⟩
  .obtain rfl:i=p.zones.length:=(by omega);simp only[oN,et,bV,ak];exact .inr ⟨_,rfl,.inl rfl⟩) n 0 0 ⟨rfl,Nat.zero_le _⟩ (by omega)
 unfold pE;simp only[d1,d2,mk,Bool.and_self,aj,et,h1,af];rcases g2 with rfl |⟨r,rfl,hr⟩
 .rw[g1];exact⟨_,rfl,λh=>(by cases h)⟩
 .rw[g1];exact⟨r,rfl,hr⟩
def eR(t:bU)(day:Int):j5:=j5.mk t.cm t.br t.bu t.az t.cw t.b9 t.cE t.ca t.land t.cx t.windows t.built t.base day
theorem ahn{t:bU}(day:Int)(ht:wO t)(hn:Kq n):∃g,fG n (eR t day)=some g/\g.length<=2/\∀f∈g,(f.kind=3\/f.kind=2)/\f.names.length<=4000001:=by
 obtain⟨hn1,hn2⟩:=hn;have hdl:=ht.plan.defs.len;have⟨o,ho,_,_,hol⟩:=FQ (n:=n) (p:=ke t) ht.plan.defs hn1;obtain⟨r,hr,hq⟩:=ahm (n:=n) (p:=ke t) ht.zones (by omega);have ho':jD n (bQ.mk (eR t day).cp (eR t day).b8 (eR t day).b7 (eR t day).ci (eR t day).ct (eR t day).cg (eR t day).cD (eR t day).cj)=some o:=ho;have hr':pE n (bQ.mk (eR t day).cp (eR t day).b8 (eR t day).b7 (eR t day).ci (eR t day).ct (eR t day).cg (eR t day).cD (eR t day).cj)=some r:=hr;have ap0:bR 0 0 1 1 88=true:=dm (by omega) (by simp only[maxLen];omega);have s1:∀x:aS,sub ([x]:U aS) 0 1=[x]:=λ_=>rfl;have hv1:∃v1:U aS,((bif (o.2.2==(16:Int))then(ck (bR 0 0 1 1 88) (iA [(aS.mk 3 0 o.2.1 0 0 0 0 0 0)] λr2=>ck (aE r2.length r2.length) (some r2)))else(ck (aE 0 ([]:U aS).length) (some ([]:U aS)))):J (List aS))=some v1/\v1.length<=1/\∀f∈v1,f.kind=3/\f.names.length<=4000001:=by
  rw[ap0];cases (o.2.2==(16:Int))with
  |true=>exact⟨_,rfl,by simp,λf hf=>by simp only[aP]at hf;subst hf;exact⟨rfl,Nat.le_trans hol (Nat.succ_le_succ hdl)⟩⟩
  |false=>exact⟨[],rfl,by simp,λf hf=>by simp at hf⟩
 obtain⟨v1,e1,l1,k1⟩:=hv1;unfold fG;simp only[ho',af,s1,length_singleton,e1,hr'];cases hb:r.2.2 with
 |false=>simp only[ak,aC,aj,af,bX];exact⟨v1,rfl,by omega,λf hf=>⟨.inl (k1 f hf).1,(k1 f hf).2⟩⟩
 |true=>
  have⟨i,k,hi,hk,hik⟩:=hq hb;have loop:∃ns:U ByteArray,iter (gI (eR t day) r) n ((0:Int),(2:Int),(0:Int),(0:Int),(0:Int),(0:Int),(0:Int),r.2.1.x,r.2.1.y,([]:U ByteArray))=some ((2:Int),(0:Int),(0:Int),(0:Int),(0:Int),(0:Int),r.2.1.x,r.2.1.y,ns)/\ns.length<=2:=by
   have hl2:r.1.length=2:=(by rw[hik];rfl);obtain⟨o,g1,ns,rfl,g2⟩:=dH (step:=gI (eR t day) r) (λ j v=>∃ns:U ByteArray,v=((j:Int),(2:Int),(0:Int),(0:Int),(0:Int),(0:Int),(0:Int),r.2.1.x,r.2.1.y,ns)/\j<=2/\ns.length=j) (λ o=>∃ns:U ByteArray,o=((2:Int),(0:Int),(0:Int),(0:Int),(0:Int),(0:Int),r.2.1.x,r.2.1.y,ns)/\ns.length<=2) 2 (λ k v ⟨_,_,h,_⟩=>h) (by
    rintro j v ⟨ns,rfl,hj,hns⟩;by_cases hlt:j<r.1.length
    .have hz:∃z:Nat,r.1[j]=(z:Int)/\z<(eR t day).b7.length:=by
      have hj2:j=0\/j=1:=(by omega);rcases hj2 with rfl |rfl
      .exact⟨i,by simp[hik],hi⟩
      .exact⟨k,by simp[hik],hk⟩
     obtain⟨z,hz1,hz2⟩:=hz;have hap:bR ns.length ns.length 1 1 16=true:=dm (by omega) (by simp only[maxLen];omega);simp only[gI,bJ hlt,aj,aU hlt,aW hlt,hz1,bf hz2,af,show ∀x:ByteArray,sub ([x]:U ByteArray) 0 1=[x]from λ_=>rfl,length_singleton,hap,dS,aC,aK j];exact .inl ⟨_,rfl,_,rfl,by omega,by simp[hns]⟩
    .have hj2:j=r.1.length:=(by omega);have hd:decide ((j:Int)<(r.1.length:Int))=false:=(by rw[hj2];exact bV _);simp only[gI,hd,ak,aC,aj];exact .inr ⟨_,rfl,ns,rfl,by omega⟩) n 0 ((0:Int),(2:Int),(0:Int),(0:Int),(0:Int),(0:Int),(0:Int),r.2.1.x,r.2.1.y,([]:U ByteArray)) ⟨[],rfl,by omega,rfl⟩ (by omega)
   exact⟨ns,g1,g2⟩
  obtain⟨ns,e2,hns⟩:=loop;have hz:aE 0 ([]:U ByteArray).length=true:=rfl;have ap1:bR v1.length v1.length 1 1 88=true:=dm (by omega) (by simp only[maxLen];omega);simp only[aj,hz,e2,af,bX,aC,ap1,dS];refine⟨_,rfl,by simp;omega,λf hf=>?_⟩;rcases aY.1 hf with hf |hf
  .exact⟨.inl (k1 f hf).1,(k1 f hf).2⟩
  .simp only[aP]at hf;subst hf;exact⟨.inr rfl,by show ns.length<=_;omega⟩
def zi(n:Nat)(t:bU):U aS:=(fG n (eR t 0)).getD []
theorem ack{n:Nat}{t:bU}(day:Int)(ht:wO t)(hn:Kq n):fG n (eR t day)=some (zi n t)/\(zi n t).length<=2/\∀f∈zi n t,(f.kind=3\/f.kind=2)/\f.names.length<=4000001:=by
 have⟨g,h1,h2,h3⟩:=ahn (n:=n) (t:=t) 0 ht hn;have e:zi n t=g:=by unfold zi;rw[h1];rfl
 rw[e];exact⟨h1,h2,h3⟩
def qU(n:Nat)(lot:dn)(p:bB):bq:=bif Ld n lot p then Dk n lot p else bq.mk 0 []
theorem ai9(n:Nat)(lot:dn)(p:bB):yd (qU n lot p):=by
 unfold qU;cases Ld n lot p
 .exact amM
 .exact aiY _ _ _
theorem amZ{lot:dn}(ha:lot.area.length<=900)(hn:4000002<=n)(p:bB):Iq n lot p=some (qU n lot p):=by
 unfold Iq;rw[amL ha hn];unfold qU;cases Ld n lot p<;>rfl
def zk(n:Nat)(t:bU)(lot:dn)(day:Int):bB×Bool:=vw (gm n [lot]) λp=>zf n t (qU n lot p) day
theorem ae5{t:bU}{lot:dn}{L:U bB}(day:Int)(ht:wO t)(ha:lot.area.length<=900)(hL:L.length<=756000)(hn:Kq n):iQ n (eR t day) lot L=some (vw L λp=>zf n t (qU n lot p) day):=by
 have hn1:=hn.1;unfold iQ;have hi:rP n L (λ (y1:bB×Unit)=>iK n y1.1 (eR t day) lot)=some (wT (λ p=>zf n t (qU n lot p) day) L):=fI (l:=L) (φ:=λ(y1:bB×Unit)=>iK n y1.1 (eR t day) lot) (λ p=>zf n t (qU n lot p) day) (λ p _=>by
  have BY:mG n t (qU n lot p) day=some (zf n t (qU n lot p) day):=aox day ht (ai9 n lot p) hn;have HR:mG n (bU.mk (eR t day).cp (eR t day).b8 (eR t day).b7 (eR t day).ci (eR t day).ct (eR t day).cg (eR t day).cD (eR t day).cj (eR t day).eV (eR t day).da (eR t day).d6 (eR t day).dp (eR t day).eW) (qU n lot p) (eR t day).day=some (zf n t (qU n lot p) day):=BY;simp only[iK,amZ (n:=n) ha (by omega),af,HR]) (by omega) (by omega)
 rw[hi];simp only[af,ad6];unfold vw;cases hany:L.any λp=>zf n t (qU n lot p) day with
 |false=>
  have:L.find? (λ p=>zf n t (qU n lot p) day)=none:=List.find?_eq_none.2 λx hx hc=>List.any_eq_false.1 hany x hx hc;rw[this];rfl
 |true=>
  have⟨i,hi,e,hf⟩:=Wy hany;rw[e,hf];simp only[Bool.not_true,ak,bf hi,af]
theorem XA(n:Nat)(lot:dn):(gm n [lot]).length<=1512:=by
 have h1:=(AQ n [lot]).length_eq;have h2:=Xw n [lot] ([],[],[]);have h3:(ze n [lot]).2.2.length<=1512*[lot].length:=by unfold ze;simpa using h2
 simp only[length_singleton]at h3;omega
theorem am0{t:bU}(id day:Int)(ht:wO t)(hl:G3 t.land)(hn:Kq n):yV n t id day=some (match t.land.find? λx=>x.id==id with |some lot=>zk n t lot day |none=>(Lt,false)):=by
 have hn1:=hn.1;have hl2:=hl.2;unfold yV;have hi:ve n t.land (λ (y1:dn×Unit)=>vM y1.1 id)=some (wT (λ x:dn=>x.id==id) t.land):=fI (l:=t.land) (φ:=λ(y1:dn×Unit)=>vM y1.1 id) (λ x:dn=>x.id==id) (λ _ _=>rfl) (by omega) (by omega);rw[hi];simp only[af,ad6];cases hany:t.land.any λx:dn=>x.id==id with
 |false=>
  have:t.land.find? (λ x=>x.id==id)=none:=List.find?_eq_none.2 λx hx hc=>List.any_eq_false.1 hany x hx hc;rw[this];rfl
 |true=>
  have⟨i,hi,e,hf⟩:=Wy hany;have ha:=hl.1 _ (getElem_mem hi);have hsl:yE (i:Int) ((i+1:Nat):Int) t.land.length=true:=uU (by omega) (by omega) (by omega);have hsub:sub t.land (i:Int).toNat (((i+1:Nat):Int).toNat -(i:Int).toNat)=[t.land[i]]:=by
   have e1:(i:Int).toNat=i:=(by omega);have e2:((i+1:Nat):Int).toNat -i=1:=(by omega);rw[e1,e2];unfold sub;rw[List.drop_eq_getElem_cons hi];rfl
  have hP:=aaJ (n:=n) (land:=[t.land[i]]) (λ l hl=>by simp only[aP]at hl;subst hl;exact ha) (by simp) (by omega);have hle:=ae5 (n:=n) (t:=t) (lot:=t.land[i]) (L:=gm n [t.land[i]]) day ht ha (by have:=XA n t.land[i];omega) hn;have hle':iQ n (j5.mk t.cm t.br t.bu t.az t.cw t.b9 t.cE t.ca t.land t.cx t.windows t.built t.base day) t.land[i] (gm n [t.land[i]])=some (zk n t t.land[i] day):=hle;rw[e,hf];simp only[Bool.not_true,ak,bf hi,af,aK i,hsl,aj,hsub,hP,bX,aC,hle',show decide ((i:Int)<0)=false from by simp]
def xF(lot:dn):aS:=aS.mk 0 lot.id [] 0 0 0 0 0 0
def Sb(n:Nat)(t:bU)(lot:dn)(day:Int):aS:=match gm n [lot]with
 |[]=>aS.mk 1 lot.id [] 0 0 0 0 0 0
 |p::_=>aS.mk 1 lot.id (nQ n t (qU n lot p) day) p.lot p.use p.floors p.iv 0 0
def lY(n:Nat)(t:bU)(lot:dn)(day:Int):aS×Bool:=
 bif(applied t lot day).isEmpty then(xF lot,true)else bif(zk n t lot day).2 then(xF lot,false)else(Sb n t lot day,true)
theorem ae6{t:bU}{d:bq}{day:Int}(ht:wO t):(nQ n t d day).length<=101:=by
 unfold nQ;cases (Fe n t d==0)with
 |false=>simp
 |true=>
  have h1:=Xu (Ff n t (oP t d) d (applied t (oP t d) day)) aaE (Of t d);have h2:=Bt (xT n t (oP t d) d) (applied t (oP t d) day) [];have h3:(applied t (oP t d) day).length<=t.az.length:=length_filter_le _ _;have h4:=ht.rules;simp only[aj];unfold Ff at*;simp only[length_nil]at h2;omega
theorem aoE{t:bU}{lot:dn}(day:Int)(ht:wO t)(ha:lot.area.length<=900)(hn:Kq n):lU n (eR t day) lot=some (lY n t lot day):=by
 have hn1:=hn.1;have hz:sD n (ke t) lot.area=some (kC t lot):=Ot _ _ ht.zones ha (by omega);have hz':sD n (bQ.mk (eR t day).cp (eR t day).b8 (eR t day).b7 (eR t day).ci (eR t day).ct (eR t day).cg (eR t day).cD (eR t day).cj) lot.area=some (kC t lot):=hz;have hA:nK n (bQ.mk (eR t day).cp (eR t day).b8 (eR t day).b7 (eR t day).ci (eR t day).ct (eR t day).cg (eR t day).cD (eR t day).cj) (kC t lot) (eR t day).day=some ((y9 t.az (kC t lot) day).map λ(i:Nat)=>(i:Int)):=FP _ _ _ (λ r hr=>(ht.rule r hr).1) ht.rules (LQ ht lot) (by omega);have hpick:(y9 t.az (kC t lot) day).filterMap (λ i=>t.az[i]?)=applied t lot day:=IZ (lX (kC t lot) day) t.az;have hempty:(((((y9 t.az (kC t lot) day).map λ(i:Nat)=>(i:Int)).length:Nat):Int)==(0:Int))=(applied t lot day).isEmpty:=by
  rw[length_map];cases hap:y9 t.az (kC t lot) day with
  |nil=>
   rw[hap]at hpick;rw[<- hpick];rfl
  |cons j l=>
   have hj:j∈y9 t.az (kC t lot) day:=(by rw[hap];simp);have h2:=(List.mem_filter.1 hj).2;obtain⟨r,hr⟩:∃r,t.az[j]? =some r:=by
    cases hc:t.az[j]? with
    |none=>rw[hc]at h2;cases h2
    |some r=>exact⟨r,rfl⟩
   have hmem:r∈applied t lot day:=by
    rw[<- hpick];exact List.mem_filterMap.2 ⟨j,hj,hr⟩
   have e1:((((j::l).length:Nat):Int)==0)=false:=(by simp;omega);rw[e1];cases hq:applied t lot day with
   |nil=>rw[hq]at hmem;simp at hmem
   |cons _ _=>rfl
 have hP:=aaJ (n:=n) (land:=[lot]) (λ l hl=>by simp only[aP]at hl;subst hl;exact ha) (by simp) (by omega);have hle:=ae5 (n:=n) (t:=t) (lot:=lot) (L:=gm n [lot]) day ht ha (by have:=XA n lot;omega) hn;have hs1:sub [lot] 0 1=[lot]:=rfl;unfold lU lY;simp only[hz',af,bX,aC,aj,hA,hempty];cases (applied t lot day).isEmpty with
 |true=>rfl
 |false=>
  simp only[ak,hs1,length_singleton,aC,aj,hP,af,bX,hle];have hL:(vw (gm n [lot]) λp=>zf n t (qU n lot p) day)=zk n t lot day:=rfl;rw[hL];cases (zk n t lot day).2 with
  |true=>rfl
  |false=>
   simp only[ak,Sb];cases hq:gm n [lot]with
   |nil=>rfl
   |cons p l=>
    have hd:decide (((p::l).length:Int)>0)=true:=(by simp);have hB:=aaF (n:=n) (t:=t) (d:=qU n lot p) day ht (ai9 n lot p) hn;have hB':oH n (bU.mk (eR t day).cp (eR t day).b8 (eR t day).b7 (eR t day).ci (eR t day).ct (eR t day).cg (eR t day).cD (eR t day).cj (eR t day).eV (eR t day).da (eR t day).d6 (eR t day).dp (eR t day).eW) (qU n lot p) (eR t day).day=some (nQ n t (qU n lot p) day,Fe n t (qU n lot p)):=hB;simp only[hd,aj,show bo (p::l) 0=some p from rfl,af,amZ (n:=n) ha (by omega),hB',aC,bX]
def zl(n:Nat)(t:bU)(day:Int)(lot:dn)(s:U (Int×Bool)×List aS):U (Int×Bool)×List aS:=
 bif(eX gd lot.id s.1).getD false then s else(oZ gd lot.id true s.1,bif(lY n t lot day).2 then s.2++[(lY n t lot day).1]else s.2)
def lZ(n:Nat)(t:bU)(day:Int):U aS:=(t.land.foldl (λ s lot=>zl n t day lot s) ([],zi n t)).2
theorem aaN(n:Nat)(t:bU)(day:Int)(lot:dn)(s:U (Int×Bool)×List aS):(zl n t day lot s).2.length<=s.2.length+1:=by
 unfold zl;cases (eX gd lot.id s.1).getD false with
 |true=>simp
 |false=>cases (lY n t lot day).2<;>simp
theorem AR{t:bU}(day:Int)(ht:wO t)(hl:G3 t.land)(hn:Kq n):fE n t day=some (lZ n t day):=by
 have hn1:=hn.1;have hl2:=hl.2;have⟨hg,hgl,_⟩:=ack (n:=n) (t:=t) day ht hn;have hg':fG n (j5.mk t.cm t.br t.bu t.az t.cw t.b9 t.cE t.ca t.land t.cx t.windows t.built t.base day)=some (zi n t):=hg;have key:=fA (l:=t.land) (step:=tY n t day) (λ i (s:List (Int×Bool)×List aS)=>((i:Int),s.1,s.2)) (λ lot s=>zl n t day lot s) (λ s=>s.2) (λ i s=>s.2.length<=i+2) (λ i hi s hs=>by
  refine⟨?_,by have:=aaN n t day t.land[i] s;omega⟩;have hlk:lU n (j5.mk t.cm t.br t.bu t.az t.cw t.b9 t.cE t.ca t.land t.cx t.windows t.built t.base day) t.land[i]=some (lY n t t.land[i] day):=aoE day ht (hl.1 _ (getElem_mem hi)) hn;have hap:bR s.2.length s.2.length 1 1 88=true:=dm (by omega) (by simp only[maxLen];omega);simp only[tY,bJ hi,aj,bf hi,af,zl];cases (eX gd t.land[i].id s.1).getD false with
  |true=>simp only[aj,aC,af,aK i]
  |false=>
   simp only[ak,hlk,af,show ∀x:aS,sub ([x]:U aS) 0 1=[x]from λ_=>rfl,length_singleton,hap,aj,dS,aC,aK i];cases (lY n t t.land[i] day).2<;>rfl) (λ s _=>by simp only[tY,bV,ak,aC,aj]) n (by omega) ([],zi n t) (by show(zi n t).length<=0+2;omega)
 unfold fE;have key':iter (tY n t day) n ((0:Int),([]:U (Int×Bool)),zi n t)=some (lZ n t day):=key;simp only[hg',af,aC,aj,key',bX]
theorem akz{t:bU}(day:Int)(ht:wO t)(hn:Kq n):(lZ n t day).length<=t.land.length+2:=by
 have hg:=(ack (n:=n) (t:=t) day ht hn).2.1;have gen:∀(l:U dn)(s:U (Int×Bool)×List aS),(l.foldl (λ s lot=>zl n t day lot s) s).2.length<=s.2.length+l.length:=by
  intro l
  induction l with
  |nil=>intro s;simp
  |cons a l ih=>
   intro s;have h1:=ih (zl n t day a s);have h2:=aaN n t day a s;rw[foldl_cons,bC];omega
 have:=gen t.land ([],zi n t);unfold lZ;simp only at this;omega
def am1(land:U dn)(lot:dn):Prop:=∃j,∃hj:j<land.length,land[j]=lot/\∀i (hi:i<land.length),i<j->land[i].id≠lot.id
theorem Sc(k:Int):eX gd k ([]:U (Int×Bool))=none:=rfl
theorem ae7(n:Nat)(t:bU)(day:Int):∀i,i<=t.land.length->∀s,s=(t.land.take i).foldl (λ s lot=>zl n t day lot s) (([],zi n t):U (Int×Bool)×List aS)->
 (∀ f∈s.2,f∈zi n t\/∃lot,am1 t.land lot/\lY n t lot day=(f,true))/\(∀ f∈zi n t,f∈s.2)/\(∀ j (hj:j<t.land.length),j<i->(eX gd t.land[j].id s.1).getD false=true)/\
 (∀ k,(eX gd k s.1).getD false=true->∃j,∃hj:j<t.land.length,j<i/\t.land[j].id=k)/\
 (∀ j (hj:j<t.land.length),j<i->(∀ q (hq:q<t.land.length),q<j->t.land[q].id≠t.land[j].id)->(lY n t t.land[j] day).2=true->(lY n t t.land[j] day).1∈s.2)
 | 0,_,s,hs=>by
  simp only[List.take_zero,List.foldl_nil]at hs;subst hs;exact⟨λ f hf=> .inl hf,λf hf=>hf,λj _ h=>absurd h (by omega),λk hk=>(by rw[Sc]at hk;cases hk),λj _ h=>absurd h (by omega)⟩
 |i+1,hi,s,hs=>by
  have hi':i<t.land.length:=by omega
  rw[iw hi',List.foldl_append]at hs;obtain⟨a1,a2,a3,a4,a5⟩:=ae7 n t day i (by omega) _ rfl;generalize (t.land.take i).foldl (λ s lot=>zl n t day lot s) (([],zi n t):U (Int×Bool)×List aS)=u at a1 a2 a3 a4 a5 hs;simp only[foldl_cons,List.foldl_nil]at hs;cases hb:(eX gd t.land[i].id u.1).getD false with
  |true=>
   have e:s=u:=(by rw[hs];unfold zl;rw[hb];rfl);subst e;refine⟨a1,a2,λj hj hji=>?_,λk hk=>?_,λj hj hji q7 hlk=>?_⟩
   .rcases Nat.lt_or_ge j i with h |h
    .exact a3 j hj h
    .obtain rfl:j=i:=(by omega);exact hb
   .have⟨j,hj,h1,h2⟩:=a4 k hk;exact⟨j,hj,by omega,h2⟩
   .rcases Nat.lt_or_ge j i with h |h
    .exact a5 j hj h q7 hlk
    .obtain rfl:j=i:=(by omega);obtain⟨q,hq,h1,h2⟩:=a4 _ hb;exact absurd h2 (q7 q hq h1)
  |false=>
   have e:s=(oZ gd t.land[i].id true u.1,bif(lY n t t.land[i] day).2 then u.2++[(lY n t t.land[i] day).1]else u.2):=(by rw[hs];unfold zl;rw[hb];rfl);have q7:∀q (hq:q<t.land.length),q<i->t.land[q].id≠t.land[i].id:=λq hq hqi h=>by
    have:=a3 q hq hqi;rw[h,hb]at this;cases this
   have e2:∀f,f∈s.2↔f∈u.2\/((lY n t t.land[i] day).2=true/\f=(lY n t t.land[i] day).1):=by
    intro f;rw[e];cases (lY n t t.land[i] day).2<;>simp
   have e1:∀k,eX gd k s.1=if k=t.land[i].id then some true else eX gd k u.1:=λk=>by rw[e];exact Qu k _ true _
   refine⟨λ f hf=>?_,λf hf=>(e2 f).2 (.inl (a2 f hf)),λj hj hji=>?_,λk hk=>?_,λj hj hji hfj hlk=>?_⟩
   .rcases (e2 f).1 hf with hf |⟨h1,rfl⟩
    .exact a1 f hf
    .exact .inr ⟨t.land[i],⟨i,hi',rfl,λq hq hqi=>q7 q hq hqi⟩,by rw[<- h1]⟩
   .rw[e1];by_cases h:t.land[j].id=t.land[i].id
    .rw[aX h];rfl
    .rw[aR h];exact a3 j hj (by
      rcases Nat.lt_or_ge j i with h' |h'
      .exact h'
      .obtain rfl:j=i:=(by omega);exact absurd rfl h)
   .rw[e1]at hk;by_cases h:k=t.land[i].id
    .exact⟨i,hi',by omega,h.symm⟩
    .rw[aR h]at hk;have⟨j,hj,h1,h2⟩:=a4 k hk;exact⟨j,hj,by omega,h2⟩
   .rcases Nat.lt_or_ge j i with h |h
    .exact(e2 _).2 (.inl (a5 j hj h hfj hlk))
    .obtain rfl:j=i:=(by omega);exact(e2 _).2 (.inr ⟨hlk,rfl⟩)
theorem akA{t:bU}{day:Int}{f:aS}(h:f∈lZ n t day):f∈zi n t\/∃lot,am1 t.land lot/\lY n t lot day=(f,true):=
 (ae7 n t day t.land.length (aD _) _ rfl).1 f (by rw[List.take_length];exact h)
theorem ae8{t:bU}{lot:dn}{day:Int}(ht:wO t):(lY n t lot day).1.names.length<=101:=by
 unfold lY;cases (applied t lot day).isEmpty with
 |true=>simp[xF]
 |false=>
  cases (zk n t lot day).2 with
  |true=>simp[xF]
  |false=>
   simp only[ak,Sb];split
   .simp
   .exact ae6 ht
theorem ae9{t:bU}{day:Int}(ht:wO t)(hn:Kq n){f:aS}(h:f∈lZ n t day):f.names.length<=4000001:=by
 rcases akA h with h |⟨lot,_,h⟩
 .exact((ack (n:=n) (t:=t) day ht hn).2.2 f h).2
 .have:=ae8 (n:=n) (t:=t) (lot:=lot) (day:=day) ht;rw[h]at this;simp only at this;omega
theorem aho(l:U ByteArray)(hl:l.length<=4000001)(hn:4000003<=n):J2 n l l=some true:=by
 unfold J2;have e:((l.length:Int) !=(l.length:Int))=false:=by simp
 have key:=vo (step:=xS l l) (λ i=>(i:Int)) (s:=(0:Int)) l.length (.inl ()) rfl (λ i hi=>by
  have be:(ByteArray.toList l[i]==ByteArray.toList l[i])=true:=by simp
  simp only[xS,bJ hi,aj,bf hi,af,be,Bool.not_true,ak,aK i]) (by simp only[xS,bV,ak]) n (by omega)
 rw[e,key];rfl
theorem Ka(l:U aS)(hl:l.length<=1000)(hm:∀f∈l,f.names.length<=4000001)(hn:4000003<=n):yX n l l=some true:=by
 unfold yX;have e:((l.length:Int) !=(l.length:Int))=false:=by simp
 have key:=vo (step:=Ay n l l) (λ i=>(i:Int)) (s:=(0:Int)) l.length (.inl ()) rfl (λ i hi=>by
  have ne:∀x:Int,(x !=x)=false:=λx=>by simp
  have be:∀x:Int,(x==x)=true:=λx=>by simp
  simp only[Ay,bJ hi,aj,bf hi,af,ne,be,Bool.and_self,Bool.not_true,ak,aho _ (hm _ (getElem_mem hi)) hn,aK i]) (by simp only[Ay,bV,ak]) n (by omega)
 rw[e,key];rfl
def Calm(l:U bP)(day later:Int):Prop:=∀r∈l,¬(r.from_>day/\r.from_<=later)/\¬(r.cP>day/\r.cP<=later)
theorem OD{t:bU}{lot:dn}{day later:Int}(h:day<=later)(hb:Calm t.az day later):applied t lot day=applied t lot later:=by
 unfold applied;exact List.filter_congr λr hr=>Oz h (hb r hr).1 (hb r hr).2
theorem akB{t:bU}{lot:dn}{day later:Int}(h:day<=later)(hb:Calm t.az day later):lY n t lot day=lY n t lot later:=by
 have h1:=OD (lot:=lot) h hb;have h2:zk n t lot day=zk n t lot later:=by
  unfold zk;exact ach λp _=>amS h hb
 have h3:Sb n t lot day=Sb n t lot later:=by
  unfold Sb;have:∀d,nQ n t d day=nQ n t d later:=λd=>by
   unfold nQ;rw[OD h hb]
  simp only[this]
 unfold lY;rw[h1,h2,h3]
theorem aaO{t:bU}{day later:Int}(h:day<=later)(hb:Calm t.az day later):lZ n t day=lZ n t later:=by
 have:(λ (s:List (Int×Bool)×List aS) lot=>zl n t day lot s)=λs lot=>zl n t later lot s:=by
  funext s lot;unfold zl;rw[akB h hb]
 unfold lZ;rw[this]
def F1(l:U bP):U Int:=l.map (·.from_)++l.map (·.cP)
def Qx(l:U bP)(v:Int):Nat:=((F1 l).filter λx=>decide (v<x)).length
theorem akD{l:U bP}{v w:Int}(hw:w∈F1 l)(h:v<w):Qx l w<Qx l v:=by
 unfold Qx;generalize F1 l=B at hw
 induction B with
 |nil=>simp at hw
 |cons a B ih=>
  have mono:∀B:U Int,(B.filter λx=>decide (w<x)).length<=(B.filter λx=>decide (v<x)).length:=by
   intro B
   induction B with
   |nil=>simp
   |cons b B ih=>
    simp only[List.filter_cons];by_cases h1:w<b
    .have h2:v<b:=(by omega);simp[h1,h2];exact ih
    .by_cases h2:v<b
     .simp[h1,h2];omega
     .simp[h1,h2];exact ih
  simp only[List.filter_cons];rcases aN.1 hw with rfl |hw
  .have h1:¬w<w:=(by omega);have:=mono B;simp[h1,h];omega
  .have:=ih hw;by_cases h1:w<a
   .have h2:v<a:=(by omega);simp[h1,h2];exact this
   .by_cases h2:v<a
    .simp[h1,h2];omega
    .simp[h1,h2];exact this
theorem akE(l:U bP)(v:Int):Qx l v<=2*l.length:=by
 unfold Qx;refine Nat.le_trans (length_filter_le _ _) ?_;simp[F1];omega
structure ao9(F:Int->List aS)(fr to:Int)(r:Int×Bool):Prop where
 some:r.2=true->fr<=r.1/\r.1<=to/\F r.1≠[]/\(r.1=fr\/F (r.1 -1)=[]/\F fr=[])
 none:r.2=false->r.1=0/\∀d,fr<=d->d<=to->F d=[]
theorem aoF{t:bU}{fr to:Int}(ht:wO t)(hl:G3 t.land)(hn:Kq n)(h0:0<=fr):∃r,vg n t fr to=some r/\ao9 (lZ n t) fr to r:=by
 have hn1:=hn.1;have hrl:=ht.rules
 obtain⟨o,g1,g2⟩:=xV (step:=ig n t to) (λ v=>(v.2=true->fr<=v.1/\(v.1=fr\/lZ n t (v.1 -1)=[]/\lZ n t fr=[])/\∀d,fr<=d->d<v.1->lZ n t d=[])/\(v.2=false->∀d,fr<=d->d<=to->lZ n t d=[]))
  (λ o=>(o= .inl ()/\∀d,fr<=d->d<=to->lZ n t d=[])\/∃r,o= .inr r/\ao9 (lZ n t) fr to r) (λ v=>bif v.2 then Qx t.az v.1+1 else 0) (by
  rintro⟨v,m⟩ ⟨i1,i2⟩;cases m with
  |false=>
   simp only[ig,ak,af];exact .inr ⟨_,rfl,.inl ⟨rfl,i2 rfl⟩⟩
  |true=>
   have⟨j1,j2,j3⟩:=i1 rfl;simp only at j1 j2 j3;by_cases hv:v<=to
   .have hF:=AR (n:=n) (t:=t) v ht hl hn;obtain⟨nx,fd,hN,hnx⟩:=ai4 (n:=n) (ke t) v (by have:(ke t).rules.length=t.az.length:=rfl;omega) (by omega);have hN':lV n (bQ.mk t.cm t.br t.bu t.az t.cw t.b9 t.cE t.ca) v=some (nx,fd):=hN;simp only[ig,hv,decide_true,aj,af,hF];cases hq:lZ n t v with
    |cons f l=>
     have e:decide ((((f::l).length:Nat):Int)>0)=true:=(by simp);simp only[e,aj];refine .inr ⟨_,rfl,.inr ⟨_,rfl,⟨λ _=>⟨j1,hv,by simp only;rw[hq];simp,j2⟩,λh=>(by cases h)⟩⟩⟩
    |nil=>
     have e:decide (((([]:U aS).length:Nat):Int)>0)=false:=rfl;simp only[e,ak,hN',af];left;have calm:∀d,v<=d->(fd=true->d<nx)->lZ n t d=[]:=by
      intro d hd zj;rw[<- aaO (n:=n) (t:=t) hd (λ r hr=>⟨λ h=>?_,λh=>?_⟩),hq]
      .have⟨a,b⟩:=(hnx.2 r hr).1 h.1;have:=zj a;omega
      .obtain⟨a,b⟩:=(hnx.2 r hr).2 (by omega) h.1;have:=zj a;omega
     have hfr:lZ n t fr=[]:=by
      rcases Int.lt_or_eq_of_le j1 with h |h
      .exact j3 fr (Int.le_refl _) h
      .rw[h];exact hq
     refine⟨_,rfl,⟨λ zj=>?_,λzj d h1 h2=>?_⟩,?_⟩
     .simp only at zj;have⟨k1,_⟩:=hnx.1 zj;refine⟨by show fr<=nx;omega,.inr ⟨calm (nx -1) (by omega) (λ _=>by omega),hfr⟩,λd h1 h2=>?_⟩;by_cases hdv:d<v
      .exact j3 d h1 hdv
      .exact calm d (by omega) (λ _=>h2)
     .simp only at zj;by_cases hdv:d<v
      .exact j3 d h1 hdv
      .exact calm d (by omega) (λ h=>by rw[zj]at h;cases h)
     .cases fd with
      |false=>simp
      |true=>
       have⟨k1,k2⟩:=hnx.1 rfl;have hb:nx∈F1 t.az:=by
        unfold F1;rcases k2 with ⟨r,hr,rfl⟩ |⟨r,hr,rfl⟩
        .exact List.mem_append_left _ (mem_map.2 ⟨r,hr,rfl⟩)
        .exact List.mem_append_right _ (mem_map.2 ⟨r,hr,rfl⟩)
       have:=akD hb k1;simp only[aj];omega
   .simp only[ig,hv,decide_false,aj,ak,af];exact .inr ⟨_,rfl,.inl ⟨rfl,λd h1 h2=>j3 d h1 (by omega)⟩⟩) n (fr,true) ⟨λ _=>⟨Int.le_refl _,.inl rfl,λd h1 h2=>absurd h2 (by omega)⟩,λh=>(by cases h)⟩ (by
   have:=akE t.az fr;simp only[aj];omega)
 unfold vg;rw[g1];rcases g2 with ⟨rfl,h⟩ |⟨r,rfl,h⟩
 .exact⟨_,rfl,⟨λ h=>(by cases h),λ_=>⟨rfl,h⟩⟩⟩
 .exact⟨r,rfl,h⟩
theorem akF(t:bU):oT t (ke t)=t:=by cases t;rfl
theorem akG{t:bU}(ht:Pi t)(hf:G2 (ke t))(hF:LL t):wO t:=by
 have:=aoA ht.plan hf hF ht.zt
 rwa [akF]at this
theorem Y2(hs:C9 5000003=some true)(t:bU)(fr to:Int)(ht:Pi t)(hra:PA t.az):um 5000003 t fr to=some true:=by
 obtain⟨few,hf,S4⟩:=apO (n:=5000003) (t:=t) ht.plan (by omega);unfold um;rw[hs,hf];simp only[af];cases few with
 |false=>rfl
 |true=>
  have⟨f1,f2⟩:=S4 rfl;have hT:=akG ht f1 f2;have zd:=amR f2;simp only[Bool.not_true,ak];by_cases c1:fr<0
  .simp only[c1,decide_true,aj,af]
  by_cases c2:fr>1073741824
  .simp only[c1,c2,decide_true,decide_false,aj,ak,af]
  by_cases c3:to<0
  .simp only[c1,c2,c3,decide_true,decide_false,aj,ak,af]
  by_cases c4:to>1073741824
  .simp only[c1,c2,c3,c4,decide_true,decide_false,aj,ak,af]
  have hF:=λd=>AR (n:=5000003) (t:=t) d hT zd n42;obtain⟨nx,fd,e3,hnx⟩:=ai4 (n:=5000003) (ke t) fr (by have:=f1.rules;omega) (by omega);have e3':lV 5000003 (bQ.mk t.cm t.br t.bu t.az t.cw t.b9 t.cE t.ca) fr=some (nx,fd):=e3;obtain⟨last,e4,hl1,hl2⟩:=aoB (by omega) (by omega) hra hnx;have hsame:lZ 5000003 t last=lZ 5000003 t fr:=(aaO hl1 hl2).symm;have hfl:=akz (n:=5000003) (t:=t) fr hT n42;have h2:=f2.land.1;have e5:=Ka (n:=5000003) (lZ 5000003 t fr) (by omega) (λ f hf=>ae9 hT n42 hf) (by omega);obtain⟨r,e6,hw⟩:=aoF (n:=5000003) (t:=t) (fr:=fr) (to:=to) hT zd n42 (by omega);simp only[c1,c2,c3,c4,decide_false,ak,af,hF,e3',e4,hsame,bX,aC,aj,e5,Bool.not_true,e6];obtain⟨rd,rb⟩:=r;by_cases c5:fr>to
  .cases rb with
   |true=>
    have⟨a,b,_⟩:=hw.some rfl;simp only at a b;omega
   |false=>
    have⟨a,_⟩:=hw.none rfl;simp only at a;subst a;simp only[c5,decide_true,aj,Bool.not_false];rfl
  .have hd5:decide (fr>to)=false:=(by simp;omega);simp only[hd5,ak];cases rb with
   |false=>
    have⟨a,b⟩:=hw.none rfl;simp only at a;subst a;have b1:=b fr (Int.le_refl _) (by omega);have b2:=b to (by omega) (Int.le_refl _);simp only[Bool.not_false,aj,b1,b2];rfl
   |true=>
    have⟨a1,a2,a3,a4⟩:=hw.some rfl;simp only at a1 a2 a3 a4;have d1:decide (rd<fr)=false:=(by simp;omega);have d2:decide (rd>to)=false:=(by simp;omega);have d3:((((lZ 5000003 t rd).length:Nat):Int)==0)=false:=by
     have:(lZ 5000003 t rd).length≠0:=λh=>a3 (List.eq_nil_of_length_eq_zero h);simp;omega
    simp only[Bool.not_true,ak,d1,d2,d3,af,aj];by_cases hrd:rd=fr
    .have e7:(rd==fr)=true:=(by simpa using hrd);have e8:decide ((((lZ 5000003 t fr).length:Nat):Int)>0)=true:=by
      rw[<- hrd];have:(lZ 5000003 t rd).length≠0:=λh=>a3 (List.eq_nil_of_length_eq_zero h);simp;omega
     rw[e7,e8];rfl
    .have e7:(rd==fr)=false:=(by simpa using hrd);rcases a4 with h |⟨h,h'⟩
     .exact absurd h hrd
     .have e8:decide ((((lZ 5000003 t fr).length:Nat):Int)>0)=false:=(by rw[h'];rfl);have e9:i64.wrap (rd -1)=rd -1:=dO (by omega) (by omega);rw[e7,e8,e9,h];rfl
def am2:ByteArray:=⟨#[99,111,114,101]⟩
def Mz:dL:=dL.mk (⟨#[99,111,114,101]⟩) false [(bT.mk 0 0),(bT.mk 9 0),(bT.mk 9 9),(bT.mk 0 9)]
def Y3(zs:U ByteArray)(u k:Int):bP:=bP.mk (⟨#[97]⟩) zs ([]) 0 u 0 false 0 12 0 (⟨#[]⟩) (⟨#[]⟩) [(cu.mk 1 0 (⟨#[104,101,105,103,104,116]⟩) (⟨#[]⟩) ([])),(cu.mk 0 k (⟨#[]⟩) (⟨#[]⟩) ([]))] 0 0 0 0 0 0 0
def aqx:bP:=bP.mk (⟨#[97]⟩) ([]) ([]) 0 0 0 false 0 0 1 (⟨#[]⟩) (⟨#[]⟩) ([]) 0 0 0 0 0 0 0
def aqy:U eu:=[(eu.mk (⟨#[120]⟩) 1 0 (⟨#[121]⟩) (⟨#[]⟩) ([])),(eu.mk (⟨#[121]⟩) 1 0 (⟨#[120]⟩) (⟨#[]⟩) ([]))]
def xz(d:U eu)(r:bP):bU:=bU.mk d [] [Mz] [r] [] [] [] 0 fL [] [] [] []
theorem am3(r:bP):yP r=some (xz [] r):=rfl
def so:bU:=xz [] (Y3 [⟨#[99,111,114,101]⟩] 0 6)
def J1:bU:=xz [] (Y3 [⟨#[114,105,109]⟩] 0 6)
def I7:bU:=xz [] (Y3 [] 0 2)
def gz:bU:=xz [] (Y3 [] 9 6)
def F0:bU:=xz aqy aqx
theorem XB{d:U eu}{r:bP}(hd:gR d)(hr:Qq r/\(toE (kq r)).wt<=4000000):wO (xz d r) where
 lots:=λl hl=>by
  have hl:l∈fL:=hl;simp only[fL,aP]at hl;subst hl;exact⟨by decide,by decide⟩
 land:=by show fL.length<=1000;decide
 DD:=⟨Nat.zero_le _,λe he=>by have he:e∈([]:U kM):=he;simp at he⟩
 built:=Nat.zero_le _
 zones:=by show 1<=100;decide
 caps:=Nat.zero_le _
 rules:=by show 1<=100;decide
 rule:=λx hx=>by
  have hx:x∈[r]:=hx;rw[aP.1 hx];exact hr
 plan:=⟨hd,⟨Nat.zero_le _,λx hx=>by have hx:x∈([]:U cZ):=hx;simp at hx⟩⟩
theorem Pu:gR []:=Nat.le_of_ble_eq_true (by kernel_rfl)
theorem aja:wO so:=XB Pu ⟨⟨by decide,by decide⟩,Nat.le_of_ble_eq_true (by kernel_rfl)⟩
theorem aoH:wO J1:=XB Pu ⟨⟨by decide,by decide⟩,Nat.le_of_ble_eq_true (by kernel_rfl)⟩
theorem aoI:wO I7:=XB Pu ⟨⟨by decide,by decide⟩,Nat.le_of_ble_eq_true (by kernel_rfl)⟩
theorem ajb:wO gz:=XB Pu ⟨⟨by decide,by decide⟩,Nat.le_of_ble_eq_true (by kernel_rfl)⟩
theorem aoJ:wO F0:=XB (Nat.le_of_ble_eq_true (by kernel_rfl)) ⟨⟨by decide,by decide⟩,Nat.le_of_ble_eq_true (by kernel_rfl)⟩
def Fg:bB:=bB.mk 1 0 1 1
theorem am5:zi 5000003 so=[]:=by kernel_rfl
theorem am6:zi 5000003 J1=[]:=by kernel_rfl
theorem am7:zi 5000003 I7=[]:=by kernel_rfl
theorem afa:zi 5000003 gz=[]:=by kernel_rfl
theorem am8:zi 5000003 F0=[aS.mk 3 0 [⟨#[120]⟩,⟨#[121]⟩] 0 0 0 0 0 0]:=by kernel_rfl
theorem aoK:(applied so dx 0).isEmpty=false:=by kernel_rfl
theorem aoL:(applied J1 dx 0).isEmpty=true:=by kernel_rfl
theorem ajc:applied I7 dx 0=[Y3 [] 0 2]:=by kernel_rfl
theorem am9:(applied gz dx 0).isEmpty=false:=by kernel_rfl
theorem ana:(applied gz dx 8).isEmpty=false:=by kernel_rfl
theorem anb:(applied gz dx 9).isEmpty=true:=by kernel_rfl
theorem aoM:(applied F0 dx 0).isEmpty=false:=by kernel_rfl
theorem ajd:zf 5000003 so (qU 5000003 dx Fg) 0=true:=by kernel_rfl
theorem ane:zf 5000003 gz (qU 5000003 dx Fg) 0=true:=by kernel_rfl
theorem anf:zf 5000003 gz (qU 5000003 dx Fg) 8=true:=by kernel_rfl
theorem aoN:zf 5000003 F0 (qU 5000003 dx Fg) 0=true:=by kernel_rfl
theorem aoO:nQ 5000003 I7 (qU 5000003 dx Fg) 0=[⟨#[97]⟩]:=by kernel_rfl
theorem apT:kC I7 dx=[am2]:=by kernel_rfl
theorem ang:lV 5000003 (ke gz) 0=some (9,true):=by kernel_rfl
theorem anh(e1 e2 e3 e4 e6 e7 e8 e9:Int):(DG.all λf=>(xN 5000003 (kf I7) (XN e1 e2 e3 e4 (f*3) e6 e7 e8 e9) [am2] (kq (Y3 [] 0 2))==some 0))=true:=by kernel_rfl
theorem aje:(pr.all λp=>Hs p Fg || Xs Fg p)=true:=by kernel_rfl
theorem yw{t:bU}{lot:dn}{day:Int}(h:t.land=[lot]):lZ n t day=bif(lY n t lot day).2 then zi n t++[(lY n t lot day).1]else zi n t:=by
 unfold lZ;rw[h];simp only[foldl_cons,List.foldl_nil,zl,Sc,Option.getD_none,ak]
theorem Kb{t:bU}{day:Int}(h:zf 5000003 t (qU 5000003 dx Fg) day=true):zk 5000003 t dx day=(Fg,true):=by
 have hin:∀p∈gm 5000003 fL,p∈pr:=λp hp=>OA.1 hp;have hs:=Xy;have hmem:Fg∈gm 5000003 fL:=OA.2 (by
  have:(pr.any λp=>Hs p Fg)=true:=by kernel_rfl
  obtain⟨p,hp,he⟩:=List.any_eq_true.1 this;rw[UF]at he;rw[<- he];exact hp)
 show vw (gm 5000003 fL) (λ p=>zf 5000003 t (qU 5000003 dx p) day)=_;generalize gm 5000003 fL=L at hin hs hmem;rcases acg L (λ p=>zf 5000003 t (qU 5000003 dx p) day)with ⟨p,hf,hr,hp,hq⟩ |⟨_,hn⟩
 .have:=all_eq_true.1 aje p (hin p hp);rw[Bool.or_eq_true]at this;rcases this with h' |h'
  .rw[UF]at h';rw[hr,h']
  .exfalso;obtain⟨_,i,hi,rfl,hbef⟩:=List.find?_eq_some_iff_getElem.1 hf;obtain⟨j,hj,SZ⟩:=List.getElem_of_mem hmem;rcases Nat.lt_trichotomy i j with hij |hij |hij
   .rw[List.pairwise_iff_getElem]at hs;have:=hs i j hi hj hij;rw[SZ,h']at this;cases this
   .subst hij;rw[SZ,ai6]at h';cases h'
   .have:=hbef j hij;rw[SZ,h]at this;cases this
 .have:=hn Fg hmem;rw[h]at this;cases this
theorem ani:∃l,gm 5000003 fL=Fg::l:=by
 have hin:∀p∈gm 5000003 fL,p∈pr:=λp hp=>OA.1 hp;have hs:=Xy;have hmem:Fg∈gm 5000003 fL:=OA.2 (by
  have:(pr.any λp=>Hs p Fg)=true:=by kernel_rfl
  obtain⟨p,hp,he⟩:=List.any_eq_true.1 this;rw[UF]at he;rw[<- he];exact hp)
 generalize gm 5000003 fL=L at hin hs hmem;cases L with
 |nil=>simp at hmem
 |cons p l=>
  have:=all_eq_true.1 aje p (hin p (by simp));rw[Bool.or_eq_true]at this;rcases this with h' |h'
  .rw[UF]at h';exact⟨l,by rw[h']⟩
  .rcases aN.1 hmem with h |h
   .rw[<- h,ai6]at h';cases h'
   .rw[List.pairwise_cons]at hs;have:=hs.1 _ h;rw[h']at this;cases this
theorem anj{p:bB}(hp:p∈gm 5000003 [dx]):zf 5000003 I7 (qU 5000003 dx p) 0=false:=by
 have hpR:p∈pr:=OA.1 hp;have⟨lot,hof⟩:=aku hp;have SU:lot=dx:=by
  have:=List.mem_of_find?_eq_some hof.UT;simpa using this
 subst SU;have hfits:=aow hof;have hd:qU 5000003 dx p=Dk 5000003 dx p:=by unfold qU;rw[hfits];rfl
 have hD:aqw p=Dk 5000003 dx p:=by
  show(XX 5000003 [dx] p).1=_;unfold XX;rw[hof.UT];simp only[hfits,aj]
 have hpl:p.lot=1:=by
  have:=hof.UT;obtain⟨i,k,_,_,_,hpk⟩:=hof.ex;rw[hpk];rfl
 rw[hd];unfold zf;cases S5:(Fe 5000003 I7 (Dk 5000003 dx p)==0)with
 |false=>rfl
 |true=>
  rw[Bool.true_and];have h2:=all_eq_true.1 apP p hpR;rw[hD]at h2;have hLD:yd (Dk 5000003 dx p):=aiY _ _ _;have hlt:oP I7 (Dk 5000003 dx p)=dx:=by
   show(mU fL p.lot).1=_;rw[hpl];rfl
  obtain⟨e1,e2,e3,e4,e5,e6,e7,e8,H3⟩:=amy (n:=5000003) (p:=kf I7) (lot:=dx) (d:=Dk 5000003 dx p) ⟨Nat.zero_lt_succ _,Nat.zero_le _,λx hx=>by have hx:x∈([]:U cZ):=hx;simp at hx⟩ (by decide) hLD.1 (by omega);have hms:ku 5000003 (kf (oT DE (aqv 0))) dx (Dk 5000003 dx p)=some (XN e1 e2 e3 e4 e5 e6 e7 (wN (om dx) (fM (Dk 5000003 dx p))) e8):=H3 [] [] [] [] [] [] 0;have hmD:ku 5000003 (kf I7) dx (Dk 5000003 dx p)=some (XN e1 e2 e3 e4 e5 e6 e7 (wN (om dx) (fM (Dk 5000003 dx p))) e8):=H3 [] [Mz] [] [] [] [] 0;have h5:e5=p.floors*3:=by
   rw[hms,beq_iff_eq]at h2;have:some e5=some (p.floors*3):=h2;injection this
  have hfl:p.floors∈DG:=by have:=all_eq_true.1 ahl p hpR;simpa using this
  have hev:=all_eq_true.1 (anh e1 e2 e3 e4 e6 e7 (wN (om dx) (fM (Dk 5000003 dx p))) e8) p.floors hfl;rw[beq_iff_eq,<- h5]at hev;have hb:xT 5000003 I7 dx (Dk 5000003 dx p) (Y3 [] 0 2)=true:=by
   have ht:Ok 5000003 I7 dx (Dk 5000003 dx p) (Y3 [] 0 2)=true:=by
    unfold Ok;rw[hmD,apT];simp only[af,hev,Option.getD_some];rfl
   unfold xT;exact ht
  unfold nQ Ff;rw[S5,hlt,ajc];simp only[foldl_cons,List.foldl_nil,hb,aj];exact decide_eq_false (aoC (by rw[show addN [] (Y3 [] 0 2).name true=[⟨#[97]⟩]from rfl];simp))
theorem apU:fE 5000003 so 0=some []:=by
 rw[AR 0 aja zh n42,yw (lot:=dx) rfl];unfold lY;rw[aoK,Kb ajd,am5];rfl
theorem apV:fE 5000003 J1 0=some [xF dx]:=by
 rw[AR 0 aoH zh n42,yw (lot:=dx) rfl];unfold lY;rw[aoL,am6];rfl
theorem apW:fE 5000003 I7 0=some [aS.mk 1 1 [⟨#[97]⟩] 1 0 1 1 0 0]:=by
 rw[AR 0 aoI zh n42,yw (lot:=dx) rfl];have hl:zk 5000003 I7 dx 0=(Lt,false):=ae0 λp hp=>anj hp;have hdf:Sb 5000003 I7 dx 0=aS.mk 1 1 [⟨#[97]⟩] 1 0 1 1 0 0:=by
  obtain⟨l,hl⟩:=ani;have hl':gm 5000003 [dx]=Fg::l:=hl;unfold Sb;rw[hl'];simp only[aoO];rfl
 unfold lY;rw[ajc,hl,hdf,am7];rfl
theorem ank(day:Int)(h1:(applied gz dx day).isEmpty=false)(h2:zf 5000003 gz (qU 5000003 dx Fg) day=true):fE 5000003 gz day=some []:=by
 rw[AR day ajb zh n42,yw (lot:=dx) rfl];unfold lY;rw[h1,Kb h2,afa];rfl
theorem ajf:fE 5000003 gz 9=some [xF dx]:=by
 rw[AR 9 ajb zh n42,yw (lot:=dx) rfl];unfold lY;rw[anb,afa];rfl
theorem apX:fE 5000003 F0 0=some [aS.mk 3 0 [⟨#[120]⟩,⟨#[121]⟩] 0 0 0 0 0 0]:=by
 rw[AR 0 aoJ zh n42,yw (lot:=dx) rfl];unfold lY;rw[aoM,Kb aoN,am8];rfl
theorem aqz:yV 5000003 so 1 0=some (Fg,true):=by
 rw[am0 1 0 aja zh n42];have:(so.land.find? λx=>x.id==1)=some dx:=rfl;rw[this];simp only[Kb ajd]
theorem aqA:vg 5000003 gz 0 20=some (9,true):=by
 unfold vg;have s1:ig 5000003 gz 20 ((0:Int),true)=some (.inl ((9:Int),true)):=by
  have hd:decide ((0:Int)<=20)=true:=rfl;have hN:lV 5000003 (bQ.mk gz.cm gz.br gz.bu gz.az gz.cw gz.b9 gz.cE gz.ca) 0=some (9,true):=ang;simp only[ig,aj,hd,af,ank 0 am9 ane,hN];rfl
 have s2:ig 5000003 gz 20 ((9:Int),true)=some (.inr (.inr ((9:Int),true))):=by
  have hd:decide ((9:Int)<=20)=true:=rfl;simp only[ig,aj,hd,af,ajf];rfl
 have h1:iter (ig 5000003 gz 20) (5000002+1) ((0:Int),true)=some (.inr ((9:Int),true)):=by
  rw[gX s1];exact fD (n:=5000001) s2
 have h2:iter (ig 5000003 gz 20) 5000003 ((0:Int),true)=some (.inr ((9:Int),true)):=h1;rw[h2];rfl
theorem aoP:C9 5000003=some true:=by
 have a1:=apU;have a2:=apV;have a3:=apW;have a4:=ank 8 ana anf;have a5:=ajf;have a6:=apX;have a7:=aqz;have a8:=aqA;have b1:=Ka (n:=5000003) [xF dx] (by simp) (λ f hf=>by simp only[aP]at hf;subst hf;simp[xF]) (by omega);have b2:=Ka (n:=5000003) [aS.mk 1 1 [⟨#[97]⟩] 1 0 1 1 0 0] (by simp) (λ f hf=>by simp only[aP]at hf;subst hf;simp) (by omega);have b3:=Ka (n:=5000003) [aS.mk 3 0 [⟨#[120]⟩,⟨#[121]⟩] 0 0 0 0 0 0] (by simp) (λ f hf=>by simp only[aP]at hf;subst hf;simp) (by omega);have c1:∀k:Int,uX k=some (cu.mk 12 0 (⟨#[]⟩) (⟨#[]⟩) [(cu.mk 1 0 (⟨#[104,101,105,103,104,116]⟩) (⟨#[]⟩) ([])),(cu.mk 0 k (⟨#[]⟩) (⟨#[]⟩) ([]))]):=λ_=>rfl;have s1:∀r:ByteArray,sub [r] 0 1=[r]:=λ_=>rfl;have s2:∀r:aS,sub [r] 0 1=[r]:=λ_=>rfl;have s3:∀x y:eu,sub [x,y] 0 2=[x,y]:=λ_ _=>rfl;have s4:∀x y:ByteArray,sub [x,y] 0 2=[x,y]:=λ_ _=>rfl;simp only[so,J1,I7,gz,F0,xz,Y3,aqx,aqy,Mz,Fg,xF,dx]at a1 a2 a3 a4 a5 a6 a7 a8 b1;simp only[C9,c1,am3,xz,Mz,af,s1,s2,s3,s4,length_singleton,bC,length_nil,Nat.zero_add,Nat.reduceAdd,aC,aj,a1,a2,a3,a4,a5,a6,a7,a8,b1,b2,b3];rfl
theorem acr(t:bU)(fr to:Int)(ht:Pi t)(hra:PA t.az):um 5000003 t fr to=some true:=Y2 aoP t fr to ht hra
theorem ahp{t:bU}{s:VS}(hs:uk (X:=xx) (n+8) (.st SI.il)=some s)(h:yi s (CT.tv xx.toSE (.st SI.il) t)):PA t.az:=by
 have⟨l,h1,h2⟩:=apQ hs h;have h3:((sE (X:=xx) (n+8) (.st SI.il)).bind λl=>l[3]?)=some (.sl W8):=by kernel_rfl
 rw[h1]at h3;have f3:=UG h2 (i:=3) h3 (x:= .sl (t.az.map tq)) rfl;have⟨_,_,g3⟩:=apR f3;intro r hr;have k3:W8[3]? =some (.int .i64):=by kernel_rfl
 have k4:W8[4]? =some (.int .i64):=by kernel_rfl
 exact⟨ai7 (UG (g3 r hr) k3 (x:= .sc (.int .i64 r.from_)) rfl),ai7 (UG (g3 r hr) k4 (x:= .sc (.int .i64 r.cP)) rfl)⟩
theorem acs{ss:U VS}(q:HL xx.toSE [.st SI.il,.int .i64,.int .i64])(hs:zN (uk (X:=xx) 8) [.st SI.il,.int .i64,.int .i64]=some ss)(hq:KV ss (HL.mA xx.toSE [.st SI.il,.int .i64,.int .i64] q))(hb:yf (HL.mA xx.toSE [.st SI.il,.int .i64,.int .i64] q)<=1048576):∃k,um k q.1 q.2.1 q.2.2.1=some true:=by
 have h2:kI (JS q.1)+(1+(1+0))<=1048576:=hb;have⟨_,_,a0,_,b0,_⟩:=amX hs q hq;exact⟨5000003,acr q.1 q.2.1 q.2.2.1 (apS (by omega)) (ahp (n:=0) a0 b0)⟩
end Go.Proofs
