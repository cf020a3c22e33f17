import Derived.Test.YthkmffljjjfbjaaGreatS1
open Go.IntKind (i64)
open List (mem_map getElem_mem length_nil foldl_cons take_of_length_le any_eq_true map_nil mem_flatMap)
namespace Go.Proofs
open Go.Gb Go.RowKit
variable {n:Nat}
theorem aiO{p:bZ}{ms:List bL}{zs:List ByteArray}{e:bH}(hp:ON p)(hm:ms.length<=4000000)(hz:zs.length<=4000000)(he:(toE e).wt<=4000000)(hn:5000003<=n)(hn2:n<=9223372036854775000):∃v,yF n p ms zs e=some v:=by
 obtain⟨b,hb,hv⟩:=OD (n:=n) (by omega) hn2 he;simp only[yF,wU,hb,af];cases b with
 |false=>exact⟨_,rfl⟩
 |true=>
  have⟨kn,ab,h1,_⟩:=I8 (n:=n) hp hm hz hn hn2;obtain⟨v,h2⟩:=TF (n:=n) (a0:=p.defs) (a2:=p.zones) (a3:=p.rules) (a4:=p.caps) (a5:=p.views) (a6:=p.ta) (a7:=p.hours) (by omega) hp.tabs hz n e kn (hv rfl) he;simp only[Bool.not_true,ak,h1,af,fG,h2];exact⟨_,rfl⟩
section
variable {n:Nat} {d:List eH} {ts:List bS} {z:List dH} {r r':List aO} {c c':List fM} {v v':List eD} {su qk:List bO} {h h':Int} {zs:List ByteArray}
theorem FM:∀(m:Nat)(e:bH)(kn:List (ByteArray×Int)),bQ n m d ts z r c v su h zs e kn=bQ n m d ts z r' c' v' qk h' zs e kn
 | 0,_,_=>rfl
 |m+1,e,kn=>by
  have ih:=FM m;have hs:eu n (bQ n m) d ts z r c v su h zs e=eu n (bQ n m) d ts z r' c' v' qk h' zs e:=by
   funext ⟨v1,v2,v3⟩;simp only[eu,ih]
  have hr:∀w,iR n d ts z r c v su h zs e w=iR n d ts z r' c' v' qk h' zs e w:=λ_=>rfl;show eO n (bQ n m) d ts z r c v su h zs e kn=eO n (bQ n m) d ts z r' c' v' qk h' zs e kn;simp only[eO,hs,wU,hr]
theorem adh{ms:List bL}:(lq n (bZ.mk d ts z r c v su h) ms zs).map (λ q=>q.2.2.2.2.2.2.2.2.2)=(lq n (bZ.mk d ts z r' c' v' qk h') ms zs).map (λ q=>q.2.2.2.2.2.2.2.2.2):=by
 have hs:∀w2 r1,fZ n (bZ.mk d ts z r c v su h) zs w2 r1=fZ n (bZ.mk d ts z r' c' v' qk h') zs w2 r1:=by
  intro w2 r1;funext ⟨v6,v7,v8⟩;have hv:∀e kn,fG n d ts z r c v su h zs e kn=fG n d ts z r' c' v' qk h' zs e kn:=λe kn=>FM n e kn;simp only[fZ,hv]
 have ho:mG n (bZ.mk d ts z r c v su h)=mG n (bZ.mk d ts z r' c' v' qk h'):=rfl;simp only[lq,hs,ho];cases iter (jI n ms) n ((0:Int),([]:(List (ByteArray×Int))),([]:(List (ByteArray×Bool))))with
 |none=>rfl
 |some w=>
  obtain⟨w1,w2⟩:=w;simp only[af];cases (decide ((d.length:Int)<=(d.length:Int))&&(decide (0<=(d.length:Int))&&xG (d.length:Int) 8))with
  |false=>rfl
  |true=>
   simp only[aj];cases mG n (bZ.mk d ts z r' c' v' qk h')with
   |none=>rfl
   |some r1=>
    simp only[af];cases (r1.2.2 !=(0:Int))with
    |true=>
     simp only[aj];cases bj (((d.length:Int):Int).toNat) (List.replicate ((d.length:Int):Int).toNat (0:Int)).length<;>rfl
    |false=>
     simp only[ak];cases iter (fZ n (bZ.mk d ts z r' c' v' qk h') zs w2 r1) n ((0:Int),w1,(List.replicate ((d.length:Int):Int).toNat (0:Int)))with
     |none=>rfl
     |some q=>
      obtain⟨w3,w4⟩:=q;simp only[af];cases bj (((d.length:Int):Int).toNat) w4.length<;>rfl
theorem adi{ms:List bL}{e:bH}(hp:gb d)(ht:Hx ts)(hm:ms.length<=4000000)(hz:zs.length<=4000000)(hn:5000003<=n)(hn2:n<=9223372036854775000):yF n (bZ.mk d ts z r c v su h) ms zs e=yF n (bZ.mk d ts z r' c' v' qk h') ms zs e:=by
 have⟨kn,ab,h1,_⟩:=I8 (n:=n) (p:=bZ.mk d ts z r c v su h) ⟨hp,ht⟩ hm hz hn hn2;have⟨QP,out2,h2,_⟩:=I8 (n:=n) (p:=bZ.mk d ts z r' c' v' qk h') ⟨hp,ht⟩ hm hz hn hn2;have h3:=adh (n:=n) (d:=d) (ts:=ts) (z:=z) (r:=r) (r':=r') (c:=c) (c':=c') (v:=v) (v':=v') (su:=su) (qk:=qk) (h:=h) (h':=h') (zs:=zs) (ms:=ms);rw[h1,h2]at h3;simp only[Option.map_some,ay,Prod.mk.injEq]at h3;obtain⟨rfl,rfl⟩:=h3;simp only[yF,h1,h2,af,fG,FM (r:=r) (r':=r') (c:=c) (c':=c') (v:=v) (v':=v') (su:=su) (qk:=qk) (h:=h) (h':=h')]
end
theorem Pb{b:ax}{l:List dI}{s:List fB}(ha:∀c∈s,c.area.length<=200)(hs:s.length<=1000)(hl:l.length<=1000)(hn:2000<=n):
 vI n b l s=some (yQ b l&&(zo s&&!(s.any λc=>decide (vA b l c.area<c.z1)))):=by
 unfold vI;rw[Tx b l hl hn];simp only[af];cases hv:yQ b l with
 |false=>simp only[Bool.not_false,aj,af,Bool.false_and]
 |true=>
  have⟨v1,v2⟩:=(aaM b l).1 hv;simp only[Bool.not_true,ak,Oz (n:=n) (s:=s) (λ x hx=>by have:=ha x hx;omega) (by omega),af,Bool.true_and];cases hr:zo s with
  |false=>simp only[Bool.not_false,aj,Bool.false_and]
  |true=>
   have⟨_,sok,_⟩:=(I7 s).1 hr;simp only[Bool.not_true,ak,Bool.true_and];rw[qH (λ c=>decide (vA b l c.area<c.z1)) (λ c hc=>by
    have:=ha c hc;show p8 n c b l=_;unfold p8;rw[O8 v1 v2 (rJ (sok c hc).rt).1 (by omega) hl hn];rfl) (by omega) (by omega)]
   simp only[af]
def lC(v:aC):List fB:=[⟨v.cP,v.cz,[fI v]⟩]
theorem aa0(v:aC):vF v=some (lC v):=rfl
def CK(b:ax)(p:dI)(v:aC):Bool:=yQ b [p]&&(zo (lC v)&&!((lC v).any λc=>decide (vA b [p] c.area<c.z1)))
def M6(r:aO):dI:=dI.mk r.gi r.gj r.il r.io
theorem YD(v:aC)(b:ax)(r:aO)(hn:2000<=n):jr n v b r=some (!CK b (M6 r) v):=by
 have h:=Pb (n:=n) (b:=b) (l:=[M6 r]) (s:=lC v) (by simp[lC]) (by simp[lC]) (by simp) hn;unfold M6 at h;have hl:(lC v).length=1:=rfl;simp only[jr,aa0,af,cB,aH,aj,show ∀x:dI,sub [x] 0 1=[x]from λ_=>rfl,List.length_singleton,h,CK,M6];rfl
def Hv(r:aO)(v:aC):Bool:=bits .and .i64 r.uses (i64.wrap (1*2 ^ (v.use:Int).toNat))==(0:Int)
theorem YE{v:aC}(h:okV v=true)(r:aO):jv v r=some (Hv r v):=by
 have hu:0<=v.use/\v.use<6:=by
  simp only[okV,aJ,aR]at h;omega
 have hb:i64.bits=64:=rfl;simp only[jv,Hv,show(decide (0<=v.use)&&decide (v.use<=i64.bits))=true from by simp[hb];omega,aj]
def YF(lot:Int)(r:aO)(v:aC)(b:cO):Bool:=(dJ b (kX.mk [] [] [] [] [] [] [] 0 [] [] [] [] [] 0 0 [] [] lot [] [] []) v r).getD false
theorem aa1{b:cO}{s:kX}{v:aC}{r:aO}:dJ b s v r=some (YF s.dt r v b):=by
 have key:∃x,dJ b (kX.mk [] [] [] [] [] [] [] 0 [] [] [] [] [] 0 0 [] [] s.dt [] [] []) v r=some x:=by
  simp only[dJ,iV,ahm,af];refine qI (d9 ⟨_,rfl⟩ (d9 ⟨_,rfl⟩ (d9 ⟨_,rfl⟩ ⟨_,rfl⟩))) λ_=>d9 ⟨_,rfl⟩ (qI (d9 (d9 ⟨_,rfl⟩ (d9 ⟨_,rfl⟩ ⟨_,rfl⟩)) (d9 ⟨_,rfl⟩ ⟨_,rfl⟩)) λ_=>d9 ⟨_,rfl⟩ ⟨_,rfl⟩)
 have e:dJ b s v r=dJ b (kX.mk [] [] [] [] [] [] [] 0 [] [] [] [] [] 0 0 [] [] s.dt [] [] []) v r:=rfl;obtain⟨x,hx⟩:=key;rw[e,YF,hx];rfl
theorem xJ{l:List cO}{φ:(cO×Unit)->Option Bool}(p:cO->Bool)(h:∀x∈l,φ (x,())=some (p x))(hl:l.length<1099511627776)(hn:l.length<n):jw n l φ=some (l.any p):=by
 have:o7 n l φ=some (ze p l):=gT p h hl hn;simp only[jw,this,af,ve]
def YG(built:List cO)(lot:Int)(r:aO)(v:aC):Bool:=built.any (YF lot r v)
theorem YH{s:kX}{v:aC}{r:aO}(hb:s.fi.length<=1000)(hn:2000<=n):jy n v s r=some (YG s.fi s.dt r v):=by simp only[jy,qi,xJ (n:=n) (l:=s.fi) (φ:=λ(y1:cO×Unit)=>dJ y1.1 s v r) (YF s.dt r v) (λ x _=>aa1) (by omega) (by omega),af,YG]
def ix(r:aO):bH:=bH.mk r.j7 r.lr r.lp r.ik r.fj
def lf(t:dS):bZ:=bZ.mk t.ci t.b7 t.b8 [] t.cm t.cd t.cw t.cg
structure TH(t:dS):Prop where
 lots:∀l∈t.land,AD l
 land:t.land.length<=1000
 G3:t.b9.length<=900/\∀e∈t.b9,e.area.length<=900
 built:t.built.length<=1000
 zones:t.b8.length<=100
 caps:t.cm.length<=4000000
 rules:t.aE.length<=100
 rule:∀r∈t.aE,I6 r/\(toE (ix r)).wt<=4000000
 plan:ON (lf t)
def Vo(d:aP):Prop:=Tz d/\FA d
def Vp(n:Nat):Prop:=5000003<=n/\n<=9223372036854775000
def sS(t:dS)(lot:fU):List ByteArray:=A1 t.b8 lot.area
def pS(t:dS)(lot:fU)(d:aP):kX:=kX.mk t.ci t.b7 t.b8 t.aE t.cm t.cd t.cw t.cg t.land t.b9 t.windows t.built t.base lot.id lot.owner lot.area lot.from_ d.lot d.phases (gq d) (sS t lot)
theorem ahH{d:aP}(h:Tz d)(hn:1001<=n):q9 n d=some (gq d):=by
 obtain⟨h1,h2⟩:=h;unfold q9;have key:=AX (step:=nG d) (λ i=>((i:Int),(d.phases.take i).flatMap (·.az))) (s:=((0:Int),([]:List aC))) d.phases.length (gq d) rfl (λ i hi=>by
  have hl:=ec (l:=d.phases.take i) λp hp=>h2 p (List.mem_of_mem_take hp);rw[List.length_take]at hl;have hv:=h2 _ (getElem_mem hi);generalize hL:(d.phases.take i).flatMap (·.az)=L at hl;have hap:bP L.length L.length d.phases[i].az.length d.phases[i].az.length 72=true:=dm (by omega) (by simp only[maxLen];omega);simp only[nG,dK hi,aj,bq hi,af,hap,eX,aH,aV i];rw[jD hi,List.flatMap_append,hL];simp only[List.flatMap_cons,List.flatMap_nil,List.append_nil]) (by simp only[nG,fe,ak,aH,aj,List.take_length,gq]) n (by omega)
 have hz:bj 0 ([]:List aC).length=true:=rfl;simp only[hz,aj,key,af,cB,aH]
def N2(n:Nat)(t:dS)(d:aP):Bool:=(nk n (lf t) (lM t.land d.lot).1 d).getD false
def jA(n:Nat)(t:dS)(d:aP):Int:=bif(lM t.land d.lot).2 then(bif N2 n t d then 0 else 1)else 4
def akq:kX:=kX.mk ([]) ([]) ([]) ([]) ([]) ([]) ([]) 0 ([]) ([]) ([]) ([]) ([]) 0 0 ([]) ([]) 0 ([]) ([]) ([])
theorem look_eq{t:dS}{d:aP}(ht:TH t)(hd:Vo d)(hn:Vp n):uF n t d=some (bif jA n t d==0 then pS t (lM t.land d.lot).1 d else akq,jA n t d)/\(jA n t d=0->∀v∈gq d,okV v=true):=by
 obtain⟨hn1,hn2⟩:=hn;have hl:=ht.land;have e1:Kh n t.land d.lot=some (lM t.land d.lot):=aft ht.lots (by omega) (by omega);have hw:=M4 ht.lots d.lot;obtain⟨b,hb,hv⟩:=afD (n:=n) (p:=lf t) (lot:=(lM t.land d.lot).1) (d:=d) ht.caps hw.1 hd.1 hd.2 (by omega);have e2:nk n (bZ.mk t.ci t.b7 t.b8 t.aE t.cm t.cd t.cw t.cg) (lM t.land d.lot).1 d=some b:=hb;have e3:AA n (bZ.mk t.ci t.b7 t.b8 t.aE t.cm t.cd t.cw t.cg) (lM t.land d.lot).1.area=some (A1 t.b8 (lM t.land d.lot).1.area):=Yw _ _ ht.zones hw.1 (by omega);have e4:N2 n t d=b:=by unfold N2;rw[hb];rfl
 simp only[uF,e1,e2,e3,ahH hd.1 (show 1001<=n by omega),af,cB,aH,aj,jA,e4];cases (lM t.land d.lot).2 with
 |false=>exact⟨rfl,λh=>absurd (show (4:Int)=0 from h) (by decide)⟩
 |true=>
  cases b with
  |false=>exact⟨rfl,λh=>absurd (show (1:Int)=0 from h) (by decide)⟩
  |true=>exact⟨rfl,λ_=>hv rfl⟩
def Tl(n:Nat)(t:dS)(lot:fU)(d:aP)(r:aO):Bool:=((nT n (lf t) lot d).bind λms=>yF n (lf t) ms (sS t lot) (ix r)).getD 1==0
def uI(n:Nat)(t:dS)(lot:fU)(d:aP)(r:aO):Bool:=
 bif r.kind==0 then Tl n t lot d r else bif r.kind==1 then(gq d).any (λ v=>!CK (Qt lot.area).1 (M6 r) v)else bif r.kind==2 then(gq d).any (Hv r)else bif r.kind==3 then(gq d).any (YG t.built d.lot r)else false
theorem TJ{t:dS}(ht:TH t)(lot:fU):(sS t lot).length<=100:=Nat.le_trans (aiJ _ _) ht.zones
theorem Xb{t:dS}{lot:fU}{d:aP}{r:aO}(ht:TH t)(hl:lot.area.length<=900)(hd:Vo d)(hv:∀v∈gq d,okV v=true)(hr:(toE (ix r)).wt<=4000000)(hn:Vp n):iZ n (pS t lot d) r=some (uI n t lot d r):=by
 obtain⟨hn1,hn2⟩:=hn;have hvl:=GI hd.1;have hz:=TJ ht lot;simp only[iZ,gm,uI];cases (r.kind==0)with
 |true=>
  have htb:=ht.plan.tabs;obtain⟨e1,e2,e3,e4,e5,e6,e7,e8,R1⟩:=ako (n:=n) (p:=lf t) (lot:=lot) (d:=d) ⟨by have:=htb.1;omega,by have:=htb.1;omega,λx hx=>by have:=htb.2 x hx;omega⟩ hl hd.1 (by omega);have h1:=R1 t.aE;have h2:=R1 [];have h2':nT n (lf t) lot d=_:=h2;have h1':nT n (bZ.mk t.ci t.b7 t.b8 t.aE t.cm t.cd t.cw t.cg) (fU.mk lot.id lot.owner lot.area lot.from_) (aP.mk d.lot d.phases)=_:=h1;obtain⟨v,hE⟩:=aiO (n:=n) (p:=lf t) (ms:=[⟨⟨#[97,114,101,97]⟩,e1⟩,⟨⟨#[99,111,118,101,114]⟩,e2⟩,⟨⟨#[102,108,111,111,114]⟩,e3⟩,⟨⟨#[102,108,111,111,114,115]⟩,e4⟩,⟨⟨#[104,101,105,103,104,116]⟩,e5⟩,⟨⟨#[104,111,109,101,115]⟩,e6⟩,⟨⟨#[114,117,110,111,102,102]⟩,e7⟩,⟨GH,FK (oL lot) (gM d)⟩,⟨⟨#[116,114,97,102,102,105,99]⟩,e8⟩]) (zs:=sS t lot) (e:=ix r) ht.plan (by simp) (by omega) hr hn1 hn2;have hE':=(adi (n:=n) (d:=t.ci) (ts:=t.b7) (z:=t.b8) (r:=t.aE) (r':=[]) (c:=t.cm) (v:=t.cd) (su:=t.cw) (h:=t.cg) (zs:=sS t lot) (ms:=[⟨⟨#[97,114,101,97]⟩,e1⟩,⟨⟨#[99,111,118,101,114]⟩,e2⟩,⟨⟨#[102,108,111,111,114]⟩,e3⟩,⟨⟨#[102,108,111,111,114,115]⟩,e4⟩,⟨⟨#[104,101,105,103,104,116]⟩,e5⟩,⟨⟨#[104,111,109,101,115]⟩,e6⟩,⟨⟨#[114,117,110,111,102,102]⟩,e7⟩,⟨GH,FK (oL lot) (gM d)⟩,⟨⟨#[116,114,97,102,102,105,99]⟩,e8⟩]) (e:=ix r) ht.plan.defs ht.plan.tabs (by simp) (by omega) hn1 hn2).trans hE;unfold ix at hE';simp only[aj,pS,h1',af,cB,aH,hE',Tl,h2',hE,Option.getD_some]
 |false=>
  cases (r.kind==1)with
  |true=>
   simp only[aj,ak,show(pS t lot d).jj=lot.area from rfl,show(pS t lot d).az=gq d from rfl,Yy (n:=n) lot.area hl (by omega),af];rw[fD (λ v=>!CK (Qt lot.area).1 (M6 r) v) (λ v _=>YD v _ r (by omega)) (by omega) (by omega)];rfl
  |false=>
   cases (r.kind==2)with
   |true=>
    simp only[aj,ak,show(pS t lot d).az=gq d from rfl];rw[fD (Hv r) (λ v hm=>YE (hv v hm) r) (by omega) (by omega)];rfl
   |false=>
    cases (r.kind==3)with
    |true=>
     simp only[aj,ak,show(pS t lot d).az=gq d from rfl];rw[fD (YG t.built d.lot r) (λ v _=>YH (s:=pS t lot d) ht.built (by omega)) (by omega) (by omega)];rfl
    |false=>rfl
def addN(ab:List ByteArray)(name:ByteArray)(bad:Bool):List ByteArray:=bif bad&&!(ab.any (iz name))then ab++[name]else ab
theorem aa2(ab:List ByteArray)(name:ByteArray)(bad:Bool):(addN ab name bad).length<=ab.length+1:=by
 unfold addN;cases (bad&&!(ab.any (iz name)))<;>simp
theorem aa3{name:ByteArray}{bad:Bool}{ab:List ByteArray}(hl:ab.length<=1000)(hn:2000<=n):ja n name bad ab=some (addN ab name bad):=by
 have hmx:maxLen=9223372036854775807:=rfl;have hap:bP ab.length ab.length (sub [name] 0 1).length 1 16=true:=by simp[bP,sub];omega
 simp only[ja,cB,aH,aj,rY (n:=n) (l:=ab) (a:=name) (by omega) (by omega),af,addN,hap,eX];cases bad with
 |false=>rfl
 |true=>cases (ab.any (iz name))<;>rfl
def AY(t:dS)(d:aP):Bool:=(gq d).any λv=>!OA t.b9 d.lot (lC v)
def Xc:ByteArray:=⟨#[101,97,115,101,109,101,110,116]⟩
def M7(n:Nat)(t:dS)(lot:fU)(d:aP)(l:List aO):List ByteArray:=l.foldl (λ ab r=>addN ab r.name (uI n t lot d r)) []
theorem Iq(f:aO->Bool):∀(l:List aO)(ab:List ByteArray),(l.foldl (λ ab r=>addN ab r.name (f r)) ab).length<=ab.length+l.length
 |[],ab=>by simp
 |r::l,ab=>by
  have h1:=Iq f l (addN ab r.name (f r));have h2:=aa2 ab r.name (f r);rw[foldl_cons,bI];omega
def applied(t:dS)(lot:fU)(day:Int):List aO:=t.aE.filter (pJ (sS t lot) day)
def lD(t:dS)(d:aP):fU:=(lM t.land d.lot).1
def iC(n:Nat)(t:dS)(d:aP)(day:Int):List ByteArray:=bif jA n t d==0 then addN (M7 n t (lD t d) d (applied t (lD t d) day)) Xc (AY t d)else []
theorem vX{t:dS}{d:aP}(day:Int)(ht:TH t)(hd:Vo d)(hn:Vp n):fq n t d day=some (iC n t d day,jA n t d):=by
 obtain⟨hk,hv⟩:=look_eq (n:=n) ht hd hn;have hn1:=hn.1;have hvl:=GI hd.1;simp only[fq,hk,af,iC];by_cases h0:jA n t d=0
 ·have xF:(jA n t d==0)=true:=by simp[h0]
  have L2:(jA n t d !=0)=false:=by simp[h0]
  have hw:=M4 ht.lots d.lot;have hz:=TJ ht (lD t d);have hA:ru n (bZ.mk t.ci t.b7 t.b8 t.aE t.cm t.cd t.cw t.cg) (sS t (lD t d)) day=some ((M0 t.aE (sS t (lD t d)) day).map λ(i:Nat)=>(i:Int)):=O6 _ _ _ (λ r hr=>(ht.rule r hr).1) ht.rules hz (by omega);have hal:(M0 t.aE (sS t (lD t d)) day).length<=100:=Nat.le_trans (List.length_filter_le _ _) (by rw[List.length_range];exact ht.rules);have hpick:(M0 t.aE (sS t (lD t d)) day).filterMap (λ i=>t.aE[i]?)=applied t (lD t d) day:=OC (pJ (sS t (lD t d)) day) t.aE;have hloop:∀A:List Nat,A.length<=100->(∀ i∈A,i<t.aE.length)->iter (lX n t (pS t (lD t d) d,jA n t d) (A.map λ(i:Nat)=>(i:Int))) n ((0:Int),([]:List ByteArray))=some (M7 n t (lD t d) d (A.filterMap λi=>t.aE[i]?)):=by
   intro A hA hAr
   have key:=fE (l:=A) (step:=lX n t (pS t (lD t d) d,jA n t d) (A.map λ(i:Nat)=>(i:Int))) (λ i (s:List ByteArray)=>((i:Int),s)) (λ i s=>match t.aE[i]? with
    |some r=>addN s r.name (uI n t (lD t d) d r)
    |none=>s) (λ s=>s) (λ i s=>s.length<=i) (λ i hi s hs=>by
    have hr:=hAr _ (getElem_mem hi);have hlm:(A.map λ(i:Nat)=>(i:Int)).length=A.length:=(by simp);have hg:bz (A.map λ(i:Nat)=>(i:Int)) (((0:Nat):Int)+(i:Int))=some ((A[i]:Nat):Int):=(by rw[bJ (by omega)];simp);have hrr:=ht.rule _ (getElem_mem hr);have hb:=Xb (n:=n) (t:=t) (lot:=lD t d) (d:=d) ht hw.1 hd (hv h0) hrr.2 hn;have e:=cZ hr;simp only[lX,hlm,dK hi,aj,bF hi,hg,af,bq hr,hb,aH,aa3 (n:=n) (name:=t.aE[A[i]].name) (bad:=uI n t (lD t d) d t.aE[A[i]]) (ab:=s) (by omega) (by omega),aV i,e];exact⟨trivial,Nat.le_trans (aa2 _ _ _) (by omega)⟩) (λ s _=>by
    have hlm:(A.map λ(i:Nat)=>(i:Int)).length=A.length:=(by simp);simp only[lX,hlm,fe,ak,aH,aj]) n (by omega) [] (aB _)
   rw[show ((0:Nat):Int)=0 from rfl]at key;rw[key];congr 1;unfold M7;generalize ([]:List ByteArray)=s0;clear key hA
   induction A generalizing s0 with
   |nil=>rfl
   |cons a A ih=>
    have ha:=hAr a (by simp);rw[foldl_cons,List.filterMap_cons];simp only[cZ ha];rw[foldl_cons];exact ih (λ i hi=>hAr i (by simp[hi])) _
  have hlo:=hloop (M0 t.aE (sS t (lD t d)) day) hal (λ i hi=>by
   have:=(List.mem_filter.1 hi).1;simpa using this)
  rw[hpick]at hlo;have hrl:(M7 n t (lD t d) d (applied t (lD t d) day)).length<=100:=by
   have h1:=Iq (uI n t (lD t d) d) (applied t (lD t d) day) [];have h2:(applied t (lD t d) day).length<=100:=Nat.le_trans (List.length_filter_le _ _) ht.rules;unfold M7;simp only[length_nil]at h1;omega
  have hany:gm n (pS t (lD t d) d) (λ (y1:aC×Unit)=>lW n y1.1 t d)=some (AY t d):=by
   have hs:∀v,lW n v t d=some (!OA t.b9 d.lot (lC v)):=by
    intro v;have hl1:(lC v).length=1:=rfl;have h:=Vj (n:=n) (l:=t.b9) (lot:=d.lot) (s:=lC v) ht.G3.1 ht.G3.2 (by simp[lC]) (by omega);simp only[lW,aa0,af,cB,aH,aj,h]
   simp only[gm,show(pS t (lD t d) d).az=gq d from rfl];rw[fD (λ v=>!OA t.b9 d.lot (lC v)) (λ v _=>hs v) (by omega) (by omega)];rfl
  have hsc:pS t (lM t.land d.lot).1 d=pS t (lD t d) d:=rfl;simp only[xF,L2,aj,ak,hsc,show(pS t (lD t d) d).zones=sS t (lD t d)from rfl,hA,af,length_nil,aH,hlo,hany,aa3 (n:=n) (name:=⟨#[101,97,115,101,109,101,110,116]⟩) (bad:=AY t d) (ab:=M7 n t (lD t d) d (applied t (lD t d) day)) (by omega) (by omega),cB];rw[h0];rfl
 ·have xF:(jA n t d==0)=false:=by simpa using h0
  have L2:(jA n t d !=0)=true:=by simpa using h0
  simp only[xF,L2,aj,ak]
theorem GJ{t:dS}{d:aP}{r:aO}(ht:TH t)(hd:Vo d)(hr:(toE (ix r)).wt<=4000000)(hn:Vp n):fu n t d r=some ((jA n t d==0)&&uI n t (lD t d) d r):=by
 obtain⟨hk,hv⟩:=look_eq (n:=n) ht hd hn;have hw:=M4 ht.lots d.lot;simp only[fu,hk,af];by_cases h0:jA n t d=0
 ·have xF:(jA n t d==0)=true:=by simp[h0]
  have hb:=Xb (n:=n) (t:=t) (lot:=lD t d) (d:=d) (r:=r) ht hw.1 hd (hv h0) hr hn;have hsc:pS t (lM t.land d.lot).1 d=pS t (lD t d) d:=rfl;simp only[xF,aj,hsc,hb,af,Bool.true_and]
 ·have xF:(jA n t d==0)=false:=by simpa using h0
  simp only[xF,ak,Bool.false_and]
theorem afE{t:dS}{d:aP}(day:Int)(ht:TH t)(hd:Vo d)(hn:Vp n):tN n t d day=some ((jA n t d==0)&&decide (iC n t d day=[])):=by
 simp only[tN,vX day ht hd hn,af];cases (jA n t d==0)with
 |false=>rfl
 |true=>
  simp only[aj,Bool.true_and];cases iC n t d day with
  |nil=>rfl
  |cons x l=>
   have:(((x::l).length:Nat):Int)≠0:=(by simp;omega);rw[beq_eq_false_iff_ne.2 this];simp
theorem yR{α:Type}{l:List α}{K n:Nat}{step:Int->Option (Int⊕(Unit⊕Bool))}{good:α->Prop}(h1:∀i (hi:i<l.length),i<K->step (i:Int)=some (.inr (.inr false))\/(step (i:Int)=some (.inl ((i+1:Nat):Int))/\good l[i]))
 (h2:∀i:Nat,(¬ i<l.length\/¬i<K)->step (i:Int)=some (.inr (.inl ()))) (hn:K+1<n):iter step n (0:Int)=some (.inr false)\/(iter step n (0:Int)=some (.inl ())/\(l.length<=K->∀x∈l,good x)):=by
 obtain⟨o,g1,g2⟩:=dZ (step:=step) (λ i (v:Int)=>v=(i:Int)/\i<=l.length/\i<=K/\∀x∈l.take i,good x) (λ o=>o= .inr false\/(o= .inl ()/\(l.length<=K->∀x∈l,good x))) K (λ k v h=>h.2.2.1) (by
  rintro i v ⟨rfl,hi,hK,hall⟩;by_cases hlt:i<l.length/\i<K
  ·rcases h1 i hlt.1 hlt.2 with h |⟨h,hg⟩
   ·exact .inr ⟨_,h,.inl rfl⟩
   ·refine .inl ⟨_,h,rfl,hlt.1,hlt.2,λx hx=>?_⟩;rw[List.take_add_one,cZ hlt.1,aY]at hx;rcases hx with hx |hx
    ·exact hall x hx
    ·simp at hx;subst hx;exact hg
  ·refine .inr ⟨_,h2 i (by omega),.inr ⟨rfl,λhl x hx=>hall x ?_⟩⟩;rw[take_of_length_le (by omega)];exact hx) n 0 0 ⟨rfl,Nat.zero_le _,Nat.zero_le _,by simp⟩ (by omega)
 rcases g2 with rfl |⟨rfl,g2⟩
 ·exact .inl g1
 ·exact .inr ⟨g1,g2⟩
theorem TK(hn:4000002<=n):∀(m:Nat)(e:bH)(most:Int)(L:Nat),(toE e).wt<=4000000->0<=most->most<=1000->L<=100->L+1<=m->∃r,qF n m e most (L:Int)=some r/\1<=r/\r<=most+1
 | 0,_,_,_,_,_,_,_,h=>absurd h (by omega)
 |m+1,e,most,L,hw,h0,h1,hL,hm=>by
  have hla:=YC e;show ∃r,yK n (qF n m) e most (L:Int)=some r/\_;simp only[yK];by_cases hL1:(L:Int)<1
  ·simp only[hL1,decide_true,aj];rw[cK (by omega) (by omega)];exact⟨most+1,rfl,by omega,by omega⟩
  ·simp only[hL1,decide_false,ak];obtain⟨o,g1,g2,g3⟩:=dZ (step:=rF (qF n m) e most (L:Int)) (λ i (v:Int×Int)=>v.2=(i:Int)/\i<=e.args.length/\1<=v.1/\v.1<=most+1) (λ o=>1<=o/\o<=most+1) e.args.length (λ k v h=>h.2.1) (by
    rintro i ⟨v1,v2⟩ ⟨hv,hi,i1,i2⟩;simp only at hv i1 i2;subst hv;by_cases hlt:i<e.args.length
    ·by_cases hle:v1<=most
     ·left;have hwx:=PA (getElem_mem hlt);obtain⟨r,r1,r2,r3⟩:=TK hn m e.args[i] (most -v1) (L -1) (by omega) (by omega) (by omega) (by omega) (by omega);have eL:i64.wrap ((L:Int) -1)=((L -1:Nat):Int):=lQ (by omega) (by omega);refine⟨(v1+r,((i+1:Nat):Int)),?_,rfl,hlt,by show 1<=v1+r;omega,by show v1+r<=_;omega⟩;simp only[rF,show decide ((i:Int)<(e.args.length:Int))=true from by simp;omega,aj,hle,decide_true,af,bq hlt,cK (show -9223372036854775808<=most -v1 by omega) (show most -v1<=9223372036854775807 by omega),eL,r1,cK (show -9223372036854775808<=v1+r by omega) (show v1+r<=9223372036854775807 by omega),aV i]
     ·right;refine⟨v1,?_,i1,i2⟩;simp only[rF,show decide ((i:Int)<(e.args.length:Int))=true from by simp;omega,aj,hle,decide_false,af,ak]
    ·right;refine⟨v1,?_,i1,i2⟩;simp only[rF,show decide ((i:Int)<(e.args.length:Int))=false from by simp;omega,ak,af]) n 0 ((1:Int),(0:Int)) ⟨rfl,Nat.zero_le _,by simp,by show(1:Int)<=_;omega⟩ (by omega)
   simp only[g1,af];exact⟨o,rfl,g2,g3⟩
def PQ(l:List aO):Prop:=∀r∈l,(toE (ix r)).wt<=4000000
structure Hs(t:dS):Prop where
 defs:gb t.ci
 rules:PQ t.aE
 vj:∀l∈t.land,l.from_.length*8<=140737488355328
theorem o8(i len K:Nat){k:Int}(hk:k=(K:Int)):((bif (decide ((i:Int)<(len:Int)))then some (decide ((i:Int)<k))else some false):Option Bool)=some (decide (i<len/\i<K)):=by
 subst hk;by_cases h1:i<len<;>by_cases h2:i<K<;>simp[h1,h2]
theorem ahJ{l:List aO}(hw:PQ l)(hn:Vp n):∃b,Gz n l=some b/\(b=true->l.length<=6/\∀r∈l,I6 r):=by
 obtain⟨hn1,hn2⟩:=hn;have h:=yR (l:=l) (K:=7) (n:=n) (step:=vK n l) (good:=I6) (λ i hi hK=>by
  obtain⟨r,hr,_,_⟩:=TK (n:=n) (by omega) n (ix l[i]) 40 14 (hw _ (getElem_mem hi)) (by omega) (by omega) (by omega) (by omega);have hr':AJ n (bH.mk l[i].j7 l[i].lr l[i].lp l[i].ik l[i].fj) 40 14=some r:=hr;have e:=o8 i l.length 7 (k:=7) rfl;simp only[vK,e,show decide (i<l.length/\i<7)=true from by simp[hi,hK],af,aj,bq hi,hr',aV i];by_cases c1:r>40
  ·left;simp only[c1,decide_true,aj,af];rfl
  ·by_cases c2:(l[i].zones.length:Int)>6
   ·left;simp only[c1,c2,decide_true,decide_false,aj,ak,af];rfl
   ·by_cases c3:(l[i].except.length:Int)>6
    ·left;simp only[c1,c2,c3,decide_true,decide_false,aj,ak,af];rfl
    ·right;simp only[c1,c2,c3,decide_false,ak,af];exact⟨trivial,by omega,by omega⟩) (λ i h=>by
  have e:=o8 i l.length 7 (k:=7) rfl;simp only[vK,e,show decide (i<l.length/\i<7)=false from by simp;omega,af,ak]) (by omega)
 simp only[Gz];rcases h with h |⟨h,h2⟩
 ·simp only[h,fQ];exact⟨false,rfl,λh=>(by cases h)⟩
 ·simp only[h,dQ];exact⟨_,rfl,λhb=>by
   have:(l.length:Int)<=6:=(by simpa using hb);exact⟨by omega,h2 (by omega)⟩⟩
theorem aiP{p:bZ}(hd:gb p.defs)(hw:PQ p.rules)(hn:Vp n):∃b,Ky n p=some b/\(b=true->(p.tables.length<=4/\∀t∈p.tables,t.rows.length<=8)/\p.zones.length<=5/\p.caps.length<=3/\p.rules.length<=6/\∀r∈p.rules,I6 r):=by
 have hn':=hn;obtain⟨hn1,hn2⟩:=hn;have s1:=yR (l:=p.defs) (K:=6) (n:=n) (step:=yL n p) (good:=λ_=>True) (λ i hi hK=>by
  obtain⟨r,hr,_,_⟩:=TK (n:=n) (by omega) n _ 40 14 (hd.body (getElem_mem hi)) (by omega) (by omega) (by omega) (by omega);have hr':AJ n (bH.mk p.defs[i].gR p.defs[i].kB p.defs[i].jp p.defs[i].gz p.defs[i].ed) 40 14=some r:=hr;have e:=o8 i p.defs.length 6 (k:=6) rfl;simp only[yL,e,show decide (i<p.defs.length/\i<6)=true from by simp[hi,hK],af,aj,bq hi,hr',aV i];cases decide (r>40)with
  |true=>exact .inl rfl
  |false=>exact .inr ⟨rfl,trivial⟩) (λ i h=>by
  have e:=o8 i p.defs.length 6 (k:=6) rfl;simp only[yL,e,show decide (i<p.defs.length/\i<6)=false from by simp;omega,af,ak]) (by omega)
 have s2:=yR (l:=p.tables) (K:=5) (n:=n) (step:=yM p) (good:=λt=>t.rows.length<=8) (λ i hi hK=>by
  have e:=o8 i p.tables.length 5 (k:=5) rfl;simp only[yM,e,show decide (i<p.tables.length/\i<5)=true from by simp[hi,hK],af,aj,bq hi,aV i];by_cases c1:(p.tables[i].rows.length:Int)>8
  ·left;simp only[c1,decide_true,aj];rfl
  ·right;simp only[c1,decide_false,ak];exact⟨trivial,by omega⟩) (λ i h=>by
  have e:=o8 i p.tables.length 5 (k:=5) rfl;simp only[yM,e,show decide (i<p.tables.length/\i<5)=false from by simp;omega,af,ak]) (by omega)
 have s3:=yR (l:=p.zones) (K:=6) (n:=n) (step:=yN p) (good:=λ_=>True) (λ i hi hK=>by
  have e:=o8 i p.zones.length 6 (k:=6) rfl;simp only[yN,e,show decide (i<p.zones.length/\i<6)=true from by simp[hi,hK],af,aj,bq hi,aV i];cases decide ((p.zones[i].corners.length:Int)>12)with
  |true=>exact .inl rfl
  |false=>exact .inr ⟨rfl,trivial⟩) (λ i h=>by
  have e:=o8 i p.zones.length 6 (k:=6) rfl;simp only[yN,e,show decide (i<p.zones.length/\i<6)=false from by simp;omega,af,ak]) (by omega)
 have s4:=yR (l:=p.caps) (K:=4) (n:=n) (step:=yO p) (good:=λ_=>True) (λ i hi hK=>by
  have e:=o8 i p.caps.length 4 (k:=4) rfl;simp only[yO,e,show decide (i<p.caps.length/\i<4)=true from by simp[hi,hK],af,aj,bq hi,aV i];cases decide ((p.caps[i].corners.length:Int)>12)with
  |true=>exact .inl rfl
  |false=>exact .inr ⟨rfl,trivial⟩) (λ i h=>by
  have e:=o8 i p.caps.length 4 (k:=4) rfl;simp only[yO,e,show decide (i<p.caps.length/\i<4)=false from by simp;omega,af,ak]) (by omega)
 have no:∃b,some false=some b/\(b=true->(p.tables.length<=4/\∀t∈p.tables,t.rows.length<=8)/\p.zones.length<=5/\p.caps.length<=3/\p.rules.length<=6/\∀r∈p.rules,I6 r):=⟨false,rfl,λh=>(by cases h)⟩;have⟨b,hb,hb2⟩:=ahJ (n:=n) hw hn';simp only[Ky];rcases s1 with h |⟨h,_⟩
 ·simpa only[h,fQ]using no
 rcases s2 with h2 |⟨h2,ht⟩
 ·simpa only[h,h2,fQ,dQ]using no
 rcases s3 with h3 |⟨h3,_⟩
 ·simpa only[h,h2,h3,fQ,dQ]using no
 rcases s4 with h4 |⟨h4,_⟩
 ·simpa only[h,h2,h3,h4,fQ,dQ]using no
 simp only[h,h2,h3,h4,dQ];by_cases c1:(p.defs.length:Int)<=5
 ·by_cases c2:(p.tables.length:Int)<=4
  ·by_cases c3:(p.zones.length:Int)<=5
   ·by_cases c4:(p.caps.length:Int)<=3
    ·simp only[c1,c2,c3,c4,decide_true,aj,hb,af];exact⟨b,rfl,λh=>⟨⟨by omega,ht (by omega)⟩,by omega,by omega,hb2 h⟩⟩
    ·simpa only[c1,c2,c3,c4,decide_true,decide_false,aj,ak]using no
   ·simpa only[c1,c2,c3,decide_true,decide_false,aj,ak]using no
  ·simpa only[c1,c2,decide_true,decide_false,aj,ak]using no
 ·simpa only[c1,decide_false,ak]using no
structure Th(t:dS)(d:aP):Prop where
 town:TH t
 draw:Vo d
 built:t.built.length<=8
 rules:t.aE.length<=6
theorem ahK{t:dS}{d:aP}(hz:Hs t)(hn:Vp n):∃b,Qo n t d=some b/\(b=true->Th t d):=by
 have hn':=hn;obtain⟨hn1,hn2⟩:=hn;have s1:=yR (l:=t.land) (K:=5) (n:=n) (step:=Cu t) (good:=λx=>x.area.length<=6) (λ i hi hK=>by
  have e:=o8 i t.land.length 5 (k:=5) rfl;simp only[Cu,e,show decide (i<t.land.length/\i<5)=true from by simp[hi,hK],af,aj,bq hi,aV i];by_cases c1:(t.land[i].area.length:Int)>6
  ·left;simp only[c1,decide_true,aj];rfl
  ·right;simp only[c1,decide_false,ak];exact⟨trivial,by omega⟩) (λ i h=>by
  have e:=o8 i t.land.length 5 (k:=5) rfl;simp only[Cu,e,show decide (i<t.land.length/\i<5)=false from by simp;omega,af,ak]) (by omega)
 have s2:=yR (l:=t.b9) (K:=4) (n:=n) (step:=Cv t) (good:=λx=>x.area.length<=6) (λ i hi hK=>by
  have e:=o8 i t.b9.length 4 (k:=4) rfl;simp only[Cv,e,show decide (i<t.b9.length/\i<4)=true from by simp[hi,hK],af,aj,bq hi,aV i];by_cases c1:(t.b9[i].area.length:Int)>6
  ·left;simp only[c1,decide_true,aj];rfl
  ·right;simp only[c1,decide_false,ak];exact⟨trivial,by omega⟩) (λ i h=>by
  have e:=o8 i t.b9.length 4 (k:=4) rfl;simp only[Cv,e,show decide (i<t.b9.length/\i<4)=false from by simp;omega,af,ak]) (by omega)
 have s3:=yR (l:=d.phases) (K:=4) (n:=n) (step:=Cw d) (good:=λx=>x.az.length<=3/\x.gives.length<=3) (λ i hi hK=>by
  have e:=o8 i d.phases.length 4 (k:=4) rfl;simp only[Cw,e,show decide (i<d.phases.length/\i<4)=true from by simp[hi,hK],af,aj,bq hi,aV i];by_cases c1:(d.phases[i].az.length:Int)>3
  ·left;simp only[c1,decide_true,aj,af];rfl
  ·by_cases c2:(d.phases[i].gives.length:Int)>3
   ·left;simp only[c1,c2,decide_true,decide_false,aj,ak,af];rfl
   ·right;simp only[c1,c2,decide_false,ak,af];exact⟨trivial,by omega,by omega⟩) (λ i h=>by
  have e:=o8 i d.phases.length 4 (k:=4) rfl;simp only[Cw,e,show decide (i<d.phases.length/\i<4)=false from by simp;omega,af,ak]) (by omega)
 have no:∃b,some false=some b/\(b=true->Th t d):=⟨false,rfl,λh=>(by cases h)⟩;obtain⟨b,hb,hb2⟩:=aiP (n:=n) (p:=bZ.mk t.ci t.b7 t.b8 t.aE t.cm t.cd t.cw t.cg) hz.defs hz.rules hn';simp only[Qo];rcases s1 with h |⟨h,hl⟩
 ·simpa only[h,fQ]using no
 rcases s2 with h2 |⟨h2,he⟩
 ·simpa only[h,h2,fQ,dQ]using no
 rcases s3 with h3 |⟨h3,hd⟩
 ·simpa only[h,h2,h3,fQ,dQ]using no
 simp only[h,h2,h3,dQ,hb,af];cases b with
 |false=>simpa only[ak]using no
 |true=>
  have⟨⟨t1,t2⟩,z1,c1,r1,r2⟩:=hb2 rfl;simp only at t1 t2 z1 c1 r1 r2;simp only[aj];by_cases d1:(t.land.length:Int)<=4
  ·by_cases d2:(t.b9.length:Int)<=3
   ·by_cases d3:(t.built.length:Int)<=8
    ·simp only[d1,d2,d3,decide_true,aj];refine⟨_,rfl,λh4=>?_⟩;have h4i:(d.phases.length:Int)<=3:=(by simpa using h4);have h4':d.phases.length<=3:=(by omega);have hl':=hl (by omega);have he':=he (by omega);have hd':=hd (by omega)
     exact⟨⟨λ l hm=>⟨by have:=hl' l hm;omega,hz.vj l hm⟩,by omega,⟨by omega,λe hm=>by have:=he' e hm;omega⟩,by omega,by omega,by omega,by omega,λr hm=>⟨r2 r hm,hz.rules r hm⟩,⟨hz.defs,⟨by show t.b7.length<=_;omega,λx hx=>by have:=t2 x hx;omega⟩⟩⟩,
      ⟨⟨by omega,λp hm=>by have:=(hd' p hm).1;omega⟩,λp hm=>by have:=(hd' p hm).2;omega⟩,by omega,r1⟩
    ·simpa only[d1,d2,d3,decide_true,decide_false,aj,ak]using no
   ·simpa only[d1,d2,decide_true,decide_false,aj,ak]using no
  ·simpa only[d1,decide_false,ak]using no
def UT(a b:List ByteArray):Bool:=decide (a.length=b.length)&&(a.zip b).all λp=>iz p.1 p.2
theorem ahM{a b:List ByteArray}(hl:a.length<=1000)(hn:2000<=n):AB n a b=some (UT a b):=by
 simp only[AB,UT];by_cases h:a.length=b.length
 ·have hne:((a.length:Int) !=(b.length:Int))=false:=by simp[h]
  have hd:decide (a.length=b.length)=true:=by simp[h]
  rw[hne,hd];simp only[ak,Bool.true_and];obtain⟨o,g1,g2⟩:=dZ (step:=vJ a b) (λ i (v:Int)=>v=(i:Int)/\i<=a.length/\((a.take i).zip (b.take i)).all (λ p=>iz p.1 p.2)=true) (λ o=>(o= .inr false/\(a.zip b).all (λ p=>iz p.1 p.2)=false)\/(o= .inl ()/\(a.zip b).all (λ p=>iz p.1 p.2)=true)) a.length (λ k v h=>h.2.1) (by
   rintro i v ⟨rfl,hi,hall⟩;by_cases hlt:i<a.length
   ·have hlb:i<b.length:=(by omega);simp only[vJ,show decide ((i:Int)<(a.length:Int))=true from by simp;omega,aj,bq hlt,bq hlb,af,aV i];cases he:(ByteArray.toList a[i]==ByteArray.toList b[i])with
    |false=>
     refine .inr ⟨_,rfl,.inl ⟨rfl,?_⟩⟩;rw[List.all_eq_false];exact⟨(a[i],b[i]),by rw[List.mem_iff_getElem];exact⟨i,by simp;omega,by simp⟩,by simp[iz,he]⟩
    |true=>
     refine .inl ⟨_,rfl,rfl,hlt,?_⟩;rw[List.take_add_one,List.take_add_one,cZ hlt,cZ hlb,List.zip_append (by simp;omega),List.all_append,hall];simp[iz,he]
   ·refine .inr ⟨.inl (),?_,.inr ⟨rfl,?_⟩⟩
    ·simp only[vJ,show decide ((i:Int)<(a.length:Int))=false from by simp;omega,ak]
    ·rw[take_of_length_le (by omega),take_of_length_le (by omega)]at hall;exact hall) n 0 0 ⟨rfl,Nat.zero_le _,by simp⟩ (by omega)
  rcases g2 with ⟨rfl,g2⟩ |⟨rfl,g2⟩
  ·simp only[g1,fQ,g2]
  ·simp only[g1,dQ,g2]
 ·have hne:((a.length:Int) !=(b.length:Int))=true:=by simpa using λe:(a.length:Int)=(b.length:Int)=>h (by omega)
  have hd:decide (a.length=b.length)=false:=by simp[h]
  rw[hne,hd];rfl
def NB:aC:=aC.mk 2 2 8 8 0 14 2 0 false
def Vq:aP:=aP.mk 1 [bU.mk [NB] []]
def z6:List aO:=[(aO.mk (⟨#[97]⟩) ([]) ([]) 0 0 0 false 0 12 0 (⟨#[]⟩) (⟨#[]⟩) [(bH.mk 1 0 (⟨#[104,101,105,103,104,116]⟩) (⟨#[]⟩) ([])),(bH.mk 0 12 (⟨#[]⟩) (⟨#[]⟩) ([]))] 0 0 0 0 0 0 0),(aO.mk (⟨#[98]⟩) ([]) ([]) 0 0 0 false 1 0 0 (⟨#[]⟩) (⟨#[]⟩) ([]) 0 9 3 1 0 0 0),(aO.mk (⟨#[99]⟩) ([]) ([]) 0 0 0 false 1 0 0 (⟨#[]⟩) (⟨#[]⟩) ([]) 0 9 1 1 0 0 0),(aO.mk (⟨#[100]⟩) ([]) ([]) 0 0 0 false 2 0 0 (⟨#[]⟩) (⟨#[]⟩) ([]) 0 0 0 0 5 0 0),(aO.mk (⟨#[101]⟩) ([]) ([]) 0 0 0 false 3 0 0 (⟨#[]⟩) (⟨#[]⟩) ([]) 0 0 0 0 2 0 5)]
def SU:fU:=fU.mk 1 0 [ax.mk 0 0 10 10] []
def Dx:dS:=dS.mk [] [] [] z6 [] [] [] 0 [SU] [] [] [cO.mk 2 12 2 14 4 0 3 0 0 false] []
theorem Qu:TH Dx where
 lots:=λl hl=>by
  simp only[Dx,aT]at hl;subst hl;exact⟨by decide,by decide⟩
 land:=by decide
 G3:=⟨by decide,λe he=>by simp[Dx]at he⟩
 built:=by decide
 zones:=by decide
 caps:=by decide
 rules:=by decide
 rule:=λr hr=>by
  simp only[Dx,z6,aN,fO,or_false]at hr;rcases hr with rfl |rfl |rfl |rfl |rfl<;>exact⟨⟨by decide,by decide⟩,Nat.le_of_ble_eq_true (by kernel_rfl)⟩
 plan:=⟨Nat.le_of_ble_eq_true (by kernel_rfl),⟨by decide,λx hx=>by simp[lf,Dx]at hx⟩⟩
theorem Qv(lot:Int)(ps:List bU)(h:ps=[bU.mk [NB] []]\/ps=[]):Vo (aP.mk lot ps):=by
 rcases h with rfl |rfl
 ·refine⟨⟨by simp,λp hp=>?_⟩,λp hp=>?_⟩<;> · simp only[aT]at hp;subst hp;decide
 ·refine⟨⟨by simp,λp hp=>?_⟩,λp hp=>?_⟩<;>simp at hp
theorem Fo:Vp 5000003:=⟨aB _,by omega⟩
theorem aiQ:Gy 5000003=some true:=by
 have b1:=vX (n:=5000003) (t:=Dx) (d:=Vq) 7 Qu (Qv 1 _ (.inl rfl)) Fo;have b2:=vX (n:=5000003) (t:=Dx) (d:=aP.mk 3 []) 7 Qu (Qv 3 _ (.inr rfl)) Fo;have v1:iC 5000003 Dx Vq 7=[⟨#[97]⟩,⟨#[99]⟩,⟨#[101]⟩]:=by kernel_rfl
 have v2:jA 5000003 Dx Vq=0:=by kernel_rfl
 have v3:jA 5000003 Dx (aP.mk 3 [])=4:=by kernel_rfl
 have v4:iC 5000003 Dx (aP.mk 3 []) 7=[]:=by kernel_rfl
 have c:=λ(r:aO)(h:(toE (ix r)).wt<=4000000)=>GJ (n:=5000003) (t:=Dx) (d:=Vq) (r:=r) Qu (Qv 1 _ (.inl rfl)) h Fo;have c1:=c (z6[0]'(by decide)) (Nat.le_of_ble_eq_true (by kernel_rfl));have c2:=c (z6[1]'(by decide)) (Nat.le_of_ble_eq_true (by kernel_rfl));have w1:uI 5000003 Dx (lD Dx Vq) Vq (z6[0]'(by decide))=true:=by kernel_rfl
 have w2:uI 5000003 Dx (lD Dx Vq) Vq (z6[1]'(by decide))=false:=by kernel_rfl
 have l1:=afE (n:=5000003) (t:=Dx) (d:=Vq) 7 Qu (Qv 1 _ (.inl rfl)) Fo;rw[v1,v2]at b1;rw[v3,v4]at b2;rw[v2,w1]at c1;rw[v2,w2]at c2;rw[v2,v1]at l1;have hnm:AB 5000003 [⟨#[97]⟩,⟨#[99]⟩,⟨#[101]⟩] [⟨#[97]⟩,⟨#[99]⟩,⟨#[101]⟩]=some true:=by rw[ahM (by decide) (by decide)];kernel_rfl
 simp only[Dx,Vq,z6,SU,NB]at b1 b2 c1 c2 l1;simp only[List.getElem_cons_zero,List.getElem_cons_succ]at c1 c2;simp only[Gy,Ym,af,sub,List.drop_zero,List.take_succ_cons,List.take_zero,bI,length_nil,Nat.zero_add,Nat.reduceAdd,aH,aj];have a0:∀(x:aO)(l:List aO),bz (x::l) (((0:Nat):Int)+0)=some x:=λ_ _=>rfl;have a1:∀(x y:aO)(l:List aO),bz (x::y::l) (((0:Nat):Int)+1)=some y:=λ_ _ _=>rfl;simp only[b1,b2,af,bI,length_nil,Nat.zero_add,Nat.reduceAdd,List.take_succ_cons,List.take_zero,hnm,aH,aj,show((0:Int)==0)=true from rfl,show((4:Int)==4)=true from rfl,show cH 0 5=true from rfl,show cH 1 5=true from rfl,a0,a1,c1,c2,l1];rfl
theorem aa4{r:ax}(h:dC r=true):pj [r]=([r],0):=by
 have hx:=aki h;have hy:=To h;have e1:fK [r]=[r.x0,r.x1]:=by
  unfold fK;refine(aag (List.Pairwise.cons (by simpa using hx) (List.pairwise_singleton _ _)) λz=>?_).symm;simp
 have e2:bV [r] r.x0=[⟨r.y0,r.y1⟩]:=by
  unfold bV iT;have:(decide (r.x0<=r.x0)&&decide (r.x0<r.x1))=true:=by simp[hx]
  simp only[List.filter_cons,this,if_true,List.filter_nil,aF,map_nil];rfl
 have e3:lu (aZ [r])=[r]:=by
  unfold aZ;rw[e1];simp only[iq,e2,lu,wc,zi,aF,map_nil]
 unfold pj;rw[e3];have:([r].all dC)=true:=by simpa using h
 rw[this];simp
theorem YI{r:ax}(h:dC r=true):cC [r]=true:=by
 unfold cC;rw[aa4 h];simp
theorem vP{v:aC}(h:okV v=true):zo (lC v)=true:=by
 have hb:=KQ h;simp only[okV,aJ,aR]at h;rw[I7];refine⟨by simp[lC],λx hx=>?_,λi hi=>by simp[lC]at hi⟩;have:x=⟨v.cP,v.cz,[fI v]⟩:=by simpa[lC]using hx
 rw[this];exact⟨h.2.1,h.2.2.1,h.2.2.2.1,by simp,YI hb⟩
mutual
theorem aiR:∀g:bH,(toE g).wt<=jZ (pQ g)
 |⟨op,n,s,key,args⟩=>by
  have:=KT args;simp only[toE,ET.wt,pQ,jZ,mL];omega
theorem KT:∀l:List bH,ET.rx (Fh l)<=y9 (qV l)
 |[]=>by simp[Fh,ET.rx]
 |x::xs=>by
  have h1:=aiR x;have h2:=KT xs;simp only[Fh,ET.rx,qV,y9];omega
end
theorem Xd:∀l:List eH,pN (l.map toD)<=y9 (l.map Cc)
 |[]=>by simp[pN]
 |x::xs=>by
  have h1:=Xd xs;have h2:=KT x.ed;simp only[pN]at h1;simp only[aF,pN,List.foldr_cons,toD,ET.wt,y9,Cc,jZ,mL,<- qW];omega
theorem afF(t:dS):pN (t.ci.map toD)<=jZ (Gr t):=by
 have:=Xd t.ci;simp only[Gr,jZ,mL];omega
theorem TM{r:List Tree}:∀{l:List (List Tree)},r∈l->jZ r<=y9 l
 |x::l,h=>by
  rw[y9];rcases aN.1 h with rfl |h
  ·omega
  ·have:=TM h;omega
theorem afG(r:aO):(toE (ix r)).wt<=jZ (vo r):=by
 have h:=KT r.fj;rw[qW]at h;simp only[ix,toE,ET.wt,vo,jZ,mL];omega
theorem Xe:∀l:List Int,l.length<=y9 (l.map λy=>[Tree.sc (.int .i64 y)])
 |[]=>by simp
 |x::l=>by
  have:=Xe l;simp only[aF,y9,jZ,mL,bI];omega
theorem ajS{t:dS}(h:jZ (Gr t)<=1048576):Hs t:=by
 have hd:=Nat.le_trans (afF t) h;simp only[Gr,jZ,mL]at h;refine⟨by unfold gb;omega,λr hr=>?_,λl hl=>?_⟩
 ·have h1:=afG r;have h2:=TM (mem_map.2 ⟨r,hr,rfl⟩:vo r∈t.aE.map vo);omega
 ·have h1:=Xe l.from_;have h2:=TM (mem_map.2 ⟨l,hl,rfl⟩:IW l∈t.land.map IW);have h3:y9 (l.from_.map λy=>[Tree.sc (.int .i64 y)])<=jZ (IW l):=by simp only[IW,jZ,mL];omega
  omega
theorem ajT{cs:List (CT xx.ι)}(q:HL xx.toSE (.st SI.iS::cs))(hb:Rc (HL.l4 xx.toSE (.st SI.iS::cs) q)<=1048576):Hs q.1:=by
 have h2:jZ (Gr q.1)+Rc (HL.l4 xx.toSE cs q.2)<=1048576:=hb;exact ajS (by omega)
def KU(v:aC):aC:=aC.mk v.bm v.bx v.bk v.bu v.cP (i64.wrap (v.cz -1)) v.use v.units v.extra
theorem Tb{y:aC}(hy:okV y=true):(KU y).cz=y.cz -1:=by
 simp only[okV,aJ,aR]at hy;exact cK (by omega) (by omega)
theorem ahO{l:List lV}{lot:Int}{y:aC}(hx:okV (KU y)=true)(hy:okV y=true)(h:OA l lot (lC (KU y))=false):OA l lot (lC y)=false:=by
 have hz:=Tb hy;simp only[OA,vP hx,vP hy,Bool.true_and,Bool.not_eq_false']at h ⊢;obtain⟨e,h1,h2⟩:=any_eq_true.1 h;refine any_eq_true.2 ⟨e,h1,?_⟩;simp only[Fl,lC,List.any_cons,List.any_nil,Bool.or_false,aJ,aR]at h2 ⊢;exact⟨h2.1,h2.2.1,by omega,h2.2.2.2⟩
theorem adk{b:ax}{p:dI}{y:aC}(hx:okV (KU y)=true)(hy:okV y=true)(h:CK b p (KU y)=false):CK b p y=false:=by
 have hz:=Tb hy;simp only[CK,vP hx,vP hy,Bool.true_and]at h ⊢;cases hv:yQ b [p]with
 |false=>rfl
 |true=>
  rw[hv]at h;simp only[lC,List.any_cons,List.any_nil,Bool.or_false,Bool.true_and,Bool.not_eq_false',aR]at h ⊢;have e:vA b [p] [fI (KU y)]=vA b [p] [fI y]:=rfl;rw[e]at h;have h':vA b [p] [fI y] <(KU y).cz:=h;rw[hz]at h';show vA b [p] [fI y] <y.cz;omega
theorem GK{l l':List aC}{p:aC->Bool}(hm:∀x∈l',∃y∈l,x=y\/x=KU y)(hok:∀x∈l',okV x=true)(hok2:∀x∈l,okV x=true)(hp:∀y,okV (KU y)=true->okV y=true->p (KU y)=true->p y=true)(h:l'.any p=true):l.any p=true:=by
 obtain⟨x,h1,h2⟩:=any_eq_true.1 h;obtain⟨y,h3,rfl |rfl⟩:=hm x h1
 ·exact any_eq_true.2 ⟨_,h3,h2⟩
 ·exact any_eq_true.2 ⟨y,h3,hp y (hok _ h1) (hok2 y h3) h2⟩
theorem aa5{t:dS}{d d':aP}(hl:d'.lot=d.lot)(hv:∀v∈gq d,okV v=true)(hv':∀v∈gq d',okV v=true)(hm:∀x∈gq d',∃y∈gq d,x=y\/x=KU y):
 (AY t d'=true->AY t d=true)/\∀r lot,(r.kind==0)=false->uI n t lot d' r=true->uI n t lot d r=true:=by
 refine⟨λ h=>?_,λr lot hk h=>?_⟩
 ·unfold AY at h ⊢;rw[hl]at h;exact GK hm hv' hv (λ y h1 h2 h3=>by simp only[Bool.not_eq_true']at h3 ⊢;exact ahO h1 h2 h3) h
 ·unfold uI at h ⊢;rw[hk]at h ⊢;simp only[ak]at h ⊢;cases h1:r.kind==1 with
  |true=>
   rw[h1]at h;simp only[aj]at h ⊢;exact GK hm hv' hv (λ y h1 h2 h3=>by simp only[Bool.not_eq_true']at h3 ⊢;exact adk h1 h2 h3) h
  |false=>
   rw[h1]at h;simp only[ak]at h ⊢;cases h2:r.kind==2 with
   |true=>
    rw[h2]at h;simp only[aj]at h ⊢;exact GK hm hv' hv (λ y _ _ h3=>h3) h
   |false=>
    rw[h2]at h;simp only[ak]at h ⊢;cases h3:r.kind==3 with
    |true=>
     rw[h3]at h;simp only[aj]at h ⊢;rw[hl]at h;exact GK hm hv' hv (λ y _ _ h3=>h3) h
    |false=>rw[h3]at h;exact h
def iK(d:aP)(i:Nat)(q:bU):aP:=aP.mk d.lot (d.phases.set i q)
theorem KV{d:aP}(h:Vo d)(i:Nat){q:bU}(h1:q.az.length<=1000)(h2:q.gives.length<=1000):Vo (iK d i q):=by
 obtain⟨⟨a,b⟩,c⟩:=h;refine⟨⟨by simpa[iK]using a,λp hp=>?_⟩,λp hp=>?_⟩
 ·rcases List.mem_or_eq_of_mem_set hp with hp |rfl
  ·exact b p hp
  ·exact h1
 ·rcases List.mem_or_eq_of_mem_set hp with hp |rfl
  ·exact c p hp
  ·exact h2
theorem aa6{d:aP}{i:Nat}{q:bU}{x:aC}(h:x∈gq (iK d i q)):x∈gq d\/x∈q.az:=by
 obtain⟨p,h1,h2⟩:=mem_flatMap.1 h;rcases List.mem_or_eq_of_mem_set h1 with h1 |rfl
 ·exact .inl (mem_flatMap.2 ⟨p,h1,h2⟩)
 ·exact .inr h2
def lN(t:dS):dS:=dS.mk t.ci t.b7 t.b8 ([]) t.cm t.cd t.cw t.cg t.land t.b9 t.windows t.built t.base
theorem adl{t:dS}(h:TH t):TH (lN t):=⟨h.lots,h.land,h.G3,h.built,h.zones,h.caps,Nat.zero_le _,λr hr=>(by cases hr),h.plan⟩
theorem yS{t:dS}{d:aP}{day:Int}(h:jA n t d=0):(iC n (lN t) d day).length=bif AY t d then 1 else 0:=by
 have h1:(jA n (lN t) d==0)=true:=by rw[beq_iff_eq];exact h
 unfold iC;rw[h1];show(addN [] Xc (AY t d)).length=_;unfold addN;cases AY t d<;>rfl
theorem ahP{t:dS}{d:aP}{a3 a4:Int}{r3:List bU}{r5:List aC}{x3:bU}{r6:List bU}{r7:List aC}{x6 x7:aC}{x8:bU}{q1 q2:bU}{i:Nat}(ht:TH t)(hd:Vo d)(hn:Vp n)(hq1:q1.az.length<=1000/\q1.gives.length<=1000)(hq2:q2.az.length<=1000/\q2.gives.length<=1000)
 (e1:sub (r3.set (((0:Nat):Int)+a3:Int).toNat (bU.mk (sub r5 0 r5.length) x3.gives)) 0 r3.length=d.phases.set i q1) (e2:(d.phases.set i q1).length=r3.length)
 (e3:sub (r6.set (((0:Nat):Int)+a3:Int).toNat (bU.mk (sub (r7.set (((0:Nat):Int)+a4:Int).toNat (aC.mk x7.bm x7.bx x7.bk x7.bu x7.cP (i64.wrap (x6.cz -1)) x7.use x7.units x7.extra)) 0 r7.length) x8.gives)) 0 r6.length=d.phases.set i q2) (e4:(d.phases.set i q2).length=r6.length)
 (h0:jA n t d=0) (hu1:jA n t (iK d i q1)=0->∀r lot,(r.kind==0)=false->uI n t lot (iK d i q1) r=true->uI n t lot d r=true) (hu2:jA n t (iK d i q2)=0->∀r lot,(r.kind==0)=false->uI n t lot (iK d i q2) r=true->uI n t lot d r=true):
 iter (jS n t d a3 a4 r3 r5 x3 r6 r7 x6 x7 x8) n (0:Int)=some (.inl ()):=by
 have hr:=ht.rules;have hn1:=hn.1;refine AX (step:=jS n t d a3 a4 r3 r5 x3 r6 r7 x6 x7 x8) (λ k=>(k:Int)) t.aE.length (.inl ()) rfl (λ k hk=>?_) ?_ n (by omega)
 ·have hw:=(ht.rule _ (getElem_mem hk)).2;have b0:fu n t d t.aE[k]=some (uI n t (lD t d) d t.aE[k]):=by rw[GJ ht hd hw hn,h0];simp
  have b1:fu n t (aP.mk d.lot (d.phases.set i q1)) t.aE[k]=some ((jA n t (iK d i q1)==0)&&uI n t (lD t d) (iK d i q1) t.aE[k]):=GJ (d:=iK d i q1) ht (KV hd i hq1.1 hq1.2) hw hn;have b2:fu n t (aP.mk d.lot (d.phases.set i q2)) t.aE[k]=some ((jA n t (iK d i q2)==0)&&uI n t (lD t d) (iK d i q2) t.aE[k]):=GJ (d:=iK d i q2) ht (KV hd i hq2.1 hq2.2) hw hn;simp only[jS,dK hk,aj,bq hk,af,e1,e2,e3,e4,aH,b0,b1,b2,aV k];cases hk0:t.aE[k].kind==0 with
  |true=>rfl
  |false=>
   simp only[ak];cases hB:uI n t (lD t d) d t.aE[k]with
   |true=>
    cases ((jA n t (iK d i q1)==0)&&uI n t (lD t d) (iK d i q1) t.aE[k])<;>cases ((jA n t (iK d i q2)==0)&&uI n t (lD t d) (iK d i q2) t.aE[k])<;>rfl
   |false=>
    have f1:((jA n t (iK d i q1)==0)&&uI n t (lD t d) (iK d i q1) t.aE[k])=false:=by
     cases h:((jA n t (iK d i q1)==0)&&uI n t (lD t d) (iK d i q1) t.aE[k])with
     |false=>rfl
     |true=>
      rw[aJ,beq_iff_eq]at h;rw[hu1 h.1 _ _ hk0 h.2]at hB;cases hB
    have f2:((jA n t (iK d i q2)==0)&&uI n t (lD t d) (iK d i q2) t.aE[k])=false:=by
     cases h:((jA n t (iK d i q2)==0)&&uI n t (lD t d) (iK d i q2) t.aE[k])with
     |false=>rfl
     |true=>
      rw[aJ,beq_iff_eq]at h;rw[hu2 h.1 _ _ hk0 h.2]at hB;cases hB
    rw[f1,f2];rfl
 ·simp only[jS,fe,ak]
theorem M8(t:dS)(d:aP)(day a3 a4:Int)(hz:Hs t):p9 5000003 t d day a3 a4=some true:=by
 have hn:=Fo;have⟨b,hb,Kx⟩:=ahK (n:=5000003) (t:=t) (d:=d) hz hn;unfold p9;rw[aiQ,hb];simp only[af];cases b with
 |false=>rfl
 |true=>
  have⟨ht,hd,_,_⟩:=Kx rfl;simp only[Bool.not_true,ak];by_cases c1:a3<0
  ·simp only[c1,decide_true,aj,af]
  by_cases c2:a3>=(d.phases.length:Int)
  ·simp only[c1,c2,decide_true,decide_false,aj,ak,af]
  by_cases c3:a4<0
  ·simp only[c1,c2,c3,decide_true,decide_false,aj,ak,af]
  obtain⟨i,rfl⟩:∃i:Nat,a3=(i:Int):=⟨a3.toNat,by omega⟩;obtain⟨j,rfl⟩:∃j:Nat,a4=(j:Int):=⟨a4.toNat,by omega⟩;have hi:i<d.phases.length:=by omega
  have hP:bz d.phases (i:Int)=some d.phases[i]:=bq hi;have hPz:bz d.phases (((0:Nat):Int)+(i:Int))=some d.phases[i]:=bJ hi;have Lw:d.phases[i]∈d.phases:=getElem_mem hi;have hii:=bF hi;generalize d.phases[i]=P at*;have hPl:=hd.1.2 P Lw;have R0:=hd.2 P Lw;by_cases c4:(j:Int)>=(P.az.length:Int)
  ·simp only[c1,c2,c3,c4,hP,decide_true,decide_false,aj,ak,af]
  have hj:j<P.az.length:=by omega
  have hV:bz P.az (((0:Nat):Int)+(j:Int))=some P.az[j]:=bJ hj;have RW:P.az[j]∈P.az:=getElem_mem hj;have hjj:=bF hj;have hVs:P.az[j]=P.az[j]:=rfl;generalize P.az[j]=v at hV RW;have hpl:=hd.1.1;have hmx:maxLen=9223372036854775807:=rfl;have ap1:bP 0 0 d.phases.length d.phases.length 48=true:=dm (by omega) (by omega);have so1:uL 0 (j:Int) P.az.length=true:=qw (by omega) (by omega) (by omega);have s1:sub P.az 0 ((j:Int).toNat)=P.az.take j:=by rw[agK,Int.toNat_natCast]
  have l1:(P.az.take j).length=j:=by rw[List.length_take];omega
  have ap2:bP 0 0 j j 72=true:=dm (by omega) (by omega);have w1:i64.wrap ((j:Int)+1)=((j+1:Nat):Int):=bD (by omega);have so2:uL ((j+1:Nat):Int) (P.az.length:Int) P.az.length=true:=qw (by omega) (by omega) (by omega);have s2:sub P.az (((j+1:Nat):Int).toNat) (P.az.length -((j+1:Nat):Int).toNat)=P.az.drop (j+1):=by rw[Int.toNat_natCast];unfold sub;rw[take_of_length_le (by simp)]
  have l2:(P.az.drop (j+1)).length=P.az.length -(j+1):=List.length_drop;have ap3:bP j j (P.az.length -(j+1)) (P.az.length -(j+1)) 72=true:=dm (by omega) (by omega);have ap4:bP 0 0 P.az.length P.az.length 72=true:=dm (by omega) (by omega);have z1:(((0:Nat):Int)+(i:Int)).toNat=i:=by omega
  have z2:(((0:Nat):Int)+(j:Int)).toNat=j:=by omega
  have hs:∀q:bU,sub (d.phases.set i q) 0 d.phases.length=d.phases.set i q:=λq=>by have:=cB (d.phases.set i q);rwa [List.length_set]at this
  have hs2:∀x:aC,sub (P.az.set j x) 0 P.az.length=P.az.set j x:=λx=>by have:=cB (P.az.set j x);rwa [List.length_set]at this
  have le1:∀q:bU,bj (d.phases.set i q).length d.phases.length=true:=λq=>by rw[List.length_set,aH]
  have le2:∀x:aC,bj (P.az.set j x).length P.az.length=true:=λx=>by rw[List.length_set,aH]
  obtain⟨q1,hq1⟩:∃q1,q1=bU.mk (P.az.take j++P.az.drop (j+1)) P.gives:=⟨_,rfl⟩;obtain⟨q2,hq2⟩:∃q2,q2=bU.mk (P.az.set j (KU v)) P.gives:=⟨_,rfl⟩;have hk1:q1.az.length<=1000/\q1.gives.length<=1000:=by rw[hq1];exact⟨by simp;omega,R0⟩
  have hk2:q2.az.length<=1000/\q2.gives.length<=1000:=by rw[hq2];exact⟨by simpa using hPl,R0⟩
  have rS:∀x∈P.az,x∈gq d:=λx hx=>mem_flatMap.2 ⟨P,Lw,hx⟩;have hm1:∀x∈gq (iK d i q1),∃y∈gq d,x=y\/x=KU y:=λx hx=>by
   refine⟨x,?_,.inl rfl⟩;rcases aa6 hx with h |h
   ·exact h
   ·rw[hq1]at h;rcases aY.1 h with h |h
    ·exact rS x (List.mem_of_mem_take h)
    ·exact rS x (List.mem_of_mem_drop h)
  have hm2:∀x∈gq (iK d i q2),∃y∈gq d,x=y\/x=KU y:=λx hx=>by
   rcases aa6 hx with h |h
   ·exact⟨x,h,.inl rfl⟩
   ·rw[hq2]at h;rcases List.mem_or_eq_of_mem_set h with h |h
    ·exact⟨x,rS x h,.inl rfl⟩
    ·exact⟨v,rS v RW,.inr h⟩
  have htr:=adl ht;have hd1:=KV hd i hk1.1 hk1.2;have hd2:=KV hd i hk2.1 hk2.2;have B0:fq 5000003 (dS.mk t.ci t.b7 t.b8 ([]) t.cm t.cd t.cw t.cg t.land t.b9 t.windows t.built t.base) d day=some (iC 5000003 (lN t) d day,jA 5000003 t d):=vX day htr hd hn;have B1:fq 5000003 (dS.mk t.ci t.b7 t.b8 ([]) t.cm t.cd t.cw t.cg t.land t.b9 t.windows t.built t.base) (aP.mk d.lot (d.phases.set i q1)) day=some (iC 5000003 (lN t) (iK d i q1) day,jA 5000003 t (iK d i q1)):=vX (d:=iK d i q1) day htr hd1 hn;have B2:fq 5000003 (dS.mk t.ci t.b7 t.b8 ([]) t.cm t.cd t.cw t.cg t.land t.b9 t.windows t.built t.base) (aP.mk d.lot (d.phases.set i q2)) day=some (iC 5000003 (lN t) (iK d i q2) day,jA 5000003 t (iK d i q2)):=vX (d:=iK d i q2) day htr hd2 hn;have Su:bU.mk (P.az.take j++P.az.drop (j+1)) P.gives=q1:=hq1.symm;have Ss:bU.mk (P.az.set j (aC.mk v.bm v.bx v.bk v.bu v.cP (i64.wrap (v.cz -1)) v.use v.units v.extra)) P.gives=q2:=hq2.symm;have nc:∀z:Int,(z==z)=true:=λz=>by simp
  simp only[c1,c2,c3,c4,hP,hPz,hii,decide_false,ak,aj,af,length_nil,bK,ap1,eX,so1,s1,l1,ap2,w1,so2,s2,l2,ap3,ap4,hV,hjj,nc,z1,z2,cB,aH,hs,hs2,le1,le2,Su,Ss,B0,B1,B2];by_cases h0:jA 5000003 t d=0
  ·have hv0:=(look_eq ht hd hn).2 h0;have U1:jA 5000003 t (iK d i q1)=0->_:=λh=>aa5 (n:=5000003) (t:=t) (d:=d) (d':=iK d i q1) rfl hv0 ((look_eq ht hd1 hn).2 h) hm1;have U2:jA 5000003 t (iK d i q2)=0->_:=λh=>aa5 (n:=5000003) (t:=t) (d:=d) (d':=iK d i q2) rfl hv0 ((look_eq ht hd2 hn).2 h) hm2;have L:=ahP (n:=5000003) (t:=t) (d:=d) (a3:=(i:Int)) (a4:=(j:Int)) (r3:=d.phases) (r5:=P.az.take j++P.az.drop (j+1)) (x3:=P) (r6:=d.phases) (r7:=P.az) (x6:=v) (x7:=v) (x8:=P) (q1:=q1) (q2:=q2) (i:=i) ht hd hn hk1 hk2 (by rw[z1,cB,Su,hs]) List.length_set (by rw[z1,z2,hs2,Ss,hs]) List.length_set h0 (λ h=>(U1 h).2) (λ h=>(U2 h).2);have n0:((0:Int) !=0)=false:=rfl;have lt1:jA 5000003 t (iK d i q1)=0->decide ((((iC 5000003 (lN t) (iK d i q1) day).length:Nat):Int)>(((iC 5000003 (lN t) d day).length:Nat):Int))=false:=λh=>by
    rw[yS h,yS h0];cases hE:AY t (iK d i q1)with
    |false=>cases AY t d<;>rfl
    |true=>rw[(U1 h).1 hE];rfl
   have P4:jA 5000003 t (iK d i q2)=0->decide ((((iC 5000003 (lN t) (iK d i q2) day).length:Nat):Int)>(((iC 5000003 (lN t) d day).length:Nat):Int))=false:=λh=>by
    rw[yS h,yS h0];cases hE:AY t (iK d i q2)with
    |false=>cases AY t d<;>rfl
    |true=>rw[(U2 h).1 hE];rfl
   have v2:((bif (jA 5000003 t (iK d i q1)==(0:Int))then(bif (decide ((((iC 5000003 (lN t) (iK d i q1) day).length:Nat):Int)>(((iC 5000003 (lN t) d day).length:Nat):Int)))then some true else(bif (jA 5000003 t (iK d i q2)==(0:Int))then some (decide ((((iC 5000003 (lN t) (iK d i q2) day).length:Nat):Int)>(((iC 5000003 (lN t) d day).length:Nat):Int)))else some false))else(bif (jA 5000003 t (iK d i q2)==(0:Int))then some (decide ((((iC 5000003 (lN t) (iK d i q2) day).length:Nat):Int)>(((iC 5000003 (lN t) d day).length:Nat):Int)))else some false)):Option Bool)=some false:=by
    cases g1:jA 5000003 t (iK d i q1)==(0:Int)with
    |true=>
     rw[lt1 (by simpa using g1)];cases g2:jA 5000003 t (iK d i q2)==(0:Int)with
     |true=>rw[P4 (by simpa using g2)];rfl
     |false=>rfl
    |false=>
     cases g2:jA 5000003 t (iK d i q2)==(0:Int)with
     |true=>rw[P4 (by simpa using g2)];rfl
     |false=>rfl
   simp only[h0,n0,ak,v2,af,L,dQ]
  ·have n1:(jA 5000003 t d !=0)=true:=(by simpa using h0);simp only[n1,aj]
theorem Pd(q:HL xx.toSE [.st SI.iS,.st SI.fL,.int .i64,.int .i64,.int .i64])(hb:Rc (HL.l4 xx.toSE [.st SI.iS,.st SI.fL,.int .i64,.int .i64,.int .i64] q)<=1048576):∃k,p9 k q.1 q.2.1 q.2.2.1 q.2.2.2.1 q.2.2.2.2.1=some true:=
 ⟨5000003,M8 q.1 q.2.1 q.2.2.1 q.2.2.2.1 q.2.2.2.2.1 (ajT q hb)⟩
end Go.Proofs
