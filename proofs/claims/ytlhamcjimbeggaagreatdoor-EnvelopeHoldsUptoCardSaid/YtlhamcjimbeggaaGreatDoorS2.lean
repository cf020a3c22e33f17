import Derived.Test.YtlhamcjimbeggaaGreatDoorS1
open Go.IntKind (i64)
open List (length_take mem_map all_eq_true getElem_mem length_map foldl_cons take_of_length_le mem_filter length_filter_le)
namespace Go.Proofs
open Go.Gb Go.RowKit
variable {n:Nat}
abbrev arj(t:dK):Prop:=∀l∈t.land,l.from_.length*8<=140737488355328
theorem Tx{α W O:Type}{l:U α}{step:Int->J (Int⊕(W⊕O))}(p:α->Bool)(w:W)(o:O)
 (h:∀i (hi:i<l.length),step i=some (bif p l[i]then .inr (.inr o)else .inl (i+1:Nat)))
 (hend:step l.length=some (.inr (.inl w))) (n:Nat) (hn:l.length<n):iter step n 0=some (bif l.any p then .inr o else .inl w):=by have:=qi (l:=l) (step:=step) (λ i=>(i:Nat)) p w (λ _=>o) h hend n hn;rw[io]at this;rw[this,<- rC];cases p8 p l<;>rfl
def FG(t:dK):Bool:=
 (decide (t.aw.length<=10)&&(decide (t.bu.length<=6)&&(decide (t.cz.length<=20)&&(decide (t.cm.length<=20)&&(decide (t.land.length<=5)&&(decide (t.bz.length<=5)&&decide (t.built.length<=6)))))))&&
 (!(t.aw.any λr=>decide (r.zones.length>5) || decide (r.except.length>5))&&(!(t.land.any λl=>decide (l.area.length>10))&&!(t.bz.any λe=>decide (e.area.length>10))))
theorem ar7{a b:Nat}:decide ((a:Int)>b)=!decide (a<=b):=by
 by_cases h:a<=b;have:¬(a>b):=by omega
 simp[h];have:a>b:=by omega
 simp[this,h]
theorem ajD(t:dK)(hn:2000<=n):Xd n t=some (FG t):=by
 unfold Xd FG;simp only[show (10:Int)=((10:Nat):Int)from rfl,show(6:Int)=((6:Nat):Int)from rfl,show(20:Int)=((20:Nat):Int)from rfl,show(5:Int)=((5:Nat):Int)from rfl,ar7,uN,ai];cases hA:(decide (t.aw.length<=10)&&(decide (t.bu.length<=6)&&(decide (t.cz.length<=20)&&(decide (t.cm.length<=20)&&(decide (t.land.length<=5)&&(decide (t.bz.length<=5)&&decide (t.built.length<=6)))))))with
 |false=>
  have e:(bif !decide (t.aw.length<=10)then true else bif !decide (t.bu.length<=6)then true else bif !decide (t.cz.length<=20)then true else bif !decide (t.cm.length<=20)then true else bif !decide (t.land.length<=5)then true else bif !decide (t.bz.length<=5)then true else !decide (t.built.length<=6))=true:=by revert hA;cases decide (t.aw.length<=10)<;>cases decide (t.bu.length<=6)<;>cases decide (t.cz.length<=20)<;>cases decide (t.cm.length<=20)<;>cases decide (t.land.length<=5)<;>cases decide (t.bz.length<=5)<;>cases decide (t.built.length<=6)<;>simp
  rw[e];rfl
 |true=>
  have e:(bif !decide (t.aw.length<=10)then true else bif !decide (t.bu.length<=6)then true else bif !decide (t.cz.length<=20)then true else bif !decide (t.cm.length<=20)then true else bif !decide (t.land.length<=5)then true else bif !decide (t.bz.length<=5)then true else !decide (t.built.length<=6))=false:=by revert hA;cases decide (t.aw.length<=10)<;>cases decide (t.bu.length<=6)<;>cases decide (t.cz.length<=20)<;>cases decide (t.cm.length<=20)<;>cases decide (t.land.length<=5)<;>cases decide (t.bz.length<=5)<;>cases decide (t.built.length<=6)<;>simp
  simp at hA;rw[e];simp;rw[Tx (l:=t.aw) (λ r=>decide (r.zones.length>5) || decide (r.except.length>5)) () false (λ i hi=>?_) (by simp[ND]) n (by omega)];cases (t.aw.any λr=>decide (r.zones.length>5) || decide (r.except.length>5))with
  |true=>rfl
  |false=>
   simp;rw[Tx (l:=t.land) (λ l=>decide (l.area.length>10)) () false (λ i hi=>?_) (by simp[NE]) n (by omega)];cases (t.land.any λl=>decide (l.area.length>10))with
   |true=>rfl
   |false=>
    simp;rw[Tx (l:=t.bz) (λ e=>decide (e.area.length>10)) () false (λ i hi=>?_) (by simp[NF]) n (by omega)];cases (t.bz.any λe=>decide (e.area.length>10))<;>rfl;have d:decide ((((t.bz[i]).area.length:Nat):Int)>10)=decide ((t.bz[i]).area.length>10):=(by rw[dH,bF,bF];omega);simp only[NF,bV hi,ak,bB hi,ai,d,Option.map_some,uN,aW i]
   have d:decide ((((t.land[i]).area.length:Nat):Int)>10)=decide ((t.land[i]).area.length>10):=(by rw[dH,bF,bF];omega);simp only[NE,bV hi,ak,bB hi,ai,d,Option.map_some,uN,aW i]
  have d1:decide ((((t.aw[i]).zones.length:Nat):Int)>5)=decide ((t.aw[i]).zones.length>5):=by rw[dH,bF,bF];omega
  have d2:decide ((((t.aw[i]).except.length:Nat):Int)>5)=decide ((t.aw[i]).except.length>5):=by rw[dH,bF,bF];omega
  simp only[ND,bV hi,ak,bB hi,ai,d1,d2,Option.map_some,uN,aW i];cases decide ((t.aw[i]).zones.length>5)<;>cases decide ((t.aw[i]).except.length>5)<;>rfl
theorem ak9{t:dK}(h:FG t=true)(hf:arj t):ZL t:=by unfold FG at h;simp at h;obtain⟨⟨h1,h2,h3,h4,h5,h6,h7⟩,g1,g2,g3⟩:=h;refine⟨by omega,λr hr=>?_,by omega,by omega,λl hl=>?_,by omega,λe he=>?_⟩;have:=g1 r hr;exact⟨by omega,by omega⟩;have:=g2 l hl;exact⟨by omega,hf l hl⟩;have:=g3 e he;omega
def j9:dK:=(dK.mk [] [] [] [bO.mk ⟨#[97]⟩ [] [] 0 0 0 false 0 12 0 ⟨#[]⟩ ⟨#[]⟩ [dD.mk 0 2 ⟨#[]⟩ ⟨#[]⟩ [],dD.mk 1 0 vO ⟨#[]⟩ []] 0 0 0 0 0 0 0,bO.mk ⟨#[98]⟩ [] [] 0 0 0 false 1 0 0 ⟨#[]⟩ ⟨#[]⟩ [] 0 3 1 1 0 0 0] [] [] [] 0 [j6.mk 1 0 [aj.mk 0 0 10 8] []] [dI.mk 1 [aj.mk 4 2 6 3] 5] [] [] [])
theorem ar8:JR=some j9:=by kernel_rfl
theorem sX:ZL j9:=by refine⟨by decide,λr hr=>?_,by decide,by decide,λl hl=>?_,by decide,λe he=>?_⟩;simp[j9]at hr;rcases hr with rfl|rfl<;>exact⟨by decide,by decide⟩;simp[j9]at hl;subst hl;exact⟨by decide,by decide⟩;simp[j9]at he;subst he;decide
theorem ap8:dU j9.land 1=(j6.mk 1 0 [aj.mk 0 0 10 8] [],true):=by kernel_rfl
theorem ap9:vP j9 1 0=2:=by kernel_rfl
theorem amq:vQ j9 1 0=[bU.mk 0 3 1 1]:=by kernel_rfl
def exR:U (List aj):=[[⟨2,2,8,6⟩],[⟨3,2,4,6⟩,⟨4,3,6,6⟩,⟨6,2,8,6⟩],[⟨6,2,8,6⟩]]
theorem aoG(h:n=1000000\/n=5000003):gX n j9 1 0 3=some (exR,0):=by unfold gX;rw[EU sX.lots (by decide) (by simp[j9];omega),qX sX 1 0 (by omega),um sX 1 0 (by omega),ap8,ap9,amq];rcases h with rfl|rfl<;>kernel_rfl
theorem aoH(h:n=1000000\/n=5000003):Lv n=some true:=by unfold Lv;rw[ar8];simp[aoG h,qX sX 1 0 (show 2000<=n by omega),um sX 1 0 (show 2000<=n by omega)];rcases h with rfl|rfl<;>kernel_rfl
theorem EW{Θ O:Type}{step:Θ->J (Θ⊕O)}(f:Nat->Θ){s:Θ}(N:Nat)(o:O)(h0:s=f 0)
 (h1:∀i,i<N->step (f i)=some (.inl (f (i+1)))) (h2:step (f N)=some (.inr o)) (n:Nat) (hn:N<n):iter step n s=some o:=by rw[h0];exact jg f N o h1 h2 n hn
def tb(f:Nat->Nat->Bool):U Bool:=(List.range 144).map λi=>f (i/12) (i%12)
def upd(f:Nat->Nat->Bool)(a b:Nat)(v:Bool):Nat->Nat->Bool:=λx y=>if x=a/\y=b then v else f x y
inductive Tc(e:Nat->Nat->Bool):Nat->Nat->Prop
 |one {a b:Nat}:a<12->b<12->e a b=true->Tc e a b
 |trans {a b c:Nat}:Tc e a b->Tc e b c->Tc e a c
theorem Tc.lt{e:Nat->Nat->Bool}{a b:Nat}(h:Tc e a b):a<12/\b<12:=by
 induction h with
 |one h1 h2 _=>exact⟨h1,h2⟩
 |trans _ _ i1 i2=>exact⟨i1.1,i2.2⟩
def eG(v:aF):aj:=aj.mk v.b9 v.cy v.b8 v.cw
def okV(v:aF):Bool:=cT (eG v)&&(decide (0<=v.ev)&&(decide (v.ev<v.de)&&(decide (v.de<=4096)&&((decide (v.use=0) || decide (v.units=0))&&(decide (0<=v.use)&&(decide (v.use<6)&&(decide (0<=v.units)&&decide (v.units<=1048576))))))))
theorem vR(v:aF):gT v=some (okV v):=by
 unfold gT okV;rw[j3];have e1:decide (v.ev<0)=!decide (0<=v.ev):=by rw[<- decide_not,decide_eq_decide];omega
 have e2:decide (v.ev>=v.de)=!decide (v.ev<v.de):=by rw[<- decide_not,decide_eq_decide];omega
 have e3:decide (v.de>4096)=!decide (v.de<=4096):=by rw[<- decide_not,decide_eq_decide];omega
 have e4:(v.use !=0)=!decide (v.use=0):=by by_cases h:v.use=0<;>simp[h]
 have e5:(v.units !=0)=!decide (v.units=0):=by by_cases h:v.units=0<;>simp[h]
 rw[e1,e2,e3,e4,e5,show aj.mk v.b9 v.cy v.b8 v.cw=eG v from rfl];simp;generalize cT (eG v)=a1;generalize decide (0<=v.ev)=a2;generalize decide (v.ev<v.de)=a3;generalize decide (v.de<=4096)=a4;generalize decide (v.use=0)=a5;generalize decide (v.units=0)=a6;generalize decide (0<=v.use)=a7;generalize decide (v.use<6)=a8;generalize decide (0<=v.units)=a9;generalize decide (v.units<=1048576)=ky;cases a1<;>cases a2<;>cases a3<;>cases a4<;>cases a5<;>cases a6<;>cases a7<;>cases a8<;>cases a9<;>rfl
theorem yD{v:aF}(h:okV v=true):cT (eG v)=true:=by rw[okV,aY]at h;exact h.1
def jX(d:bL):U aF:=d.phases.flatMap (·.cP)
theorem fg{l:U pu}(h:∀p∈l,p.cP.length<=1000):(l.flatMap (·.cP)).length<=l.length*1000:=by
 induction l with
 |nil=>simp
 |cons p l ih=>
  have h1:=h p (by simp);have h2:=ih λq hq=>h q (by simp[hq]);simp only[List.flatMap_cons,bW,eu];omega
def Ty(d:bL):Prop:=d.phases.length<=1000/\∀p∈d.phases,p.cP.length<=1000
theorem ZP{d:bL}(h:Ty d)(hn:1001<=n):qa n d 0 d.phases.length=some (jX d):=by
 obtain⟨h1,h2⟩:=h;unfold qa;have key:=EW (step:=pG d 0 d.phases.length) (λ i=>(i,(d.phases.take i).flatMap (·.cP))) (s:=(0,[])) d.phases.length (jX d) rfl (λ i hi=>by
  have e2:decide (i>=0)=true:=by simp
  have hl:=fg (l:=d.phases.take i) λp hp=>h2 p (List.mem_of_mem_take hp);rw[length_take]at hl;have hv:=h2 _ (getElem_mem hi);generalize hL:(d.phases.take i).flatMap (·.cP)=L at hl;have hap:bP L.length L.length d.phases[i].cP.length d.phases[i].cP.length 72=true:=cK (by omega) (by simp[maxLen];omega);simp only[pG,bV hi,ak,bB hi,ai,hap,eH,aO,aW i];rw[fU hi,List.flatMap_append,hL];simp) (by simp[pG,jX]) n (by omega)
 have hz:bk 0 ([]:U aF).length=true:=rfl;simp[key]
def M3(v:aF):Int:=(mE v).getD 0
theorem ZQ(v:aF):mE v=some (M3 v):=by unfold M3 mE;rw[vR];cases v.extra<;>cases okV v<;>rfl
def Tz(v:aF):Int:=(qm v).getD 0
theorem ahl(v:aF):qm v=some (Tz v):=by
 unfold Tz qm;rw[vR,ZQ];cases h:okV v with
 |false=>rfl
 |true=>
  have e:=zS (yD h);unfold eG at e;simp[e]
def Hd(f:aF->Int)(l:U aF):Int:=l.foldl (λ s v=>i64.wrap (s+f v)) 0
def Pc(f:aF->Int)(l:U aF):Int:=l.foldl (λ s v=>max s (f v)) 0
theorem ark a1 a8 {a9:U aF} (hl:a9.length<=1000) (hn:1001<=n):∀a0 a2 a3 a4 a5 a6 a7,lX n a0 a1 a2 a3 a4 a5 a6 a7 a8 a9=some (Hd Tz a9,a0,a1,a2,a3,a4,a5,a6,a7,a8,a9):=by have key:=kZ (l:=a9) (step:=kG a9) (λ i s=>(s,i)) (λ v s=>i64.wrap (s+Tz v)) (λ s=>s) (λ i hi s=>by simp only[kG,bV hi,ak,bC hi,bH hi,ai,ahl,aW i]) (λ s=>by simp[kG]) n (by omega) 0;rw[io]at key;unfold lX sG;simp only[key,ai,aO,ak];exact λ_ _ _ _ _ _ _=>rfl
theorem arl a1 a8 {a9:U aF} (hl:a9.length<=1000) (hn:1001<=n):∀a0 a2 a3 a4 a5 a6 a7,lY n a0 a1 a2 a3 a4 a5 a6 a7 a8 a9=some (Hd (·.units) a9,a0,a1,a2,a3,a4,a5,a6,a7,a8,a9):=by have key:=kZ (l:=a9) (step:=kJ a9) (λ i s=>(s,i)) (λ v s=>i64.wrap (s+v.units)) (λ s=>s) (λ i hi s=>by simp only[kJ,bV hi,ak,bC hi,bH hi,ai,qy,aW i]) (λ s=>by simp[kJ]) n (by omega) 0;rw[io]at key;unfold lY sH;simp only[key,ai,aO,ak];exact λ_ _ _ _ _ _ _=>rfl
theorem aoI a1 a8 {a9:U aF} (hl:a9.length<=1000) (hn:1001<=n):∀a0 a2 a3 a4 a5 a6 a7,kH n a0 a1 a2 a3 a4 a5 a6 a7 a8 a9=some (Pc M3 a9,a0,a1,a2,a3,a4,a5,a6,a7,a8,a9):=by have key:=kZ (l:=a9) (step:=iM a9) (λ i s=>(s,i)) (λ v s=>max s (M3 v)) (λ s=>s) (λ i hi s=>by simp only[iM,bV hi,ak,bC hi,bH hi,ai,ZQ,aW i]) (λ s=>by simp[iM]) n (by omega) 0;rw[io]at key;unfold kH nQ;simp only[key,ai,aO,ak];exact λ_ _ _ _ _ _ _=>rfl
theorem aoJ a1 a8 {a9:U aF} (hl:a9.length<=1000) (hn:1001<=n):∀a0 a2 a3 a4 a5 a6 a7,kI n a0 a1 a2 a3 a4 a5 a6 a7 a8 a9=some (Pc (·.de) a9,a0,a1,a2,a3,a4,a5,a6,a7,a8,a9):=by have key:=kZ (l:=a9) (step:=iO a9) (λ i s=>(s,i)) (λ v s=>max s v.de) (λ s=>s) (λ i hi s=>by simp only[iO,bV hi,ak,bC hi,bH hi,ai,pI,aW i]) (λ s=>by simp[iO]) n (by omega) 0;rw[io]at key;unfold kI nR;simp only[key,ai,aO,ak];exact λ_ _ _ _ _ _ _=>rfl
theorem ams(e:bZ)(a:Lp){u:Int}(h0:0<=u)(h6:u<6):∃b,lI e a u=some b:=by
 obtain⟨k,rfl⟩:∃k:Nat,u=k:=⟨u.toNat,by omega⟩;have hk:k<6:=by omega
 unfold lI;rw[bC hk,bB (l:=[a.a0,a.a1,a.a2,a.a3,a.a4,a.a5]) hk];exact⟨_,rfl⟩
theorem GL{l:U bZ}{Z:(bZ×Unit)->J Bool}(p:bZ->Bool)(h:∀x∈l,Z (x,())=some (p x))(hl:l.length<=9223372036854775807)(hn:l.length<n):lJ n l Z=some (CU p l):=Hf p h hl hn
theorem arn(p:dJ){u:Int}(h0:0<=u)(h6:u<6)(ht:p.tables.length<n)(ht2:p.tables.length<=9223372036854775807)(hr:∀t∈p.tables,t.rows.length<n/\t.rows.length<=9223372036854775807):∃r,Cj n p u=some r:=by
 have key:∃o,iter (lK n p u) n 0=some o/\True:=by
  have step:∀i (hi:i<p.tables.length),lK n p u i=some (.inl (i+1:Nat))\/∃z,lK n p u i=some (.inr (.inr z)):=by
   intro i hi;obtain⟨r1,r2⟩:=hr _ (getElem_mem hi);simp only[lK,bV hi,ak,bB hi,ai,aW i];cases ByteArray.toList p.tables[i].name==ByteArray.toList ⟨#[116,114,97,102,102,105,99]⟩with
   |false=>exact Or.inl rfl
   |true=>
    right;simp;generalize Lp.mk _ _ _ _ _ _=A;have hx:=GL (n:=n) (l:=p.tables[i].rows) (Z:=λy1=>lI y1.1 A u) (λ e=>(lI e A u).getD false) (λ e _=>by have⟨b,hb⟩:=ams e A h0 h6;simp[hb]) r2 r1;rw[hx];simp[yZ];cases hany:p.tables[i].rows.any λe=>(lI e A u).getD false with
    |false=>exact⟨_,rfl⟩
    |true=>
     have⟨j,hj,h1,_⟩:=anO hany;rw[h1];simp only[ak,bB hj,ai];exact⟨_,rfl⟩
  have main:∀k i m,i+k=p.tables.length->k<m->∃o,iter (lK n p u) m i=some o/\True:=by
   intro k
   induction k with
   |zero=>
    intro i m hi hm;obtain⟨q,rfl⟩:∃q,m=q+1:=⟨m-1,by omega⟩;have:i=p.tables.length:=(by omega);subst this;exact⟨.inl (),iD (by simp[lK]),trivial⟩
   |succ k ih=>
    intro i m hi hm;obtain⟨q,rfl⟩:∃q,m=q+1:=⟨m-1,by omega⟩;rcases step i (by omega)with h|⟨z,h⟩;rw[mM h];exact ih (i+1) q (by omega) (by omega);exact⟨_,iD h,trivial⟩
  exact main p.tables.length 0 n (by omega) ht
 obtain⟨o,h1,_⟩:=key;unfold Cj;rw[h1];cases o with
 |inl w|inr r=>exact⟨_,rfl⟩
theorem ajE(p:dJ){v:aF}(hv:okV v=true)(ht:p.tables.length<n)(ht2:p.tables.length<=9223372036854775807)(hr:∀t∈p.tables,t.rows.length<n/\t.rows.length<=9223372036854775807):∃r,jZ n p v=some r:=by
 simp[okV]at hv;have⟨r,h1⟩:=arn (n:=n) p (u:=v.use) hv.2.2.2.2.2.1 hv.2.2.2.2.2.2.1 ht ht2 hr;unfold jZ;rw[h1,ahl];simp;have e100:(100 !=0)=true:=rfl;by_cases h:r>0;have e:(r !=0)=true:=by simp;omega
 have e2:decide (r>0)=true:=by simpa using h
 rw[e,e2];simp;cases decide (Tz v>i64.wrap (Int.tdiv 109951162777600 r))<;>exact⟨_,rfl⟩;have e2:decide (r>0)=false:=by simpa using h
 rw[e2];exact⟨_,rfl⟩
def aqH(n:Nat)(ts:U dX)(v:aF):Int:=(jZ n (dJ.mk [] ts [] [] [] [] [] 0) v).getD 0
theorem aro a1 a8 {a9:U aF} (hl:a9.length<=1000) (hn:1001<=n) (hv:∀v∈a9,okV v=true) (ht:a1.length<n) (ht2:a1.length<=9223372036854775807) (hr:∀t∈a1,t.rows.length<n/\t.rows.length<=9223372036854775807):∀a0 a2 a3 a4 a5 a6 a7,jU n a0 a1 a2 a3 a4 a5 a6 a7 a8 a9=some (Hd (aqH n a1) a9,a0,a1,a2,a3,a4,a5,a6,a7,a8,a9):=by have key:=λa0 a2 a3 a4 a5 a6 a7=>dG (l:=a9) (step:=kL n a9) (λ i s=>(s,i,a0,a1,a2,a3,a4,a5,a6,a7,a8,a9)) (λ v s=>i64.wrap (s+(jZ n (dJ.mk [] a1 [] [] [] [] [] 0) v).getD 0)) (λ s=>(s,a0,a1,a2,a3,a4,a5,a6,a7,a8,a9)) (λ _ _=>True) (λ i hi s _=>⟨by obtain⟨r,h1⟩:=ajE (n:=n) (dJ.mk [] a1 [] [] [] [] [] 0) (hv _ (getElem_mem hi)) ht ht2 hr;have h2:jZ n (dJ.mk a0 a1 a2 a3 a4 a5 a6 a7) a9[i]=some r:=h1;simp only[kL,bV hi,ak,bC hi,bH hi,ai,lM,h1,h2,aO,aW i,Option.getD_some],trivial⟩) (λ s _=>by simp[kL]) n (by omega) 0 trivial;have key:=λa0 a2 a3 a4 a5 a6 a7=>(io) ▸ key a0 a2 a3 a4 a5 a6 a7;unfold jU sI;simp only[key,ai,aO,ak];exact λ_ _ _ _ _ _ _=>rfl
theorem aoK{α G:Type}(l:U α)(f:α->G)(z:G){i:Nat}(hi:i<l.length):((l.take i).map f++List.replicate (l.length-i) z).set i (f l[i])=(l.take (i+1)).map f++List.replicate (l.length-(i+1)) z:=by
 have h1:((l.take i).map f).length=i:=by simp;omega
 rw[List.set_append_right _ _ (by omega),h1,Nat.sub_self,show l.length-i=(l.length-(i+1))+1 by omega,List.replicate_succ,List.set_cons_zero,fU hi,List.map_append,aP];rfl
theorem aoL{α G:Type}(l:U α)(f:α->G)(z:G){i:Nat}(hi:i<=l.length):((l.take i).map f++List.replicate (l.length-i) z).length=l.length:=by simp;omega
theorem aoM{α G:Type}(l:U α)(f:α->G)(z:G){i:Nat}(hi:i<l.length):((l.take (i+1)).map f++List.replicate (l.length-(i+1)) z)[i]? =some (f l[i]):=by rw[List.getElem?_append_left (by simp;omega)];simp[hi]
theorem aoN{l:U aF}(hl:l.length<=1000)(hn:1001<=n):iter (gY l) n (0,List.replicate l.length (aj.mk 0 0 0 0),[])=some (l.map eG,l.flatMap λv=>[v.b9,v.b8]):=by
 refine EW (step:=gY l) (λ i=>(i,(l.take i).map eG++List.replicate (l.length-i) (aj.mk 0 0 0 0),(l.take i).flatMap λv=>[v.b9,v.b8])) l.length _ ?_ (λ i hi=>?_) ?_ n (by omega);simp;have h1:=aoL l eG (aj.mk 0 0 0 0) (Nat.le_of_lt hi);have h2:=aoK l eG (aj.mk 0 0 0 0) hi;have h3:=aoM l eG (aj.mk 0 0 0 0) hi;have h4:((l.take i).flatMap λv=>[v.b9,v.b8]).length=2*i:=by
  have:∀m:U aF,(m.flatMap λv=>[v.b9,v.b8]).length=2*m.length:=by
   intro m;induction m with
   |nil=>rfl
   |cons a m ih=>simp[ih];omega
  rw[this,length_take];omega
 generalize (l.take i).map eG++List.replicate (l.length-i) (aj.mk 0 0 0 0)=B at h1 h2;have e0:(((0:Nat):Int)+i).toNat=i:=by omega
 have et:(l.length:Int).toNat=l.length:=by omega
 have hb:aj.mk l[i].b9 l[i].cy l[i].b8 l[i].cw=eG l[i]:=rfl;have hiB:i<B.length:=by omega
 rw[<- h2]at h3;have g3:ci (B.set i (eG l[i])) ((0:Nat)+i)=some (eG l[i]):=by rw[uZ];exact h3
 have hs:sub ([(eG l[i]).x0,(eG l[i]).x1]:U Int) 0 2=[(eG l[i]).x0,(eG l[i]).x1]:=rfl;have hap:bP (2*i) (2*i) 2 2 8=true:=cK (by omega) (by simp[maxLen];omega);have hl2:([(eG l[i]).x0,(eG l[i]).x1]:U Int).length=2:=rfl;simp only[gY,bV hi,ak,bC hi,bH hi,ai,et,bH hiB,e0,hb,g3,hs,hl2,h4,hap,eH,aO,aW i];rw[<- h2,fU hi,List.flatMap_append];rfl;simp only[gY,Qn,ay,aO,ak,List.take_length];simp
def cst(x w:Int)(s:Int×Int)(r:aj):Int×Int:=
 bif decide (r.x0<=x)&&(decide (x<r.x1)&&decide (r.y1>s.2))then(i64.wrap (s.1+i64.wrap (i64.wrap w*i64.wrap (r.y1-max s.2 r.y0))),r.y1)else s
def Pa(R:U aj)(X:U Int)(n:Int)(k:Nat):Int:=(R.foldl (cst (X.getD k 0) (X.getD (k+1) 0-X.getD k 0)) (n,0)).1
def ajF(R:U aj)(X:U Int):Int:=(List.range (X.length-1)).foldl (Pa R X) 0
def So(l:U aF):Int:=ajF (rX vy (l.map eG)) (jP mT (l.flatMap λv=>[v.b9,v.b8]))
theorem aoO{l:U aF}{R:U aj}{X:U Int} w2 (hR:R.length=l.length) (hX:X.length=w2.length) (hl:l.length<=1000) (hn:1001<=n) {k:Nat} (hk:k+1<w2.length) (hw:w2.length<=10000) s:iter (gZ l w2 R X k) n (s,0,0)=some (Pa R X s k):=by
 have et:((l.length:Int).toNat)=l.length:=by omega
 have ew:i64.wrap (k+1)=(k+1:Nat):=aX (by omega);have g1:X.getD k 0=X[k]'(by omega):=by simp[show k<X.length by omega]
 have g2:X.getD (k+1) 0=X[k+1]'(by omega):=by simp[show k+1<X.length by omega]
 unfold Pa;rw[g1,g2];refine kZ (l:=R) (step:=gZ l w2 R X k) (λ i (s:Int×Int)=>(s.1,s.2,i)) (λ r s=>cst (X[k]'(by omega)) (X[k+1]'(by omega)-X[k]'(by omega)) s r) (λ s=>s.1) (λ i hi v=>?_) (λ v=>?_) n (by omega) (s,0);obtain⟨a,b⟩:=v;simp only[gZ,et,bV (show i<l.length by omega),ak,bC (show i<l.length by omega),bH (show i<R.length by omega),ai,bC (show k<w2.length by omega),bH (show k<X.length by omega),ew,bC hk,bH (show k+1<X.length by omega),aW i,cst];cases decide ((R[i]'(by omega)).x0<=X[k]'(by omega))with
 |false=>rfl
 |true=>
  simp;cases decide (X[k]'(by omega)<(R[i]'(by omega)).x1)with
  |false=>rfl
  |true=>
   cases decide ((R[i]'(by omega)).y1>b)<;>rfl
 obtain⟨a,b⟩:=v;simp[gZ,hR]
theorem aoP a1 a8 {a9:U aF} (hl:a9.length<=1000) (hn:10000<=n):∀a0 a2 a3 a4 a5 a6 a7,jm n a0 a1 a2 a3 a4 a5 a6 a7 a8 a9=some (So a9,a0,a1,a2,a3,a4,a5,a6,a7,a8,a9):=by
 have et:((a9.length:Int).toNat)=a9.length:=by omega
 have mk:Bn (a9.length:Nat) 32=true:=ak4 (by omega) (by simp[maxLen];omega);have d1:decide ((a9.length:Nat)<=(a9.length:Nat))=true:=by simp
 have d2:decide (0<=(a9.length:Nat))=true:=by simp
 have hz:bk 0 ([]:U Int).length=true:=rfl;have hx:(a9.flatMap λv=>[v.b9,v.b8]).length<=2000:=by
  have:∀m:U aF,(m.flatMap λv=>[v.b9,v.b8]).length=2*m.length:=by
   intro m;induction m with
   |nil=>rfl
   |cons a m ih=>simp[ih];omega
  rw[this];omega
 unfold jm;rw[et,aoN hl (by omega)];unfold So;generalize (a9.flatMap λv=>[v.b9,v.b8])=W at hx;have srt:=yT (n:=n) (l:=a9.map eG) (Z:=λy1=>jl y1.1 y1.2.1) (λ x y=>if x.y0<y.y0 then -1 else if y.y0<x.y0 then 1 else 0) (λ x y=>by show jl x y=_;unfold jl;rw[jA];rfl) (λ x y=>by unfold vy;rw[decide_eq_decide];constructor;intro h;split at h;assumption;split at h<;>omega;intro h;rw[aM h];decide) (by simp;omega) (by simp;omega);have hm:bk a9.length (a9.map eG).length=true:=by simp
 have hR:(rX vy (a9.map eG)).length=a9.length:=by rw[y5 Qw];simp
 have hX:(jP mT W).length=W.length:=(Ga mT W).length_eq;simp[mk,srt,lN (show W.length<1099511627776 by omega) (show W.length<n by omega)];generalize rX vy (a9.map eG)=R at hR;generalize jP mT W=X at hX;have key:iter (ic n a9 W R X) n (0,0)=some (ajF R X):=by
  have eN:max 0 (i64.wrap ((W.length:Nat)-1))=(W.length-1:Nat):=by
   cases h:W.length with
   |zero=>rfl
   |succ k=>rw[kY (by omega) (by omega)];omega
  have hrl:(List.range (X.length-1)).length=W.length-1:=by rw[List.length_range];omega
  unfold ajF;refine kZ (l:=List.range (X.length-1)) (step:=ic n a9 W R X) (λ i s=>(s,i)) (λ k s=>Pa R X s k) (λ s=>s) (λ i hi s=>?_) (λ s=>?_) n (by omega) 0;have hi':i<W.length-1:=by omega
  simp only[ic,eN,bV hi',ak,aoO (n:=n) (l:=a9) (R:=R) (X:=X) W hR hX hl (by omega) (k:=i) (by omega) (by omega) s,ai,aW i,List.getElem_range];simp[ic,eN,hrl]
 rw[key];exact λ_ _ _ _ _ _ _=>rfl
def yE(b:aj)(k:Int):aj:=⟨b.x0-k,b.y0-k,b.x1+k,b.y1+k⟩
def iA(area:U aj)(b:aj)(k:Int):Bool:=cT (yE b k)&&decide (area.foldl (λ s y=>LQ (yE b k) s y) 0=AP (yE b k))
theorem amt(b:aj) k a2 a3 a4 a5 a6 a7 a8 a9 {ky:U aj} tA (hb:cT b=true) (h0:0<=k) (h1:k<=1048576) (hl:ky.length<=1000) (hn:1001<=n):
 kK n b k a2 a3 a4 a5 a6 a7 a8 a9 ky tA=some (iA ky b k,a2,a3,a4,a5,a6,a7,a8,a9,ky,tA):=by
 rw[iy]at hb;unfold kK CX iA;rw[bT (x:=b.x0-k),bT (x:=b.y0-k),bT (x:=b.x1+k),bT (x:=b.y1+k),show aj.mk (b.x0-k) (b.y0-k) (b.x1+k) (b.y1+k)=yE b k from rfl,j3];generalize yE b k=g;simp;cases hg:cT g with
 |false=>simp
 |true=>
  have key:=kZ (l:=ky) (step:=ji ky (g,true)) (λ i s=>(s,i)) (λ y s=>LQ g s y) (λ s=>s) (λ i hi s=>by
   simp only[ji,bV hi,ak,bB hi,ai,AO,aW i,LQ];cases h1:cT g with
   |false=>rfl
   |true=>
    cases h2:cT ky[i]with
    |false=>rfl
    |true=>
     cases h3:cT (dF g ky[i])with
     |false=>rfl
     |true=>simp[zS h3]) (λ s=>by simp[ji]) n (by omega) 0
  rw[io]at key;simp[key,zS hg];congr 2
def yF(p:Int->Bool):Nat->Int->Int->Int
 | 0,lo,_=>lo
 |k+1,lo,hi=>bif decide (lo<hi)then(bif p ((lo+hi+1)/2)then yF p k ((lo+hi+1)/2) hi else yF p k lo ((lo+hi+1)/2-1))else lo
theorem LC(p:Int->Bool):∀k lo hi,lo<=hi->lo<=yF p k lo hi/\yF p k lo hi<=hi
 | 0,lo,hi,h=>by simp[yF];omega
 |k+1,lo,hi,h=>by
  simp[yF];by_cases h1:lo<hi;have e:decide (lo<hi)=true:=by simpa using h1
  rw[e,ak];cases p ((lo+hi+1)/2)with
  |true=>have:=LC p k ((lo+hi+1)/2) hi (by omega);simp;omega
  |false=>have:=LC p k lo ((lo+hi+1)/2-1) (by omega);simp;omega
  have e:decide (lo<hi)=false:=by simpa using h1
  rw[e,ay];omega
theorem TA(p:Int->Bool):∀(k:Nat) lo hi,lo<=hi->hi-lo<2 ^ k->(yF p k lo hi=lo\/p (yF p k lo hi)=true)/\(yF p k lo hi=hi\/p (yF p k lo hi+1)=false)
 | 0,lo,hi,h,h2=>by simp only[yF];exact⟨Or.inl trivial,Or.inl (by simp at h2;omega)⟩
 |k+1,lo,hi,h,h2=>by
  simp[yF];by_cases h1:lo<hi;have e:decide (lo<hi)=true:=by simpa using h1
  rw[e,ak];have hp:(2:Int) ^ (k+1)=2*2 ^ k:=by rw[Int.pow_succ];omega
  generalize 2 ^ k=P at hp;rw[hp]at h2;cases hm:p ((lo+hi+1)/2)with
  |true=>
   obtain⟨a,b⟩:=TA p k ((lo+hi+1)/2) hi (by omega) (by omega);simp;refine⟨Or.inr ?_,b⟩;rcases a with a|a;rw[a];exact hm;exact a
  |false=>
   obtain⟨a,b⟩:=TA p k lo ((lo+hi+1)/2-1) (by omega) (by omega);simp;refine⟨a,Or.inr ?_⟩;rcases b with b|b;rw[b,show(lo+hi+1)/2-1+1=(lo+hi+1)/2 by omega];exact hm;exact b
  have e:decide (lo<hi)=false:=by simpa using h1
  rw[e,ay];exact⟨Or.inl rfl,Or.inl (by omega)⟩
theorem ajG{v:aF}(hv:cT (eG v)=true) a2 a3 a4 a5 a6 a7 a8 a9 {ky:U aj} tA (hl:ky.length<=1000) (hn:1001<=n):
 ∀(k:Nat) lo hi m,0<=lo->lo<=hi->hi<=1048576->hi-lo<2 ^ k->k<m->iter (fA n v) m (lo,hi,a2,a3,a4,a5,a6,a7,a8,a9,ky,tA)=some (yF (iA ky (eG v)) k lo hi,a2,a3,a4,a5,a6,a7,a8,a9,ky,tA):=by
 intro k
 induction k with
 |zero=>
  intro lo hi m h0 h1 h2 h3 hm;obtain⟨q,rfl⟩:∃q,m=q+1:=⟨m-1,by omega⟩;have:lo=hi:=by simp at h3;omega
  subst this;refine iD ?_;have e:decide (lo<lo)=false:=by simp
  simp[fA,yF]
 |succ k ih=>
  intro lo hi m h0 h1 h2 h3 hm;obtain⟨q,rfl⟩:∃q,m=q+1:=⟨m-1,by omega⟩;have hp:(2:Int) ^ (k+1)=2*2 ^ k:=by rw[Int.pow_succ];omega
  rw[hp]at h3;by_cases hlt:lo<hi;have e:decide (lo<hi)=true:=by simpa using hlt
  have e2:((2:Nat) !=0)=true:=rfl;have em:i64.wrap (Int.tdiv (i64.wrap (i64.wrap (lo+hi)+1)) 2)=(lo+hi+1)/2:=by rw[bT (x:=lo+hi),bT (x:=lo+hi+1),Int.tdiv_eq_ediv_of_nonneg (by omega),bT (by omega) (by omega)]
  have hi2:=amt (n:=n) (eG v) ((lo+hi+1)/2) a2 a3 a4 a5 a6 a7 a8 a9 (ky:=ky) tA hv (by omega) (by omega) hl hn;unfold eG at hi2;cases hc:iA ky (eG v) ((lo+hi+1)/2)with
  |true=>
   rw[mM (v':=((lo+hi+1)/2,hi,a2,a3,a4,a5,a6,a7,a8,a9,ky,tA)) (by unfold eG at hc;simp[fA,e,em,hi2,hc]),ih _ _ _ (by omega) (by omega) (by omega) (by omega) (by omega)];simp[yF,e,hc]
  |false=>
   rw[mM (v':=(lo,(lo+hi+1)/2-1,a2,a3,a4,a5,a6,a7,a8,a9,ky,tA)) (by unfold eG at hc;simp[fA,e,em,hi2,hc,bT (x:=(lo+hi+1)/2-1)]),ih _ _ _ (by omega) (by omega) (by omega) (by omega) (by omega)];simp[yF,e,hc]
  have e:decide (lo<hi)=false:=by simpa using hlt
  refine iD ?_;simp[fA,e,yF]
def qY(area:U aj)(l:U aF):Int:=l.foldl (λ b v=>yF (iA area (eG v)) 21 0 b) 1048576
theorem ajH a0 a1 a2 a3 a4 a5 a6 a7 {a8:U aj} {a9:U aF} (hv:∀v∈a9,okV v=true) (hl:a9.length<=1000) (h8:a8.length<=1000) (hn:1001<=n):jT n a0 a1 a2 a3 a4 a5 a6 a7 a8 a9=some (qY a8 a9,a0,a1,a2,a3,a4,a5,a6,a7,a8,a9):=by have key:=dG (l:=a9) (step:=iW n a9) (λ i s=>(s,i,a0,a1,a2,a3,a4,a5,a6,a7,a8,a9)) (λ v s=>yF (iA a8 (eG v)) 21 0 s) (λ s=>(s,a0,a1,a2,a3,a4,a5,a6,a7,a8,a9)) (λ _ s=>0<=s/\s<=1048576) (λ i hi s hs=>by have h1:=ajG (n:=n) (yD (hv _ (getElem_mem hi))) a0 a1 a2 a3 a4 a5 a6 a7 (ky:=a8) a9 h8 hn 21 0 s n (by omega) hs.1 hs.2 (by have:2 ^ 21=2097152:=rfl;omega) (by omega);have h2:=LC (iA a8 (eG a9[i])) 21 0 s hs.1;refine⟨?_,by omega,by omega⟩;simp only[iW,bV hi,ak,bC hi,bH hi,ai,aO,h1,aW i]) (λ s _=>by simp[iW]) n (by omega) 1048576 (by omega);rw[io]at key;unfold jT;simp[key];rfl
def fB(d:bL):U aF:=((jX d).take 40).filter okV
theorem aeM(d:bL):∀v∈fB d,okV v=true:=λ_ hv=>(mem_filter.1 hv).2
theorem aby(d:bL):(fB d).length<=40:=Nat.le_trans (length_filter_le _ _) (by rw[length_take];omega)
def oV(lot:j6):U aj:=bif br lot.area then lot.area else []
theorem ar9{l:U aF} a0 a1 a2 a3 a4 a5 a6 a7 a8 (hl:l.length<=9223372036854775807) (hn:l.length<n):
 iter (sV l) n (0,a0,a1,a2,a3,a4,a5,a6,a7,a8,[])=some (a0,a1,a2,a3,a4,a5,a6,a7,a8,(l.take 40).filter okV):=by
 refine EW (step:=sV l) (λ i=>(i,a0,a1,a2,a3,a4,a5,a6,a7,a8,((l.take i).take 40).filter okV)) l.length _ (by simp) (λ i hi=>?_) ?_ n hn;have hlen:(((l.take i).take 40).filter okV).length<=40:=Nat.le_trans (length_filter_le _ _) (by rw[length_take];omega);have e40:decide ((i:Int)<40)=decide (i<40):=by rw[decide_eq_decide];omega
 have hs:sub ([l[i]]:U aF) 0 1=[l[i]]:=rfl;have hN:((l.take (i+1)).take 40).filter okV=((l.take i).take 40).filter okV++(bif decide (i<40)&&okV l[i]then [l[i]]else []):=by
  by_cases h:i<40;have h1:(l.take i).take 40=l.take i:=take_of_length_le (by rw[length_take];omega);have h2:(l.take (i+1)).take 40=l.take (i+1):=take_of_length_le (by rw[length_take];omega);have h3:decide (i<40)=true:=by simpa using h
  rw[h1,h2,fU hi,List.filter_append,h3];cases h4:okV l[i]<;>simp[h4];have h3:decide (i<40)=false:=by simpa using h
  rw[List.take_take,List.take_take,h3,show min 40 (i+1)=40 by omega,show min 40 i=40 by omega];simp
 rw[hN];generalize ((l.take i).take 40).filter okV=L at hlen;have hap:bP L.length L.length 1 1 72=true:=cK (by omega) (by simp[maxLen];omega);simp only[sV,bV hi,ak,bC hi,bH hi,ai,e40,vR,aW i];cases decide (i<40)with
 |false=>simp
 |true=>
  simp;cases okV l[i]with
  |false=>simp
  |true=>simp[hs,hap]
 simp[sV]
def ajI(n:Nat)(p:dJ):Prop:=p.tables.length<n/\p.tables.length<=9223372036854775807/\∀t∈p.tables,t.rows.length<n/\t.rows.length<=9223372036854775807
def zT:ByteArray:=⟨#[115,101,116,98,97,99,107]⟩
def asa(n:Nat)(ts:U dX)(A:U aj)(l:U aF):U bZ:=[⟨⟨#[97,114,101,97]⟩,bif br A then C8 A else 0⟩,⟨⟨#[99,111,118,101,114]⟩,So l⟩,⟨⟨#[102,108,111,111,114]⟩,Hd Tz l⟩,⟨⟨#[102,108,111,111,114,115]⟩,Pc M3 l⟩,⟨⟨#[104,101,105,103,104,116]⟩,Pc (·.de) l⟩,⟨⟨#[104,111,109,101,115]⟩,Hd (·.units) l⟩,⟨⟨#[114,117,110,111,102,102]⟩,So l⟩,⟨zT,qY A l⟩,⟨⟨#[116,114,97,102,102,105,99]⟩,Hd (aqH n ts) l⟩]
theorem asb{p:dJ}{lot:j6}{d:bL}(hp:ajI n p)(hl:lot.area.length<=900)(hd:Ty d)(hn:2000000<=n):∀D φ R C Θ S H,nS n (dJ.mk D p.tables φ R C Θ S H) lot d=some (asa n p.tables (oV lot) (fB d)):=by
 have hs1:oV lot=(bif br lot.area then lot.area else []):=rfl;have hsl:(oV lot).length<=900:=by unfold oV;cases br lot.area<;>simp[hl]
 have hvl:=aby d;have Ha:=aeM d;have hfl:=fg hd.2;have hd1:=hd.1;obtain⟨hp1,hp2,hp3⟩:=hp;have hz:bk 0 ([]:U aF).length=true:=rfl;have IR:∀D φ R C Θ S H,((bif br lot.area then some (D,p.tables,φ,R,C,Θ,S,H,lot.area)else some (D,p.tables,φ,R,C,Θ,S,H,[])):J ((List iQ)×(List dX)×(List gm)×(List bO)×(List j5)×(List jd)×(List d9)×Int×(List aj)))=some (D,p.tables,φ,R,C,Θ,S,H,oV lot):=by intro D φ R C Θ S H;rw[hs1];cases br lot.area<;>rfl
 have h2:=aoP (n:=n) p.tables (oV lot) (a9:=fB d) (by omega) (by omega);have h3:=ark (n:=n) p.tables (oV lot) (a9:=fB d) (by omega) (by omega);have h4:=aoI (n:=n) p.tables (oV lot) (a9:=fB d) (by omega) (by omega);have h5:=aoJ (n:=n) p.tables (oV lot) (a9:=fB d) (by omega) (by omega);have h6:=arl (n:=n) p.tables (oV lot) (a9:=fB d) (by omega) (by omega);have h8:=λD φ R C Θ S H=>ajH (n:=n) D p.tables φ R C Θ S H (a8:=oV lot) (a9:=fB d) Ha (by omega) (by omega) (by omega);have h9:=aro (n:=n) p.tables (oV lot) (a9:=fB d) (by omega) (by omega) Ha hp1 hp2 hp3;intro D φ R C Θ S H;unfold nS;rw[iJ (by omega) (by omega) (by omega),ZP hd (by omega)];simp[IR];rw[ar9 (n:=n) D p.tables φ R C Θ S H (oV lot) (by show(jX d).length<=_;unfold jX;omega) (by show(jX d).length<_;unfold jX;omega)];have hr:((jX d).take 40).filter okV=fB d:=rfl;have s1:∀e:bZ,sub ([e]:U bZ) 0 1=[e]:=λ_=>rfl;have ap:∀k,k<=20->bP k k 1 1 24=true:=λk hk=>cK (by omega) (by simp[maxLen];omega);have lot:om n D p.tables φ R C Θ S H (oV lot) (fB d)=some (bif br (oV lot)then C8 (oV lot)else 0,D,p.tables,φ,R,C,Θ,S,H,oV lot,fB d):=by unfold om;rw[NR (by omega) (by omega)];simp
 simp[hr,lot,h2,h3,h4,h5,h6,h8,h9];rfl
theorem arp{p:dJ}{lot:j6}{d:bL}(hp:ajI n p)(hl:lot.area.length<=900)(hd:Ty d)(hn:2000000<=n):∃e1 e2 e3 e4 e5 e6 e7 e8:Int,∀D φ R C Θ S H,nS n (dJ.mk D p.tables φ R C Θ S H) lot d=some [⟨⟨#[97,114,101,97]⟩,e1⟩,⟨⟨#[99,111,118,101,114]⟩,e2⟩,⟨⟨#[102,108,111,111,114]⟩,e3⟩,⟨⟨#[102,108,111,111,114,115]⟩,e4⟩,⟨⟨#[104,101,105,103,104,116]⟩,e5⟩,⟨⟨#[104,111,109,101,115]⟩,e6⟩,⟨⟨#[114,117,110,111,102,102]⟩,e7⟩,⟨zT,qY (oV lot) (fB d)⟩,⟨⟨#[116,114,97,102,102,105,99]⟩,e8⟩]:=⟨_,_,_,_,_,_,_,_,asb (n:=n) hp hl hd hn⟩
theorem aqI{p:dJ}{lot:j6}{d:bL}(hp:ajI n p)(hl:lot.area.length<=900)(hd:Ty d)(hn:2000000<=n):∃e1 e2 e3 e4 e5 e6 e7 e8:Int,∀R:U bO,nS n (dJ.mk p.defs p.tables p.zones R p.caps p.views p.tf p.hours) lot d=some [⟨⟨#[97,114,101,97]⟩,e1⟩,⟨⟨#[99,111,118,101,114]⟩,e2⟩,⟨⟨#[102,108,111,111,114]⟩,e3⟩,⟨⟨#[102,108,111,111,114,115]⟩,e4⟩,⟨⟨#[104,101,105,103,104,116]⟩,e5⟩,⟨⟨#[104,111,109,101,115]⟩,e6⟩,⟨⟨#[114,117,110,111,102,102]⟩,e7⟩,⟨zT,qY (oV lot) (fB d)⟩,⟨⟨#[116,114,97,102,102,105,99]⟩,e8⟩]:=by have⟨e1,e2,e3,e4,e5,e6,e7,e8,h⟩:=arp (n:=n) hp hl hd hn;exact⟨e1,e2,e3,e4,e5,e6,e7,e8,λR=>h _ _ R _ _ _ _⟩
theorem ala(ds:U (ByteArray×ET)) s:∀(k:Nat) i,PL ds s k=some i->0<=i/\i<k
 | 0,i,h=>by simp[PL]at h
 |k+1,i,h=>by simp[PL]at h;split at h;cases h;omega;have:=ala ds s k i h;omega
theorem aqc{ds:U (ByteArray×ET)}(h:sk ds<=4000000):xv (qx ds) ds.length:=by have hl:=Xa ds;refine⟨by simp[qx],by omega,λl hl=>?_⟩;simp only[qx,mem_map]at hl;obtain⟨d,hd,rfl⟩:=hl;have h1:=Xb hd;have h2:=ET.pd d.2;have h3:=agB d.2.names;refine⟨Nat.le_trans (List.length_filterMap_le _ _) (by omega),λk hk=>?_⟩;simp[iV]at hk;obtain⟨s,_,hk⟩:=hk;exact ala ds s _ k hk
theorem ahm{σ:U ByteArray}(hM:σ.length<=1000)(hn:1001<=n)(w0:U (ByteArray×Bool)):∃w,iter (qb σ) n (0,w0)=some w:=by obtain⟨o,h,_⟩:=gB (step:=qb σ) (λ i (v:Int×List (ByteArray×Bool))=>∃w,v=((i:Int),w)/\i<=σ.length) (λ _=>True) σ.length (λ k v ⟨_,_,h⟩=>h) (by rintro i v ⟨w,rfl,hi⟩;by_cases hlt:i<σ.length;simp only[qb,show decide ((i:Int)<σ.length)=true from by simp;omega,ak,bC hlt,bH hlt,ai,aW i];exact .inl ⟨_,rfl,_,rfl,hlt⟩;simp only[qb,show decide ((i:Int)<σ.length)=false from by simp;omega,ay];exact .inr ⟨_,rfl,trivial⟩) n 0 (0,w0) ⟨_,rfl,Nat.zero_le _⟩ (by omega);exact⟨o,h⟩
theorem ahn{p:dJ}(hp:p.defs.length<=4000000)(hn:4000001<=n)(w0:U (ByteArray×Bool)):iter (mG p) n (0,w0)=some (.inl ())\/iter (mG p) n (0,w0)=some (.inr ([],[],5)):=by
 obtain⟨o,h,h2⟩:=gB (step:=mG p) (λ i (v:Int×List (ByteArray×Bool))=>∃w,v=((i:Int),w)/\i<=p.defs.length) (λ o=>o=.inl ()\/o=.inr ([],[],5)) p.defs.length (λ k v ⟨_,_,h⟩=>h) (by
  rintro i v ⟨w,rfl,hi⟩;by_cases hlt:i<p.defs.length;simp only[mG,show decide ((i:Int)<p.defs.length)=true from by simp;omega,ak,bB hlt,ai,aW i];cases (fV Gb.fp p.defs[i].name w).getD false with
  |true=>exact .inr ⟨_,rfl,.inr rfl⟩
  |false=>exact .inl ⟨_,rfl,_,rfl,hlt⟩
  simp only[mG,show decide ((i:Int)<p.defs.length)=false from by simp;omega,ay];exact .inr ⟨_,rfl,.inl rfl⟩) n 0 (0,w0) ⟨_,rfl,Nat.zero_le _⟩ (by omega)
 rcases h2 with rfl|rfl;exact .inl h;exact .inr h
theorem aho:∃σ,yJ=some σ/\σ.length=9:=⟨_,rfl,rfl⟩
def jp(l:U iQ):Prop:=sk (l.map toD)<=4000000
theorem jp.len{l:U iQ}(h:jp l):l.length<=4000000:=by have:=Xa (l.map toD);rw[length_map]at this;unfold jp at h;omega
theorem jp.body{l:U iQ}(h:jp l){d:iQ}(hd:d∈l):(toE (dD.mk d.lr d.pC d.m7 d.li d.gh)).wt<=4000000:=by have h1:=Xb (mem_map.2 ⟨d,hd,rfl⟩:toD d∈l.map toD);unfold jp at h;simp[toD,ET.wt]at h1;simp[toE,ET.wt];omega
theorem VU{p:dJ}(hp:jp p.defs)(hn:5000003<=n):∃r,pM n p=some r/\r.1.length<=p.defs.length/\(∀ k∈r.1,0<=k/\k<p.defs.length)/\r.2.1.length<=p.defs.length+1:=by
 obtain⟨σ,hM,hM9⟩:=aho;obtain⟨w,hw⟩:=ahm (n:=n) (σ:=σ) (by omega) (by omega) [];have hg:xv (qx (p.defs.map toD)) p.defs.length:=by have:=aqc hp;rwa [length_map]at this
 have I3:mF p.defs=some (p.defs,qx (p.defs.map toD)):=by unfold mF;rw[Nat.ble_eq_true_of_le hp];rfl
 simp only[pM,hM,ai,hw];rcases ahn (n:=n) (p:=p) hp.len (by omega) w with h|h;have⟨c,hc,hc2,hc3⟩:=agL (n:=n) (a0:=p.defs) hg rfl hn;simp only[h,jO,I3,ai,hc];cases h0:(c.length==0)with
 |true=>
  have e:c=[]:=List.eq_nil_of_length_eq_zero (by simpa using h0);obtain⟨l,hl,hll,hlr⟩:=aok (n:=n) (a0:=qO.mk p.defs (qx (p.defs.map toD))) hg rfl (hc2 e) (by omega);simp only[ak,ai,ay,hl,fG,aO];exact⟨_,rfl,by simp[hll],hlr,by simp⟩
 |false=>
  simp only[ak,ai,ay,fG,aO];exact⟨_,rfl,by simp,by simp,hc3⟩
 simp only[h,rz];exact⟨_,rfl,by simp,by simp,by simp⟩
theorem EX(x:dD):dD.mk x.op x.n x.s x.key x.args=x:=by cases x;rfl
theorem QJ:∀l:U dD,JX l=l.map toE
 |[]=>rfl
 |x::xs=>by simp[JX,QJ xs]
theorem alb:∀{l:U ET}{t:ET},t∈l->t.wt<=ET.tI l
 |x::l,t,h=>by simp[ET.tI];rcases aG.1 h with rfl|h;omega;have:=alb h;omega
theorem aoQ{e x:dD}(h:x∈e.args):(toE x).wt<(toE e).wt:=by have h1:(toE x).wt<=ET.tI (JX e.args):=alb (by rw[QJ];exact mem_map.2 ⟨x,h,rfl⟩);cases e;simp[toE,ET.wt]at *;omega
theorem alc(e:dD):e.args.length<(toE e).wt:=by have h1:=ET.rx (JX e.args);rw[QJ,length_map]at h1;cases e;simp[toE,ET.wt,QJ]at *;omega
def VR:Nat->dD->Prop
 | 0,_=>False
 |k+1,e=>Au e.op=some ((e.args.length:Int),true)/\∀x∈e.args,VR k x
theorem ajJ op:∃a b,Au op=some (a,b):=by simp only[Au];cases (op==0)<;>cases (op==1)<;>cases (op==2)<;>cases (op==3)<;>cases (op==9)<;>cases (op==15)<;>cases (op==16)<;>cases (decide (op>=0))<;>exact⟨_,_,rfl⟩
theorem adr(hn:4000002<=n):∀(m:Nat)(e:dD)(a:Int),m<=9223372036854775000->0<=a->a<=12->13<=a+m->(toE e).wt<=4000000->∃r,uE n m e a=some r/\1<=r/\r<=13+m/\(r<=12->VR m e)
 | 0,_,_,_,_,_,h,_=>absurd h (by omega)
 |m+1,e,a,hm,h0,h1,h2,h3=>by
  have⟨x,b,hx⟩:=ajJ e.op;have hla:=alc e;show ∃r,Ck n (uE n m) e a=some r/\_;simp[Ck,hx];have bad:∃r,some (13:Int)=some r/\1<=r/\r<=13+(m+1:Nat)/\(r<=12->VR (m+1) e):=⟨13,rfl,by omega,by omega,λh=>absurd h (by omega)⟩;cases b with
  |false=>simpa[Bool.not_false,ak,ai]using bad
  |true=>
   simp;by_cases hxl:x=e.args.length;subst hxl;simp;by_cases ha:a>=12;simpa[ha,decide_true,ak]using bad;simp[ha]
   obtain⟨o,g1,g2,g3,g4⟩:=gB (step:=zq n (uE n m) e a) (λ i (v:Int×Int)=>v.2=i/\i<=e.args.length/\0<=v.1/\v.1<=13+m/\(v.1<=11->∀y∈e.args.take i,VR m y))
    (λ o=>0<=o/\o<=13+m/\(o<=11->∀y∈e.args,VR m y)) e.args.length (λ k v h=>h.2.1) (by rintro i ⟨v2,v3⟩ ⟨hv,hi,i1,i2,i3⟩;simp at hv i1 i2 i3;subst hv;by_cases hlt:i<e.args.length;left;have hwx:=aoQ (getElem_mem hlt);obtain⟨r,r1,r2,r3,r4⟩:=adr hn m e.args[i] (a+1) (by omega) (by omega) (by omega) (by omega) (by omega);refine⟨(max v2 r,(i+1:Nat)),?_,rfl,hlt,by show 0<=max v2 r;omega,by show max v2 r<=_;omega,λh y hy=>?_⟩;simp only[zq,show decide ((i:Int)<e.args.length)=true from by simp;omega,ak,bB hlt,ai,EX,bT (show -9223372036854775808<=a+1 by omega) (show a+1<=9223372036854775807 by omega),r1,aW i];have h':max v2 r<=11:=h;rw[List.take_add_one,dY hlt]at hy;rw[bD]at hy;rcases hy with hy|hy;exact i3 (by omega) y hy;simp at hy;subst hy;exact r4 (by omega);right;refine⟨v2,?_,i1,i2,λh y hy=>i3 h y (by rw[take_of_length_le (by omega)];exact hy)⟩;simp only[zq,show decide ((i:Int)<e.args.length)=false from by simp;omega,ay]) n 0 (0,0) ⟨rfl,Nat.zero_le _,by simp,by show 0<=_;omega,by simp⟩ (by omega)
   simp only[g1,ai];rw[bT (by omega) (by omega)];exact⟨o+1,rfl,by omega,by omega,λh=>⟨hx,g4 (by omega)⟩⟩;simpa[show (x !=(e.args.length:Nat))=true from by simpa using hxl,ak,ai]using bad
theorem Vp(hn:4000002<=n)(hn2:n<=9223372036854775000){e:dD}(h:(toE e).wt<=4000000):∃b,EG n e=some b/\(b=true->VR n e):=by obtain⟨r,h1,h2,h3,h4⟩:=adr hn n e 0 hn2 (by omega) (by omega) (by omega) h;refine⟨decide (r<=12),?_,λh=>h4 (by simpa using h)⟩;simp[EG,EX,Sy,h1]
def asc(tables:U dX)(s key:ByteArray):Int:=match tables.find? λt=>ByteArray.toList t.name==ByteArray.toList s with
 |some t=>ar4 t key
 |none=>0
def P3(ts:U dX):Prop:=ts.length<=4000000/\∀t∈ts,t.rows.length<=4000000
theorem amu(hn:4000002<=n){a0:U iQ}{ts:U dX}{a2:U gm}{a3:U bO}{a4:U j5}{a5:U jd}{a6:U d9}{a7:Int}{zs:U ByteArray}(ht:P3 ts)(e:dD)(kn:U (ByteArray×Int)):jV n a0 ts a2 a3 a4 a5 a6 a7 zs e kn=some (asc ts e.s e.key,kn):=by
 have h1:=ht.1;simp[jV];rw[H8 (λ t=>ByteArray.toList t.name==ByteArray.toList e.s) (λ x _=>rfl) (by omega) (by omega)];simp[asc];rcases ZE (λ t:dX=>ByteArray.toList t.name==ByteArray.toList e.s) ts with ⟨i,hi,h1,h2⟩|⟨h1,h2⟩;rw[h1,h2];have d:decide ((i:Int)<0)=false:=by simp
 have hr:=ht.2 _ (getElem_mem hi);simp[d,bB hi];rw[H9 (λ x=>ByteArray.toList x.name==ByteArray.toList e.key) (λ x _=>rfl) (by omega) (by omega)];simp[ar4];rcases ZE (λ x:bZ=>ByteArray.toList x.name==ByteArray.toList e.key) ts[i].rows with ⟨j,hj,g1,g2⟩|⟨g1,g2⟩;rw[g1,g2];have d:decide ((j:Nat)>=0)=true:=by simp
 simp[bB hj];rw[g1,g2];rfl;rw[h1,h2];rfl
theorem fE{α:Type}{c:Bool}{x y:J α}(hx:∃r,x=some r)(hy:∃r,y=some r):∃r,(bif c then x else y)=some r:=by cases c<;>assumption
theorem abz(a b:Int):∃r,yu a b=some r:=by
 simp[yu];cases h:(b==0)with
 |true=>exact⟨_,rfl⟩
 |false=>
  have:(b !=0)=true:=by simp[bne,h]
  simp[this];cases (Int.tmod a b !=0)<;>cases (decide (Int.tmod a b<0)==decide (b<0))<;>exact⟨_,rfl⟩
theorem ZR b:∃r,yK b=some r:=fE ⟨_,rfl⟩ ⟨_,rfl⟩
theorem uK{α G:Type}{x:J α}{f:α->J G}(hx:∃r,x=some r)(hf:∀r,∃s,f r=some s):∃s,x.bind f=some s:=by obtain⟨r,rfl⟩:=hx;exact hf r
theorem ahp(op a b:Int):∃r,LA op a b=some r:=by
 have q:=abz a b;have t:=λc=>ZR c;unfold LA
 repeat' first
  |exact⟨_,rfl⟩
  |exact q
  |exact t _
  |apply fE
  |(refine uK ?_ λr=>?_)
theorem Ky(h:0<n):cR 0 n=true:=by simp[cR];omega
theorem ahq(h:1<n):cR 1 n=true:=by simp[cR];omega
theorem aoR(h:2<n):cR 2 n=true:=by simp[cR];omega
theorem QK{α:Type}{l:U α}(h:0<l.length):ci l ((0:Nat)+0)=some l[0]:=bH (i:=0) h
theorem ale{α:Type}{l:U α}(h:1<l.length):ci l ((0:Nat)+1)=some l[1]:=bH (i:=1) h
theorem aqd{α:Type}{l:U α}(h:2<l.length):ci l ((0:Nat)+2)=some l[2]:=bH (i:=2) h
theorem abA{l:U ByteArray}{s:ByteArray}(hl:l.length<=4000000)(hn:4000002<=n):∃r,gu n l s=some r:=by
 obtain⟨o,h,_⟩:=gB (step:=pz l s) (λ i v=>v=i/\i<=l.length) (λ _=>True) l.length (λ k v h=>h.2) (by
  rintro i v ⟨rfl,hi⟩;by_cases hlt:i<l.length;simp only[pz,show decide ((i:Int)<l.length)=true from by simp;omega,ak,bB hlt,ai,aW i];cases (ByteArray.toList s==ByteArray.toList l[i])with
  |true=>exact .inr ⟨_,rfl,trivial⟩
  |false=>exact .inl ⟨_,rfl,rfl,hlt⟩
  simp only[pz,show decide ((i:Int)<l.length)=false from by simp;omega,ay];exact .inr ⟨_,rfl,trivial⟩) n 0 0 ⟨rfl,Nat.zero_le _⟩ (by omega)
 simp only[gu,tL,h];cases o with
 |inl u=>cases u;simp only[jO,ai];exact⟨_,rfl⟩
 |inr r=>simp only[rz,ai];exact⟨_,rfl⟩
theorem amv{op a:Int}(h0:(op==0)=false)(h1:(op==1)=false)(h2:(op==2)=false)(h3:(op==3)=false)(h9:(op==9)=false)(OS:(op==15)=false)(h16:(op==16)=false)(h:Au op=some (a,true)):a=2:=by
 simp[Au,h0,h1,h2,h3,h9,OS,h16]at h;cases hd:decide (op>=0)with
 |true=>rw[hd]at h;simp at h;exact h.1.symm
 |false=>rw[hd]at h;simp at h
section
variable {n:Nat} {a0:List iQ} {ts:List dX} {a2:List gm} {a3:List bO} {a4:List j5} {a5:List jd} {a6:List d9} {a7:Int} {zs:List ByteArray}
theorem ZT(hn:4000002<=n)(ht:P3 ts)(hz:zs.length<=4000000):∀(m:Nat)(e:dD)(kn:U (ByteArray×Int)),VR m e->(toE e).wt<=4000000->∃v,dm n m a0 ts a2 a3 a4 a5 a6 a7 zs e kn=some (v,kn)
 | 0,_,_,h,_=>h.elim
 |m+1,e,kn,⟨ha,hr⟩,hw=>by
  have hla:=alc e;have hmx:maxLen=9223372036854775807:=rfl;show ∃v,fM n (dm n m) a0 ts a2 a3 a4 a5 a6 a7 zs e kn=some (v,kn)
  obtain⟨o,h1,l,rfl,hl⟩:=gB (step:=fH n (dm n m) a0 ts a2 a3 a4 a5 a6 a7 zs e) (λ i (v:Int×List (ByteArray×Int)×List Int)=>∃l,v=((i:Int),kn,l)/\i<=e.args.length/\l.length=i)
   (λ o=>∃l,o=(kn,l)/\l.length=e.args.length) e.args.length (λ k v ⟨_,_,h,_⟩=>h) (by
   rintro i v ⟨l,rfl,hi,hl⟩;by_cases hlt:i<e.args.length;left;have hwx:=aoQ (getElem_mem hlt);obtain⟨x,hx⟩:=ZT hn ht hz m e.args[i] kn (hr _ (getElem_mem hlt)) (by omega);have key:∃b,((bif (e.op==(16:Int))then(bif (decide ((i:Int)>(0:Int)))then(ck (cR 0 l.length) ((ci l ((0:Nat)+0:Int)).bind λx2=>some (!((x2 !=(0:Int))==((i:Int)==1)))))else some false)else some false):J (Bool))=some b:=(by refine fE ?_ ⟨_,rfl⟩;by_cases h0:(i:Int)>0;simp only[h0,decide_true,ak,Ky (show 0<l.length by omega),QK (show 0<l.length by omega),ai];exact⟨_,rfl⟩;simp only[h0,decide_false,ay];exact⟨_,rfl⟩);obtain⟨b,hb⟩:=key;have hap:∀z:Int,bP l.length l.length (sub [z] 0 1).length 1 8=true:=λz=>(by simp[bP,sub];omega);simp only[fH,show decide ((i:Int)<e.args.length)=true from by simp;omega,ak,bB hlt,ai,hb,EX,hx,hap,eH,aO,aW i];cases b with
   |true|false=>exact⟨_,rfl,_,rfl,hlt,by simp[sub,hl]⟩
   right;refine⟨(kn,l),?_,l,rfl,by omega⟩;simp only[fH,show decide ((i:Int)<e.args.length)=false from by simp;omega,ay,aO,ak]) n 0 (0,kn,[]) ⟨[],rfl,Nat.zero_le _,rfl⟩ (by omega)
  simp only[fM,List.length_nil,aO,ak,h1,ai,EX,amu hn ht];cases h0:(e.op==0)with
  |true=>exact⟨_,rfl⟩
  |false=>
  cases h1:(e.op==1)with
  |true=>exact⟨_,rfl⟩
  |false=>
  cases h2:(e.op==2)with
  |true=>exact⟨_,rfl⟩
  |false=>
  cases h3:(e.op==3)with
  |true=>
   have⟨r,hr⟩:=abA (n:=n) (l:=zs) (s:=e.s) hz hn;have⟨r2,hr2⟩:=ZR r;simp only[ay,ak,hr,hr2,ai];exact⟨_,rfl⟩
  |false=>
  cases h9:(e.op==9)with
  |true=>
   have e9:e.op=9:=(by simpa using h9);rw[e9]at ha;have:l.length=1:=(by have h:some (1,true)=some ((e.args.length:Int),true):=ha;simp at h;omega);simp only[ay,ak,Ky (show 0<l.length by omega),QK (show 0<l.length by omega),ai];exact⟨_,rfl⟩
  |false=>
  cases OS:(e.op==15)with
  |true=>
   have e15:e.op=15:=(by simpa using OS);rw[e15]at ha;have:l.length=1:=(by have h:some (1,true)=some ((e.args.length:Int),true):=ha;simp at h;omega);obtain⟨r2,hr2⟩:=ZR (l[0]'(by omega)==0);simp only[ay,ak,Ky (show 0<l.length by omega),QK (show 0<l.length by omega),ai,hr2];exact⟨_,rfl⟩
  |false=>
  cases h16:(e.op==16)with
  |true=>
   have e16:e.op=16:=(by simpa using h16);rw[e16]at ha;have:l.length=3:=(by have h:some (3,true)=some ((e.args.length:Int),true):=ha;simp at h;omega);simp only[ay,ak,Ky (show 0<l.length by omega),QK (show 0<l.length by omega),ahq (show 1<l.length by omega),ale (show 1<l.length by omega),aoR (show 2<l.length by omega),aqd (show 2<l.length by omega),ai];cases (l[0]'(by omega) !=0)<;>exact⟨_,rfl⟩
  |false=>
   have:l.length=2:=(by have:=amv h0 h1 h2 h3 h9 OS h16 ha;omega);obtain⟨r,hr⟩:=ahp e.op (l[0]'(by omega)) (l[1]'(by omega));simp only[ay,ak,Ky (show 0<l.length by omega),QK (show 0<l.length by omega),ahq (show 1<l.length by omega),ale (show 1<l.length by omega),ai,hr];exact⟨_,rfl⟩
end
theorem ZU{ms:U bZ}(h:ms.length<=4000000)(hn:4000002<=n):∃o,iter (gK n ms) n (0,[],[])=some o:=by obtain⟨o,h,_⟩:=gB (step:=gK n ms) (λ i (v:Int×List (ByteArray×Int)×List (ByteArray×Bool))=>∃a b,v=((i:Int),a,b)/\i<=ms.length) (λ _=>True) ms.length (λ k v ⟨_,_,_,h⟩=>h) (by rintro i v ⟨a,b,rfl,hi⟩;by_cases hlt:i<ms.length;left;simp only[gK,show decide ((i:Int)<ms.length)=true from by simp;omega,ak,bB hlt,ai,aW i];cases (!((fV Gb.fp ms[i].name b).getD false))<;>exact⟨_,rfl,_,_,rfl,hlt⟩;right;simp only[gK,show decide ((i:Int)<ms.length)=false from by simp;omega,ay];exact⟨_,rfl,trivial⟩) n 0 _ ⟨[],[],rfl,Nat.zero_le _⟩ (by omega);exact⟨o,h⟩
structure Sf(p:dJ):Prop where
 defs:jp p.defs
 tabs:P3 p.tables
theorem Xo(a b:ByteArray):Gb.fp a b=true↔a=b:=by unfold Gb.fp;rw[beq_iff_eq,ByteArray.toList_eq,ByteArray.toList_eq];exact⟨λ h=>ByteArray.ext (Array.toList_inj.1 h),λh=>by rw[h]⟩
theorem ahr{Θ:Type}(k k':ByteArray)(v:Θ)(h:k≠k'):∀l:U (ByteArray×Θ),fV Gb.fp k (Hz Gb.fp k' v l)=fV Gb.fp k l
 |[]=>by
  have:Gb.fp k k'=false:=by rw[Bool.eq_false_iff];exact λe=>h ((Xo _ _).1 e)
  simp[Hz,fV,this]
 |p::l=>by
  have e:Gb.fp k k'=false:=by rw[Bool.eq_false_iff];exact λe=>h ((Xo _ _).1 e)
  have ih:=ahr k k' v h l;simp[Hz];cases c:Gb.fp k' p.1 with
  |true=>
   have:=(Xo _ _).1 c;subst this;simp[fV,e]
  |false=>simp[fV,ih]
theorem GN{p:dJ}{ms:U bZ}{zs:U ByteArray}(hp:Sf p)(hm:ms.length<=4000000)(hz:zs.length<=4000000)(hn:5000003<=n)(hn2:n<=9223372036854775000):∃kn aa,nU n p ms zs=some (p.defs,p.tables,p.zones,p.rules,p.caps,p.views,p.tf,p.hours,zs,kn,aa)/\aa.length=p.defs.length/\∀w,iter (gK n ms) n (0,[],[])=some w->∀s,(fV Gb.fp s w.2).getD false=true->fV Gb.fp s kn=fV Gb.fp s w.1:=by
 obtain⟨⟨w1,w2⟩,hs1⟩:=ZU (n:=n) hm (by omega);have⟨r,hr,hrl,hrr,_⟩:=VU (n:=n) hp.defs hn;have hl:=hp.defs.len;have hmx:maxLen=9223372036854775807:=rfl;have hmk:Bn p.defs.length 8=true:=by simp[Bn];omega
 simp only[nU,hs1,ai,Int.le_refl,decide_true,Bool.true_and,hmk,hr];cases hb:(r.2.2 !=0)with
 |true=>
  simp only[ak,Int.toNat_natCast,List.length_replicate,aO];exact⟨_,_,rfl,by simp,λw hw s _=>by cases hw;rfl⟩
 |false=>
  obtain⟨o,h1,kn,aa,rfl,h2,h3⟩:=gB (step:=iG n p zs w2 r) (λ i (v:Int×List (ByteArray×Int)×List Int)=>∃kn aa,v=((i:Int),kn,aa)/\i<=r.1.length/\aa.length=p.defs.length/\∀s,(fV Gb.fp s w2).getD false=true->fV Gb.fp s kn=fV Gb.fp s w1)
   (λ o=>∃kn aa,o=(kn,aa)/\aa.length=p.defs.length/\∀s,(fV Gb.fp s w2).getD false=true->fV Gb.fp s kn=fV Gb.fp s w1) r.1.length (λ k v ⟨_,_,_,h,_⟩=>h) (by
   rintro i v ⟨kn,aa,rfl,hi,hol,hK⟩;by_cases hlt:i<r.1.length;left;have hk:=hrr r.1[i] (getElem_mem hlt);obtain⟨k,hk2⟩:=Int.eq_ofNat_of_zero_le hk.1;have hkd:k<p.defs.length:=(by omega);have hko:k<aa.length:=(by omega);have hbw:=hp.defs.body (getElem_mem hkd);obtain⟨b,hb1,hb2⟩:=Vp (n:=n) (by omega) hn2 hbw;simp only[iG,show decide ((i:Int)<r.1.length)=true from by simp;omega,ak,bC hlt,bH hlt,ai,hk2,bB hkd,hb1,Int.toNat_natCast,bC hkd,bH hko,aW i,show(((0:Nat):Int)+k).toNat=k by omega];have step2:∀(Of:U (ByteArray×Int)) out',out'.length=p.defs.length->(∀ s,(fV Gb.fp s w2).getD false=true->fV Gb.fp s Of=fV Gb.fp s w1)->∃IF,((bif (!((fV Gb.fp p.defs[k].name w2).getD false))then(ci out' ((0:Nat)+k:Int)).bind λx5=>some (Hz Gb.fp p.defs[k].name x5 Of,out')else some (Of,out')):J ((List (ByteArray×Int))×(List Int)))=some (IF,out')/\∀s,(fV Gb.fp s w2).getD false=true->fV Gb.fp s IF=fV Gb.fp s w1:=by
    intro Of out' ho hK;cases hc:(fV Gb.fp p.defs[k].name w2).getD false with
    |false=>
     simp only[Bool.not_false,ak,bH (show k<out'.length by omega),ai];exact⟨_,rfl,λs hs=>by rw[ahr _ _ _ (λ e=>by rw[e,hc]at hs;cases hs)];exact hK s hs⟩
    |true=>exact⟨_,rfl,hK⟩
   cases b with
   |true=>
    obtain⟨v,hv⟩:=ZT (n:=n) (a0:=p.defs) (a2:=p.zones) (a3:=p.rules) (a4:=p.caps) (a5:=p.views) (a6:=p.tf) (a7:=p.hours) (by omega) hp.tabs hz n _ kn (hb2 rfl) hbw;simp only[fK,hv,ak,ai];obtain⟨kn2,h2,h3⟩:=step2 kn (aa.set k v) (by simp[hol]) hK;rw[h2];exact⟨_,rfl,_,_,rfl,hlt,by simp[hol],h3⟩
   |false=>
    simp only[ay,ai];have⟨kn2,h2,h3⟩:=step2 kn aa hol hK;rw[h2];exact⟨_,rfl,_,_,rfl,hlt,hol,h3⟩
   right;simp only[iG,show decide ((i:Int)<r.1.length)=false from by simp;omega,ay];exact⟨_,rfl,_,_,rfl,hol,hK⟩) n 0 (0,w1,List.replicate p.defs.length 0) ⟨_,_,rfl,Nat.zero_le _,by simp,λ_ _=>rfl⟩ (by omega)
  simp only[ay,Int.toNat_natCast,h1,ai,h2,aO,ak];exact⟨_,_,rfl,h2,λw hw=>by cases hw;exact h3⟩
theorem all_eq{d:bL}(h:Ty d)(hn:1001<=n):xZ n d=some (jX d):=by simp[xZ,ZP h hn]
theorem abB(a b:ByteArray)(h:a.size<=4000000):∃r,strings_Contains a b=some r:=by simp only[strings_Contains,Nat.ble_eq_true_of_le h,ak];exact⟨_,rfl⟩
theorem Vq c:∃b,Gl c=some b:=fE ⟨_,rfl⟩ ⟨_,rfl⟩
theorem ajK c:∃b,Sw c=some b:=fE ⟨_,rfl⟩ ⟨_,rfl⟩
theorem amw c:∃b,Ch c=some b:=uK (Vq c) λ_=>fE ⟨_,rfl⟩ (uK (ajK c) λ_=>⟨_,rfl⟩)
theorem ahs{s:ByteArray}{i:Nat}(h:i<s.size):∃c,UQ s i=some c:=by simp only[UQ,Int.toNat_natCast];rw[getElem?_pos s i h];exact⟨_,rfl⟩
theorem amx{s:ByteArray}{Z:(Int×Unit)->J Bool}(h:∀c,∃b,Z (c,())=some b)(hs:s.size<=4000000)(hn:4000002<=n):∃r,Qe n s Z=some r:=by
 obtain⟨o,h1,_⟩:=gB (step:=Cg s Z) (λ i v=>v=i/\i<=s.size) (λ _=>True) s.size (λ k v h=>h.2) (by
  rintro i v ⟨rfl,hi⟩;by_cases hlt:i<s.size;have⟨c,hc⟩:=ahs hlt;have⟨b,hb⟩:=h c;simp only[Cg,show decide ((i:Int)<s.size)=true from by simp;omega,ak,hc,ai,hb,aW i];cases b with
  |true=>exact .inl ⟨_,rfl,rfl,hlt⟩
  |false=>exact .inr ⟨_,rfl,trivial⟩
  simp only[Cg,show decide ((i:Int)<s.size)=false from by simp;omega,ay,ai];exact .inr ⟨_,rfl,trivial⟩) n 0 0 ⟨rfl,Nat.zero_le _⟩ (by omega)
 simp only[Qe,h1,ai];exact⟨_,rfl⟩
theorem amy(s:ByteArray)(hn:4000002<=n):∃b,Qf n s=some b/\(b=true->s.size<=20):=by
 simp only[Qf];cases h0:(ByteArray.toList s==ByteArray.toList (⟨#[]⟩))with
 |true=>exact⟨false,by simp,λh=>(by cases h)⟩
 |false=>
  have hs:0<s.size:=by refine Nat.pos_of_ne_zero λh=>?_;have:s=⟨#[]⟩:=(by obtain⟨⟨l⟩⟩:=s;have:l.length=0:=h;rw[List.eq_nil_of_length_eq_zero this]);rw[this]at h0;simp at h0
  have⟨c,hc⟩:=ahs hs;have hc':UQ s 0=some c:=hc;have⟨b,hb⟩:=Vq c;simp only[ay,hc',ai,hb];cases b with
  |false=>exact⟨false,by simp,λh=>(by cases h)⟩
  |true=>
   simp only[Bool.not_true,ay,ai];by_cases h20:(s.size:Int)>20;exact⟨false,by simp[h20],λh=>(by cases h)⟩;obtain⟨r,hr⟩:=amx (n:=n) (s:=s) (Z:=λ(y1:Int×Unit)=>Ch y1.1) (λ c=>amw c) (by omega) hn;simp only[h20,decide_false,ay,hr,ai];exact⟨_,rfl,λ_=>by omega⟩
theorem amz(s:ByteArray)(hn:4000002<=n):∃b,yc n s=some b:=by
 have⟨b,hb,h20⟩:=amy (n:=n) s hn;simp only[yc,hb,ai];cases b with
 |false=>exact⟨_,rfl⟩
 |true=>
  have hs:=h20 rfl;have hmx:maxLen=9223372036854775807:=rfl;have c1:Ya (⟨#[32]⟩) s=true:=by have:(⟨#[32]⟩:ByteArray).size=1:=rfl;simp[Ya];omega
  have c2:Ya ((⟨#[32]⟩)++s) (⟨#[32]⟩)=true:=by have h1:(⟨#[32]⟩:ByteArray).size=1:=rfl;simp[Ya];omega
  simp only[ak,c1,c2];refine uK (abB _ _ (Nat.le_of_ble_eq_true ?_)) λ_=>⟨_,rfl⟩
  kernel_rfl
theorem amA(a b:Fo):∃r,zk a b=some r:=by unfold zk;rw[AO];exact fE (fE ⟨_,rfl⟩ ⟨_,rfl⟩) ⟨_,rfl⟩
theorem gQ{l:U aF}{Z:(aF×Unit)->J Bool}(p:aF->Bool)(h:∀x∈l,Z (x,())=some (p x))(hl:l.length<1099511627776)(hn:l.length<n):gH n l Z=some (l.any p):=by have:sF n l Z=some (CU p l):=jc p h hl hn;simp[gH,this,yZ]
theorem zH{l:U aF}{Z:(aF×Unit)->J Bool}(h:∀x∈l,∃b,Z (x,())=some b)(hl:l.length<1099511627776)(hn:l.length<n):gH n l Z=some (l.any λx=>(Z (x,())).getD false):=
 gQ _ (λ x hx=>by have⟨b,hb⟩:=h x hx;rw[hb];rfl) hl hn
def Hj(d:bL):Prop:=∀p∈d.phases,p.gives.length<=1000
theorem ajL{l:U aF}(hl:l.length<=1000000)(hn:4000002<=n):iter (mh n l) n 0=some (.inr false)\/(iter (mh n l) n 0=some (.inl ())/\∀v∈l,okV v=true):=by
 obtain⟨o,h1,h2⟩:=gB (step:=mh n l) (λ i v=>v=i/\i<=l.length/\∀x∈l.take i,okV x=true) (λ o=>o=.inr false\/(o=.inl ()/\∀v∈l,okV v=true)) l.length (λ k v h=>h.2.1) (by
  rintro i v ⟨rfl,hi,hall⟩;by_cases hlt:i<l.length;simp only[mh,show decide ((i:Int)<l.length)=true from by simp;omega,ak,bC hlt,bH hlt,ai,vR,aW i];cases hv:okV l[i]with
  |false=>exact .inr ⟨_,by simp only[Bool.not_false,ak,ai];rfl,.inl rfl⟩
  |true=>
   have hsub:(sub l 0 i).length=i:=(by simp[sub];omega);have hc:=zH (n:=n) (l:=sub l 0 i) (Z:=λ(y1:aF×Unit)=>tT y1.1 l[i]) (λ x _=>uK (amA _ _) λ_=>⟨_,rfl⟩) (by omega) (by omega);simp[wM (show 0<=0 by omega) (show (0:Int)<=i by omega) (show (i:Int)<=l.length by omega),JH hsub,hc];cases ((sub l 0 i).any λx=>((λ (y1:aF×Unit)=>tT y1.1 l[i]) (x,())).getD false)with
   |true=>exact .inr ⟨_,rfl,.inl rfl⟩
   |false=>
    refine .inl ⟨_,rfl,rfl,hlt,λx hx=>?_⟩;rw[List.take_add_one,dY hlt,bD]at hx;rcases hx with hx|hx;exact hall x hx;simp at hx;subst hx;exact hv
  refine .inr ⟨.inl (),?_,.inr ⟨rfl,λv hv=>hall v (by rw[take_of_length_le (by omega)];exact hv)⟩⟩;simp only[mh,show decide ((i:Int)<l.length)=false from by simp;omega,ay]) n 0 0 ⟨rfl,Nat.zero_le _,by simp⟩ (by omega)
 rcases h2 with rfl|⟨rfl,h2⟩;exact .inl h1;exact .inr ⟨h1,h2⟩
theorem ajM{p:pu}(hp:p.gives.length<=1000)(hn:4000002<=n):iter (mq n p) n (0,[])=some (.inl ())\/iter (mq n p) n (0,[])=some (.inr (.inr (.inr false))):=by
 obtain⟨o,h1,h2⟩:=gB (step:=mq n p) (λ i (v:Int×List (ByteArray×Bool))=>∃m,v=((i:Int),m)/\i<=p.gives.length) (λ o=>o=.inl ()\/o=.inr (.inr (.inr false))) p.gives.length (λ k v ⟨_,_,h⟩=>h) (by
  rintro i v ⟨m,rfl,hi⟩;by_cases hlt:i<p.gives.length;have key:∃b,((bif ((fV Gb.fp p.gives[i].name m).getD false)then some true else(yc n p.gives[i].name).bind λr4=>(bif (!r4)then some true else(bif (decide (p.gives[i].n<0))then some true else some (decide (p.gives[i].n>1073741824))))):J (Bool))=some b:=
   fE ⟨_,rfl⟩ (uK (amz _ hn) λ_=>fE ⟨_,rfl⟩ (fE ⟨_,rfl⟩ ⟨_,rfl⟩))
  obtain⟨b,hb⟩:=key;simp only[mq,show decide ((i:Int)<p.gives.length)=true from by simp;omega,ak,bB hlt,ai,hb,aW i];cases b with
  |true=>exact .inr ⟨_,rfl,.inr rfl⟩
  |false=>exact .inl ⟨_,rfl,_,rfl,hlt⟩
  simp only[mq,show decide ((i:Int)<p.gives.length)=false from by simp;omega,ay];exact .inr ⟨_,rfl,.inl rfl⟩) n 0 _ ⟨[],rfl,Nat.zero_le _⟩ (by omega)
 rcases h2 with rfl|rfl;exact .inl h1;exact .inr h1
theorem ajN{d:bL}(hd:Ty d)(hg:Hj d)(hn:4000002<=n):iter (mD n d) n 0=some (.inl ())\/iter (mD n d) n 0=some (.inr false):=by
 have hd1:=hd.1;obtain⟨o,h1,h2⟩:=gB (step:=mD n d) (λ i v=>v=i/\i<=d.phases.length) (λ o=>o=.inl ()\/o=.inr false) d.phases.length (λ k v h=>h.2) (by
  rintro i v ⟨rfl,hi⟩;by_cases hlt:i<d.phases.length;simp only[mD,show decide ((i:Int)<d.phases.length)=true from by simp;omega,ak,bB hlt,ai,aW i];rcases ajM (n:=n) (hg _ (getElem_mem hlt)) hn with h|h;simp[h];cases decide ((d.phases[i].gives.length:Int)>30)with
  |true=>exact .inr ⟨_,rfl,.inr rfl⟩
  |false=>exact .inl ⟨_,rfl,rfl,hlt⟩
  simp only[h,rz];exact .inr ⟨_,rfl,.inr rfl⟩;simp only[mD,show decide ((i:Int)<d.phases.length)=false from by simp;omega,ay];exact .inr ⟨_,rfl,.inl rfl⟩) n 0 0 ⟨rfl,Nat.zero_le _⟩ (by omega)
 rcases h2 with rfl|rfl;exact .inl h1;exact .inr h1
theorem LD{d:bL}(hd:Ty d):(jX d).length<=1000000:=by have:=fg hd.2;have:=hd.1;unfold jX;omega
theorem alf{d:bL}(hd:Ty d)(hg:Hj d)(hn:4000002<=n):∃b,zm n d=some b/\(b=true->∀v∈jX d,okV v=true):=by
 simp only[zm,all_eq hd (show 1001<=n by omega),ai];have key:∀c1 c2 c3 c4 c5 c6:Bool,∃b,((bif c1 then some true else(bif c2 then some true else(bif c3 then some true else(bif c4 then some true else(bif c5 then some true else some c6))))):J Bool)=some b:=by intro c1 c2 c3 c4 c5 c6;exact fE ⟨_,rfl⟩ (fE ⟨_,rfl⟩ (fE ⟨_,rfl⟩ (fE ⟨_,rfl⟩ (fE ⟨_,rfl⟩ ⟨_,rfl⟩))))
 have⟨b,hb⟩:=key (decide (d.lot<0)) (decide (d.lot>1073741824)) (decide ((d.phases.length:Int)<1)) (decide ((d.phases.length:Int)>8)) (decide (((jX d).length:Int)<1)) (decide (((jX d).length:Int)>40));rw[hb];cases b with
 |true=>exact⟨false,rfl,λh=>(by cases h)⟩
 |false=>
  simp only[ai,ay];rcases ajL (n:=n) (LD hd) hn with h|⟨h,hall⟩;simp only[h,rz];exact⟨false,rfl,λh=>(by cases h)⟩;simp only[h,jO];rcases ajN (n:=n) hd hg hn with h2|h2;simp only[h2,jO];exact⟨true,rfl,λ_=>hall⟩;simp only[h2,rz];exact⟨false,rfl,λh=>(by cases h)⟩
theorem GQ{l:U j5}{Z:(j5×Unit)->J Bool}(p:j5->Bool)(h:∀x∈l,Z (x,())=some (p x))(hl:l.length<1099511627776)(hn:l.length<n):oh n l Z=some (l.any p):=by have:wR n l Z=some (CU p l):=jc p h hl hn;simp[oh,this,yZ]
theorem aht{lot:j6}{l:U aF}(ha:lot.area.length<=900)(hv:∀v∈l,okV v=true)(hl:l.length<=1000000)(hn:4000002<=n):iter (gI n lot l) n 0=some (.inl ())\/iter (gI n lot l) n 0=some (.inr false):=by
 obtain⟨o,h1,h2⟩:=gB (step:=gI n lot l) (λ i v=>v=i/\i<=l.length) (λ o=>o=.inl ()\/o=.inr false) l.length (λ k v h=>h.2) (by
  rintro i v ⟨rfl,hi⟩;by_cases hlt:i<l.length;have hb:=yD (hv _ (getElem_mem hlt));have hcl:=Qu (keep:=λp q=>p&&q) lot.area [eG l[i]];have hc:=Qt (n:=n) (a:=lot.area) (b:=[eG l[i]]) (by omega) (by simp) (by omega) (by simp;omega) (by omega);have hA:=NR (n:=n) (a:=(jq (λ p q=>p&&q) lot.area [eG l[i]]).1) (by omega) (by omega);have hr:=zS hb;simp[eG]at hc hA hr;simp only[gI,show decide ((i:Int)<l.length)=true from by simp;omega,ak,bC hlt,bH hlt,ai,show ∀r:aj,sub [r] 0 1=[r]from λ_=>rfl,List.length_singleton,aO,hc,hA,hr,aW i];have key:∀c x:Bool,∃b,((bif c then some true else some x):J Bool)=some b:=λc x=>fE ⟨_,rfl⟩ ⟨_,rfl⟩;obtain⟨b,hb2⟩:=key ((jq (λ p q=>p&&q) lot.area [⟨l[i].b9,l[i].cy,l[i].b8,l[i].cw⟩]).2 !=0) (decide ((bif br (jq (λ p q=>p&&q) lot.area [⟨l[i].b9,l[i].cy,l[i].b8,l[i].cw⟩]).1 then C8 (jq (λ p q=>p&&q) lot.area [⟨l[i].b9,l[i].cy,l[i].b8,l[i].cw⟩]).1 else 0)<AP ⟨l[i].b9,l[i].cy,l[i].b8,l[i].cw⟩));rw[hb2];cases b with
  |true=>exact .inr ⟨_,rfl,.inr rfl⟩
  |false=>exact .inl ⟨_,rfl,rfl,hlt⟩
  simp only[gI,show decide ((i:Int)<l.length)=false from by simp;omega,ay];exact .inr ⟨_,rfl,.inl rfl⟩) n 0 0 ⟨rfl,Nat.zero_le _⟩ (by omega)
 rcases h2 with rfl|rfl;exact .inl h1;exact .inr h1
theorem aoS{p:dJ}{ph:pu}(hc:p.caps.length<=4000000)(hp:ph.gives.length<=1000)(hn:4000002<=n):iter (lq n p ph) n 0=some (.inl ())\/iter (lq n p ph) n 0=some (.inr (.inr (.inr false))):=by
 obtain⟨o,h1,h2⟩:=gB (step:=lq n p ph) (λ i v=>v=i/\i<=ph.gives.length) (λ o=>o=.inl ()\/o=.inr (.inr (.inr false))) ph.gives.length (λ k v h=>h.2) (by
  rintro i v ⟨rfl,hi⟩;by_cases hlt:i<ph.gives.length;simp only[lq,show decide ((i:Int)<ph.gives.length)=true from by simp;omega,ak,bB hlt,ai,GQ (n:=n) (l:=p.caps) (Z:=λ(y1:j5×Unit)=>wQ y1.1 ph.gives[i]) (λ c=>ByteArray.toList c.name==ByteArray.toList ph.gives[i].name) (λ _ _=>rfl) (by omega) (by omega),aW i];cases (p.caps.any λc=>ByteArray.toList c.name==ByteArray.toList ph.gives[i].name)with
  |false=>exact .inr ⟨_,rfl,.inr rfl⟩
  |true=>exact .inl ⟨_,rfl,rfl,hlt⟩
  simp only[lq,show decide ((i:Int)<ph.gives.length)=false from by simp;omega,ay];exact .inr ⟨_,rfl,.inl rfl⟩) n 0 0 ⟨rfl,Nat.zero_le _⟩ (by omega)
 rcases h2 with rfl|rfl;exact .inl h1;exact .inr h1
theorem aoT{p:dJ}{d:bL}(hc:p.caps.length<=4000000)(hd:Ty d)(hg:Hj d)(hn:4000002<=n):iter (lu n p d) n 0=some (.inl ())\/iter (lu n p d) n 0=some (.inr false):=by have hd1:=hd.1;obtain⟨o,h1,h2⟩:=gB (step:=lu n p d) (λ i v=>v=i/\i<=d.phases.length) (λ o=>o=.inl ()\/o=.inr false) d.phases.length (λ k v h=>h.2) (by rintro i v ⟨rfl,hi⟩;by_cases hlt:i<d.phases.length;simp only[lu,show decide ((i:Int)<d.phases.length)=true from by simp;omega,ak,bB hlt,ai,aW i];rcases aoS (n:=n) hc (hg _ (getElem_mem hlt)) hn with h|h;simp only[h,jO];exact .inl ⟨_,rfl,rfl,hlt⟩;simp only[h,rz];exact .inr ⟨_,rfl,.inr rfl⟩;simp only[lu,show decide ((i:Int)<d.phases.length)=false from by simp;omega,ay];exact .inr ⟨_,rfl,.inl rfl⟩) n 0 0 ⟨rfl,Nat.zero_le _⟩ (by omega);rcases h2 with rfl|rfl;exact .inl h1;exact .inr h1
theorem ads{p:dJ}{lot:j6}{d:bL}(hc:p.caps.length<=4000000)(ha:lot.area.length<=900)(hd:Ty d)(hg:Hj d)(hn:4000002<=n):∃b,gF n p lot d=some b/\(b=true->∀v∈jX d,okV v=true):=by
 have⟨b,hb,hv⟩:=alf (n:=n) hd hg hn;simp only[gF,hb,ai];cases b with
 |false=>exact⟨false,by simp,λh=>(by cases h)⟩
 |true=>
  simp only[Bool.not_true,ay,iJ (n:=n) (l:=lot.area) (by omega) (by omega) (by omega),ai];cases (lot.id !=d.lot)with
  |true=>exact⟨false,by simp,λh=>(by cases h)⟩
  |false=>
   cases br lot.area with
   |false=>exact⟨false,by simp,λh=>(by cases h)⟩
   |true=>
    simp only[Bool.not_true,ay,ai,all_eq hd (show 1001<=n by omega)];rcases aht (n:=n) ha (hv rfl) (LD hd) hn with h|h;simp only[h,jO];rcases aoT (n:=n) hc hd hg hn with h2|h2;simp only[h2,jO];exact⟨true,rfl,λ_=>hv rfl⟩;simp only[h2,rz];exact⟨false,rfl,λh=>(by cases h)⟩;simp only[h,rz];exact⟨false,rfl,λh=>(by cases h)⟩
theorem aqe{p:dJ}{ms:U bZ}{zs:U ByteArray}{e:dD}(hp:Sf p)(hm:ms.length<=4000000)(hz:zs.length<=4000000)(he:(toE e).wt<=4000000)(hn:5000003<=n)(hn2:n<=9223372036854775000):∃v,xB n p ms zs e=some v:=by
 obtain⟨b,hb,hv⟩:=Vp (n:=n) (by omega) hn2 he;simp[xB,EX,hb];cases b with
 |false=>exact⟨_,rfl⟩
 |true=>
  have⟨kn,aa,h1,_⟩:=GN (n:=n) hp hm hz hn hn2;obtain⟨v,h2⟩:=ZT (n:=n) (a0:=p.defs) (a2:=p.zones) (a3:=p.rules) (a4:=p.caps) (a5:=p.views) (a6:=p.tf) (a7:=p.hours) (by omega) hp.tabs hz n e kn (hv rfl) he;simp only[h1,ai,fK,h2];exact⟨_,rfl⟩
section
variable {n:Nat} {d:List iQ} {ts:List dX} {z z':List gm} {r r':List bO} {c c':List j5} {v v':List jd} {su s8:List d9} {h h':Int} {zs:List ByteArray}
theorem Kz:∀(m:Nat)(e:dD)(kn:U (ByteArray×Int)),dm n m d ts z r c v su h zs e kn=dm n m d ts z' r' c' v' s8 h' zs e kn
 | 0,_,_=>rfl
 |m+1,e,kn=>by
  have ih:=Kz m;have hs:fH n (dm n m) d ts z r c v su h zs e=fH n (dm n m) d ts z' r' c' v' s8 h' zs e:=by funext ⟨v1,v2,v3⟩;simp only[fH,ih]
  have hr:∀w,jV n d ts z r c v su h zs e w=jV n d ts z' r' c' v' s8 h' zs e w:=λ_=>rfl;show fM n (dm n m) d ts z r c v su h zs e kn=fM n (dm n m) d ts z' r' c' v' s8 h' zs e kn;simp only[fM,hs,EX,hr]
theorem ajO{ms:U bZ}:(nU n (dJ.mk d ts z r c v su h) ms zs).map (λ q=>q.2.2.2.2.2.2.2.2.2)=(nU n (dJ.mk d ts z' r' c' v' s8 h') ms zs).map (λ q=>q.2.2.2.2.2.2.2.2.2):=by
 have hs:∀w2 r1,iG n (dJ.mk d ts z r c v su h) zs w2 r1=iG n (dJ.mk d ts z' r' c' v' s8 h') zs w2 r1:=by intro w2 r1;funext ⟨v6,v7,v8⟩;have hv:∀e kn,fK n d ts z r c v su h zs e kn=fK n d ts z' r' c' v' s8 h' zs e kn:=λe kn=>Kz n e kn;simp only[iG,hv]
 have ho:pM n (dJ.mk d ts z r c v su h)=pM n (dJ.mk d ts z' r' c' v' s8 h'):=rfl;simp only[nU,hs,ho];cases iter (gK n ms) n (0,([]:(List (ByteArray×Int))),([]:(List (ByteArray×Bool))))with
 |none=>rfl
 |some w=>
  obtain⟨w1,w2⟩:=w;simp only[ai];cases (decide ((d.length:Int)<=d.length)&&(decide (0<=(d.length:Int))&&Bn d.length 8))with
  |false=>rfl
  |true=>
   simp only[ak];cases pM n (dJ.mk d ts z' r' c' v' s8 h')with
   |none=>rfl
   |some r1=>
    simp only[ai];cases (r1.2.2 !=0)with
    |true=>
     simp only[ak];cases bk ((d.length:Int).toNat) (List.replicate (d.length:Int).toNat (0:Int)).length<;>rfl
    |false=>
     simp only[ay];cases iter (iG n (dJ.mk d ts z' r' c' v' s8 h') zs w2 r1) n (0,w1,List.replicate (d.length:Int).toNat 0)with
     |none=>rfl
     |some q=>
      obtain⟨w3,w4⟩:=q;simp only[ai];cases bk ((d.length:Int).toNat) w4.length<;>rfl
theorem ajP{ms:U bZ}{e:dD}(hp:jp d)(ht:P3 ts)(hm:ms.length<=4000000)(hz:zs.length<=4000000)(hn:5000003<=n)(hn2:n<=9223372036854775000):xB n (dJ.mk d ts z r c v su h) ms zs e=xB n (dJ.mk d ts z' r' c' v' s8 h') ms zs e:=by have⟨kn,aa,h1,_⟩:=GN (n:=n) (p:=dJ.mk d ts z r c v su h) ⟨hp,ht⟩ hm hz hn hn2;have⟨kn2,out2,h2,_⟩:=GN (n:=n) (p:=dJ.mk d ts z' r' c' v' s8 h') ⟨hp,ht⟩ hm hz hn hn2;have h3:=ajO (n:=n) (d:=d) (ts:=ts) (z:=z) (z':=z') (r:=r) (r':=r') (c:=c) (c':=c') (v:=v) (v':=v') (su:=su) (s8:=s8) (h:=h) (h':=h') (zs:=zs) (ms:=ms);rw[h1,h2]at h3;simp only[Option.map_some,bX,Prod.mk.injEq]at h3;obtain⟨rfl,rfl⟩:=h3;simp only[xB,h1,h2,ai,fK,Kz (z:=z) (z':=z') (r:=r) (r':=r') (c:=c) (c':=c') (v:=v) (v':=v') (su:=su) (s8:=s8) (h:=h) (h':=h')]
end
theorem VW{b:aj}{l:U bU}{s:U fu}(ha:∀c∈s,c.area.length<=200)(hs:s.length<=1000)(hl:l.length<=1000)(hn:2000<=n):
 zy n b l s=some (qJ b l&&(Dh s&&!(s.any λc=>decide (Mo b l c.area<c.z1)))):=by
 unfold zy;rw[Kk b l hl hn];simp;cases hv:qJ b l with
 |false=>simp
 |true=>
  have⟨v1,v2⟩:=(uI b l).1 hv;simp[Vm (n:=n) (s:=s) (λ x hx=>by have:=ha x hx;omega) (by omega)];cases hr:Dh s with
  |false=>simp
  |true=>
   have⟨_,sok,_⟩:=(NY s).1 hr;simp;rw[uJ (λ c=>decide (Mo b l c.area<c.z1)) (λ c hc=>by have:=ha c hc;show tY n c b l=_;unfold tY;rw[VP v1 v2 (dS (sok c hc).rt).1 (by omega) hl hn];rfl) (by omega) (by omega)];simp
def pR(v:aF):U fu:=[⟨v.ev,v.de,[eG v]⟩]
theorem ahu(v:aF):zu v=some (pR v):=rfl
def zI(b:aj)(p:bU)(v:aF):Bool:=qJ b [p]&&(Dh (pR v)&&!((pR v).any λc=>decide (Mo b [p] c.area<c.z1)))
def GR(r:bO):bU:=bU.mk r.eM r.eQ r.fi r.fj
theorem aeO(v:aF)(b:aj)(r:bO)(hn:2000<=n):kR n v b r=some (!zI b (GR r) v):=by have h:=VW (n:=n) (b:=b) (l:=[GR r]) (s:=pR v) (by simp[pR]) (by simp[pR]) (by simp) hn;unfold GR at h;have hl:(pR v).length=1:=rfl;simp[kR,ahu,show ∀x:bU,sub [x] 0 1=[x]from λ_=>rfl,h,zI];rfl
def P2(r:bO)(v:aF):Bool:=bits .and .i64 r.uses (i64.wrap (1*2 ^ v.use.toNat))==0
theorem aeP{v:aF}(h:okV v=true)(r:bO):kS v r=some (P2 r v):=by
 have hu:0<=v.use/\v.use<6:=by simp[okV]at h;omega
 have hb:i64.bits=64:=rfl;simp[kS,P2,show(decide (0<=v.use)&&decide (v.use<=i64.bits))=true from by simp;omega]
def Se(lot:Int)(r:bO)(v:aF)(b:kE):Bool:=(eO b (nO.mk [] [] [] [] [] [] [] 0 [] [] [] [] [] 0 0 [] [] lot [] [] []) v r).getD false
theorem ahv{b:kE}{s:nO}{v:aF}{r:bO}:eO b s v r=some (Se s.ek r v b):=by
 have key:∃x,eO b (nO.mk [] [] [] [] [] [] [] 0 [] [] [] [] [] 0 0 [] [] s.ek [] [] []) v r=some x:=by simp only[eO,j3,aow,ai];refine uK (fE ⟨_,rfl⟩ (fE ⟨_,rfl⟩ (fE ⟨_,rfl⟩ ⟨_,rfl⟩))) λ_=>fE ⟨_,rfl⟩ (uK (fE (fE ⟨_,rfl⟩ (fE ⟨_,rfl⟩ ⟨_,rfl⟩)) (fE ⟨_,rfl⟩ ⟨_,rfl⟩)) λ_=>fE ⟨_,rfl⟩ ⟨_,rfl⟩)
 have e:eO b s v r=eO b (nO.mk [] [] [] [] [] [] [] 0 [] [] [] [] [] 0 0 [] [] s.ek [] [] []) v r:=rfl;obtain⟨x,hx⟩:=key;rw[e,Se,hx];rfl
theorem Bt{l:U kE}{Z:(kE×Unit)->J Bool}(p:kE->Bool)(h:∀x∈l,Z (x,())=some (p x))(hl:l.length<1099511627776)(hn:l.length<n):kT n l Z=some (l.any p):=by have:sJ n l Z=some (CU p l):=jc p h hl hn;simp[kT,this,yZ]
def Sa(built:U kE)(lot:Int)(r:bO)(v:aF):Bool:=built.any (Se lot r v)
theorem aeS{s:nO}{v:aF}{r:bO}(hb:s.gR.length<=1000)(hn:2000<=n):kU n v s r=some (Sa s.gR s.ek r v):=by simp[kU,uj,Bt (n:=n) (l:=s.gR) (Z:=λ(y1:kE×Unit)=>eO y1.1 s v r) (Se s.ek r v) (λ x _=>ahv) (by omega) (by omega),Sa]
def lO(r:bO):dD:=dD.mk r.ga r.rh r.rb r.my r.cM
def km(t:dK):dJ:=dJ.mk t.cz t.cm t.bu [] t.cH t.cI t.cV t.cJ
structure A5(t:dK):Prop where
 lots:∀l∈t.land,A6 l
 land:t.land.length<=1000
 eas:t.bz.length<=900/\∀e∈t.bz,e.area.length<=900
 built:t.built.length<=1000
 zones:t.bu.length<=100
 caps:t.cH.length<=4000000
 rules:t.aw.length<=100
 rule:∀r∈t.aw,ajx r/\(toE (lO r)).wt<=4000000
 plan:Sf (km t)
def FF(d:bL):Prop:=Ty d/\Hj d
def FA(n:Nat):Prop:=5000003<=n/\n<=9223372036854775000
def wW(t:dK)(lot:j6):U ByteArray:=wj t.bu lot.area
def tg(t:dK)(lot:j6)(d:bL):nO:=nO.mk t.cz t.cm t.bu t.aw t.cH t.cI t.cV t.cJ t.land t.bz t.windows t.built t.base lot.id lot.owner lot.area lot.from_ d.lot d.phases (jX d) (wW t lot)
theorem aoU{d:bL}(h:Ty d)(hn:1001<=n):vI n d=some (jX d):=by obtain⟨h1,h2⟩:=h;unfold vI;have key:=EW (step:=qF d) (λ i=>(i,(d.phases.take i).flatMap (·.cP))) (s:=(0,[])) d.phases.length (jX d) rfl (λ i hi=>by have hl:=fg (l:=d.phases.take i) λp hp=>h2 p (List.mem_of_mem_take hp);rw[length_take]at hl;have hv:=h2 _ (getElem_mem hi);generalize hL:(d.phases.take i).flatMap (·.cP)=L at hl;have hap:bP L.length L.length d.phases[i].cP.length d.phases[i].cP.length 72=true:=cK (by omega) (by simp[maxLen];omega);simp only[qF,bV hi,ak,bB hi,ai,hap,eH,aO,aW i];rw[fU hi,List.flatMap_append,hL];simp) (by simp[qF,jX]) n (by omega);have hz:bk 0 ([]:U aF).length=true:=rfl;simp[key]
def M2(n:Nat)(t:dK)(d:bL):Bool:=(gF n (km t) (dU t.land d.lot).1 d).getD false
def KA(n:Nat)(t:dK)(d:bL):Int:=bif(dU t.land d.lot).2 then(bif M2 n t d then 0 else 1)else 4
def ase:nO:=nO.mk ([]) ([]) ([]) ([]) ([]) ([]) ([]) 0 ([]) ([]) ([]) ([]) ([]) 0 0 ([]) ([]) 0 ([]) ([]) ([])
theorem look_eq{t:dK}{d:bL}(ht:A5 t)(hd:FF d)(hn:FA n):Ci n t d=some (bif KA n t d==0 then tg t (dU t.land d.lot).1 d else ase,KA n t d)/\(KA n t d=0->∀v∈jX d,okV v=true):=by
 obtain⟨hn1,hn2⟩:=hn;have hl:=ht.land;have e1:za n t.land d.lot=some (dU t.land d.lot):=EU ht.lots (by omega) (by omega);have hw:=wS ht.lots d.lot;obtain⟨b,hb,hv⟩:=ads (n:=n) (p:=km t) (lot:=(dU t.land d.lot).1) (d:=d) ht.caps hw.1 hd.1 hd.2 (by omega);have e2:gF n (dJ.mk t.cz t.cm t.bu t.aw t.cH t.cI t.cV t.cJ) (dU t.land d.lot).1 d=some b:=hb;have e3:zQ n (dJ.mk t.cz t.cm t.bu t.aw t.cH t.cI t.cV t.cJ) (dU t.land d.lot).1.area=some (wj t.bu (dU t.land d.lot).1.area):=QE _ _ ht.zones hw.1 (by omega);have e4:M2 n t d=b:=by unfold M2;rw[hb];rfl
 simp[Ci,e1,e2,e3,aoU hd.1 (show 1001<=n by omega),KA,e4];cases (dU t.land d.lot).2 with
 |false=>exact⟨rfl,λh=>absurd (show (4:Int)=0 from h) (by decide)⟩
 |true=>
  cases b with
  |false=>exact⟨rfl,λh=>absurd (show (1:Int)=0 from h) (by decide)⟩
  |true=>exact⟨rfl,λ_=>hv rfl⟩
def P1(n:Nat)(t:dK)(lot:j6)(d:bL)(r:bO):Bool:=((nS n (km t) lot d).bind λms=>xB n (km t) ms (wW t lot) (lO r)).getD 1==0
def A4(n:Nat)(t:dK)(lot:j6)(d:bL)(r:bO):Bool:=
 bif r.kind==0 then P1 n t lot d r else bif r.kind==1 then(jX d).any (λ v=>!zI (nH lot.area).1 (GR r) v)else bif r.kind==2 then(jX d).any (P2 r)else bif r.kind==3 then(jX d).any (Sa t.built d.lot r)else false
theorem N9{t:dK}(ht:A5 t)(lot:j6):(wW t lot).length<=100:=Nat.le_trans (ak7 _ _) ht.zones
theorem amC{t:dK}{lot:j6}{d:bL}{r:bO}(ht:A5 t)(hl:lot.area.length<=900)(hd:FF d)(hv:∀v∈jX d,okV v=true)(hr:(toE (lO r)).wt<=4000000)(hn:FA n):oq n (tg t lot d) r=some (A4 n t lot d r):=by
 obtain⟨hn1,hn2⟩:=hn;have hvl:=LD hd.1;have hz:=N9 ht lot;simp only[oq,iH,A4];cases (r.kind==0)with
 |true=>
  have htb:=ht.plan.tabs;obtain⟨e1,e2,e3,e4,e5,e6,e7,e8,ON⟩:=aqI (n:=n) (p:=km t) (lot:=lot) (d:=d) ⟨by have:=htb.1;omega,by have:=htb.1;omega,λx hx=>by have:=htb.2 x hx;omega⟩ hl hd.1 (by omega);have h1:=ON t.aw;have h2:=ON [];have h2':nS n (km t) lot d=_:=h2;have h1':nS n (dJ.mk t.cz t.cm t.bu t.aw t.cH t.cI t.cV t.cJ) (j6.mk lot.id lot.owner lot.area lot.from_) (bL.mk d.lot d.phases)=_:=h1;obtain⟨v,hE⟩:=aqe (n:=n) (p:=km t) (ms:=[⟨⟨#[97,114,101,97]⟩,e1⟩,⟨⟨#[99,111,118,101,114]⟩,e2⟩,⟨⟨#[102,108,111,111,114]⟩,e3⟩,⟨⟨#[102,108,111,111,114,115]⟩,e4⟩,⟨⟨#[104,101,105,103,104,116]⟩,e5⟩,⟨⟨#[104,111,109,101,115]⟩,e6⟩,⟨⟨#[114,117,110,111,102,102]⟩,e7⟩,⟨zT,qY (oV lot) (fB d)⟩,⟨⟨#[116,114,97,102,102,105,99]⟩,e8⟩]) (zs:=wW t lot) (e:=lO r) ht.plan (by simp) (by omega) hr hn1 hn2;have hE':=(ajP (n:=n) (d:=t.cz) (ts:=t.cm) (z:=t.bu) (r:=t.aw) (r':=[]) (c:=t.cH) (v:=t.cI) (su:=t.cV) (h:=t.cJ) (zs:=wW t lot) (ms:=[⟨⟨#[97,114,101,97]⟩,e1⟩,⟨⟨#[99,111,118,101,114]⟩,e2⟩,⟨⟨#[102,108,111,111,114]⟩,e3⟩,⟨⟨#[102,108,111,111,114,115]⟩,e4⟩,⟨⟨#[104,101,105,103,104,116]⟩,e5⟩,⟨⟨#[104,111,109,101,115]⟩,e6⟩,⟨⟨#[114,117,110,111,102,102]⟩,e7⟩,⟨zT,qY (oV lot) (fB d)⟩,⟨⟨#[116,114,97,102,102,105,99]⟩,e8⟩]) (e:=lO r) ht.plan.defs ht.plan.tabs (by simp) (by omega) hn1 hn2).trans hE;unfold lO at hE';simp[tg,h1',hE',P1,h2',hE]
 |false=>
  cases (r.kind==1)with
  |true=>
   simp only[ak,ay,show(tg t lot d).lf=lot.area from rfl,show(tg t lot d).cP=jX d from rfl,QI (n:=n) lot.area hl (by omega),ai];rw[gQ (λ v=>!zI (nH lot.area).1 (GR r) v) (λ v _=>aeO v _ r (by omega)) (by omega) (by omega)];rfl
  |false=>
   cases (r.kind==2)with
   |true=>
    simp only[ak,ay,show(tg t lot d).cP=jX d from rfl];rw[gQ (P2 r) (λ v hm=>aeP (hv v hm) r) (by omega) (by omega)];rfl
   |false=>
    cases (r.kind==3)with
    |true=>
     simp only[ak,ay,show(tg t lot d).cP=jX d from rfl];rw[gQ (Sa t.built d.lot r) (λ v _=>aeS (s:=tg t lot d) ht.built (by omega)) (by omega) (by omega)];rfl
    |false=>rfl
def addN(aa:U ByteArray)(name:ByteArray)(bad:Bool):U ByteArray:=bif bad&&!(aa.any (fp name))then aa++[name]else aa
theorem ahz aa (name:ByteArray) bad:(addN aa name bad).length<=aa.length+1:=by unfold addN;cases (bad&&!(aa.any (fp name)))<;>simp
theorem ahA{name:ByteArray}{bad:Bool}{aa:U ByteArray}(hl:aa.length<=1000)(hn:2000<=n):kr n name bad aa=some (addN aa name bad):=by
 have hmx:maxLen=9223372036854775807:=rfl;have hap:bP aa.length aa.length (sub [name] 0 1).length 1 16=true:=by simp[bP,sub];omega
 simp[kr,wD (n:=n) (l:=aa) (a:=name) (by omega) (by omega),addN,hap];cases bad with
 |false=>rfl
 |true=>cases (aa.any (fp name))<;>rfl
def HE(t:dK)(d:bL):Bool:=(jX d).any λv=>!HF t.bz d.lot (pR v)
def amD:ByteArray:=⟨#[101,97,115,101,109,101,110,116]⟩
def Oa(n:Nat)(t:dK)(lot:j6)(d:bL)(l:U bO):U ByteArray:=l.foldl (λ aa r=>addN aa r.name (A4 n t lot d r)) []
theorem M6(f:bO->Bool):∀(l:U bO) aa,(l.foldl (λ aa r=>addN aa r.name (f r)) aa).length<=aa.length+l.length
 |[],aa=>by simp
 |r::l,aa=>by have h1:=M6 f l (addN aa r.name (f r));have h2:=ahz aa r.name (f r);rw[foldl_cons,eu];omega
def applied(t:dK)(lot:j6)(day:Int):U bO:=t.aw.filter (ku (wW t lot) day)
def vS(t:dK)(d:bL):j6:=(dU t.land d.lot).1
def LF(n:Nat)(t:dK)(d:bL)(day:Int):U ByteArray:=bif KA n t d==0 then addN (Oa n t (vS t d) d (applied t (vS t d) day)) amD (HE t d)else []
theorem amE{t:dK}{d:bL} day (ht:A5 t) (hd:FF d) (hn:FA n):xE n t d day=some (LF n t d day,KA n t d):=by
 obtain⟨hk,hv⟩:=look_eq (n:=n) ht hd hn;have hn1:=hn.1;have hvl:=LD hd.1;simp[xE,hk,LF];by_cases h0:KA n t d=0;have WF:(KA n t d==0)=true:=by simp[h0]
 have WD:(KA n t d !=0)=false:=by simp[h0]
 have hw:=wS ht.lots d.lot;have hz:=N9 ht (vS t d);have hA:rO n (dJ.mk t.cz t.cm t.bu t.aw t.cH t.cI t.cV t.cJ) (wW t (vS t d)) day=some ((Dc t.aw (wW t (vS t d)) day).map λ(i:Nat)=>(i:Int)):=Hq _ _ _ (λ r hr=>(ht.rule r hr).1) ht.rules hz (by omega);have hal:(Dc t.aw (wW t (vS t d)) day).length<=100:=Nat.le_trans (length_filter_le _ _) (by rw[List.length_range];exact ht.rules);have hpick:(Dc t.aw (wW t (vS t d)) day).filterMap (λ i=>t.aw[i]?)=applied t (vS t d) day:=Kq (ku (wW t (vS t d)) day) t.aw;have hloop:∀A:U Nat,A.length<=100->(∀ i∈A,i<t.aw.length)->iter (oP n t (tg t (vS t d) d,KA n t d) (A.map λ(i:Nat)=>i)) n (0,[])=some (Oa n t (vS t d) d (A.filterMap λi=>t.aw[i]?)):=by
  intro A hA hAr
  have key:=dG (l:=A) (step:=oP n t (tg t (vS t d) d,KA n t d) (A.map λ(i:Nat)=>i)) (λ i s=>(i,s)) (λ i s=>match t.aw[i]? with
   |some r=>addN s r.name (A4 n t (vS t d) d r)
   |none=>s) (λ s=>s) (λ i s=>s.length<=i) (λ i hi s hs=>by have hr:=hAr _ (getElem_mem hi);have hlm:(A.map λ(i:Nat)=>(i:Int)).length=A.length:=(by simp);have hg:ci (A.map λ(i:Nat)=>(i:Int)) ((0:Nat)+i)=some ((A[i]:Nat):Int):=(by rw[bH (by omega)];simp);have hrr:=ht.rule _ (getElem_mem hr);have hb:=amC (n:=n) (t:=t) (lot:=vS t d) (d:=d) ht hw.1 hd (hv h0) hrr.2 hn;have e:=dY hr;simp only[oP,hlm,bV hi,ak,bC hi,hg,ai,bB hr,hb,aO,ahA (n:=n) (name:=t.aw[A[i]].name) (bad:=A4 n t (vS t d) d t.aw[A[i]]) (aa:=s) (by omega) (by omega),aW i,e];exact⟨trivial,Nat.le_trans (ahz _ _ _) (by omega)⟩) (λ s _=>by have hlm:(A.map λ(i:Nat)=>i).length=A.length:=(by simp);simp[oP]) n (by omega) [] (aB _)
  rw[io]at key;rw[key];congr 1;unfold Oa;generalize []=s0;clear key hA
  induction A generalizing s0 with
  |nil=>rfl
  |cons a A ih=>
   have ha:=hAr a (by simp);rw[foldl_cons,List.filterMap_cons];simp only[dY ha];rw[foldl_cons];exact ih (λ i hi=>hAr i (by simp[hi])) _
 have hlo:=hloop (Dc t.aw (wW t (vS t d)) day) hal (λ i hi=>by have:=(mem_filter.1 hi).1;simpa using this);rw[hpick]at hlo;have hrl:(Oa n t (vS t d) d (applied t (vS t d) day)).length<=100:=by have h1:=M6 (A4 n t (vS t d) d) (applied t (vS t d) day) [];have h2:(applied t (vS t d) day).length<=100:=Nat.le_trans (length_filter_le _ _) ht.rules;unfold Oa;simp at h1;omega
 have hany:iH n (tg t (vS t d) d) (λ (y1:aF×Unit)=>oO n y1.1 t d)=some (HE t d):=by
  have hs:∀v,oO n v t d=some (!HF t.bz d.lot (pR v)):=by intro v;have hl1:(pR v).length=1:=rfl;have h:=abw (n:=n) (l:=t.bz) (lot:=d.lot) (s:=pR v) ht.eas.1 ht.eas.2 (by simp[pR]) (by omega);simp[oO,ahu,h]
  simp[iH,show(tg t (vS t d) d).cP=jX d from rfl];rw[gQ (λ v=>!HF t.bz d.lot (pR v)) (λ v _=>hs v) (by omega) (by omega)];rfl
 have hsc:tg t (dU t.land d.lot).1 d=tg t (vS t d) d:=rfl;simp only[WF,WD,ak,ay,hsc,show(tg t (vS t d) d).zones=wW t (vS t d)from rfl,hA,ai,hlo,hany,ahA (n:=n) (name:=⟨#[101,97,115,101,109,101,110,116]⟩) (bad:=HE t d) (aa:=Oa n t (vS t d) d (applied t (vS t d) day)) (by omega) (by omega)];rw[h0];rfl;have WF:(KA n t d==0)=false:=by simpa using h0
 have WD:(KA n t d !=0)=true:=by simpa using h0
 simp[WF,WD]
def WtR(l:U bO):Prop:=∀r∈l,(toE (lO r)).wt<=4000000
structure aqJ(t:dK):Prop where
 defs:jp t.cz
 rules:WtR t.aw
 ud:∀l∈t.land,l.from_.length*8<=140737488355328
structure asE(t:dK)(d:bL):Prop where
 town:A5 t
 draw:FF d
 built:t.built.length<=8
 rules:t.aw.length<=6
 zones:∀z∈t.bu,z.corners.length<=12
 caps:∀c∈t.cH,c.corners.length<=12/\t.cH.length<=3
theorem asD:FA 5000003:=⟨aB _,by omega⟩
theorem ahB{r:aj}(h:cT r=true):qu [r]=([r],0):=by
 have hx:=ar2 h;have hy:=aqF h;have e1:bg [r]=[r.x0,r.x1]:=by unfold bg;refine(agt (List.Pairwise.cons (by simpa using hx) (List.pairwise_singleton _ _)) λz=>?_).symm;simp
 have e2:bA [r] r.x0=[⟨r.y0,r.y1⟩]:=by
  unfold bA dR;have:(decide (r.x0<=r.x0)&&decide (r.x0<r.x1))=true:=by simp[hx]
  simp only[List.filter_cons,this,if_true,List.filter_nil,bK,List.map_nil];rfl
 have e3:bJ (aL [r])=[r]:=by unfold aL;rw[e1];simp[gU,e2,bJ,Aw,aD]
 unfold qu;rw[e3];have:([r].all cT)=true:=by simpa using h
 rw[this];simp
theorem aeT{r:aj}(h:cT r=true):br [r]=true:=by unfold br;rw[ahB h];simp
theorem QL{v:aF}(h:okV v=true):Dh (pR v)=true:=by
 have hb:=yD h;simp[okV]at h;rw[NY];refine⟨by simp[pR],λx hx=>?_,λi hi=>by simp[pR]at hi⟩;have:x=⟨v.ev,v.de,[eG v]⟩:=by simpa[pR]using hx
 rw[this];exact⟨h.2.1,h.2.2.1,h.2.2.2.1,by simp,aeT hb⟩
mutual
theorem aqf:∀g:dD,(toE g).wt<=jL (tJ g)
 |⟨op,n,s,key,args⟩=>by have:=QM args;simp[toE,ET.wt,tJ,jL,mS];omega
theorem QM:∀l:List dD,ET.tI (JX l)<=zY (u7 l)
 |[]=>by simp[JX,ET.tI]
 |x::xs=>by have h1:=aqf x;have h2:=QM xs;simp[JX,ET.tI,u7,zY];omega
end
theorem adu:∀l:U iQ,sk (l.map toD)<=zY (l.map Gc)
 |[]=>by simp[sk]
 |x::xs=>by have h1:=adu xs;have h2:=QM x.gh;simp[sk]at h1;simp[sk,toD,ET.wt,zY,Gc,jL,mS,<- ve];omega
theorem amF(t:dK):sk (t.cz.map toD)<=jL (Ca t):=by have:=adu t.cz;simp[Ca,jL,mS];omega
theorem QN{r:U Tree}:∀{l:U (List Tree)},r∈l->jL r<=zY l
 |x::l,h=>by rw[zY];rcases aG.1 h with rfl|h;omega;have:=QN h;omega
theorem amG(r:bO):(toE (lO r)).wt<=jL (y9 r):=by have h:=QM r.cM;rw[ve]at h;simp[lO,toE,ET.wt,y9,jL,mS];omega
theorem adv:∀l:U Int,l.length<=zY (l.map λy=>[Tree.sc (.int .i64 y)])
 |[]=>by simp
 |x::l=>by have:=adv l;simp[zY,jL,mS];omega
theorem arq{t:dK}(h:jL (Ca t)<=1048576):aqJ t:=by
 have hd:=Nat.le_trans (amF t) h;simp[Ca,jL,mS]at h;refine⟨by unfold jp;omega,λr hr=>?_,λl hl=>?_⟩;have h1:=amG r;have h2:=QN (mem_map.2 ⟨r,hr,rfl⟩:y9 r∈t.aw.map y9);omega;have h1:=adv l.from_;have h2:=QN (mem_map.2 ⟨l,hl,rfl⟩:NA l∈t.land.map NA);have h3:zY (l.from_.map λy=>[Tree.sc (.int .i64 y)])<=jL (NA l):=by simp[NA,jL,mS];omega
 omega
theorem ZV{α:Type}(f:α->U Tree)(hf:∀x,1<=jL (f x)):∀l:U α,l.length<=zY (l.map f)
 |[]=>by simp
 |x::l=>by have h:=ZV f hf l;have h1:=hf x;simp[zY];omega
def P0(b:aj)(h x y:Int)(p:bU):Bool:=GD p&&decide (X1 b [p] x y>=h)
def HD(lot h x y:Int)(e:dI):Bool:=(e.lot !=lot) || (decide (e.top>=h) || !(br e.area&&aZ e.area x y))
theorem EY{b:aj}{h x y:Int}(hb:cT b=true)(hg:yl x y)(hh:1<=h/\h<=4096)(p:bU):P0 b h x y p=true↔GD p=true/\h<=Tq b p x y:=by unfold P0;rw[aY,bF];constructor;rintro⟨h1,h2⟩;refine⟨h1,?_⟩;have hv:qJ b [p]=true:=(uI _ _).2 ⟨hb,λq hq=>by rw[aI.1 hq];exact h1⟩;unfold X1 at h2;rw[aM ⟨hv,hg⟩]at h2;unfold QF at h2;simp at h2;omega;rintro⟨h1,h2⟩;refine⟨h1,?_⟩;have hv:qJ b [p]=true:=(uI _ _).2 ⟨hb,λq hq=>by rw[aI.1 hq];exact h1⟩;unfold X1;rw[aM ⟨hv,hg⟩];unfold QF;simp;omega
theorem amH{t:dK}{lot day x y:Int}(he:(lU t lot day).2=0)(hr:br (fC t lot)=true)(hc:aZ (lU t lot day).1 x y=true):yl x y/\aZ (fC t lot) x y=true/\cT (nH (fC t lot)).1=true:=by
 have hv:=(dS (Vo he)).1;have hg:=kV hv hc;have ha:aZ (fC t lot) x y=true:=by unfold lU at he hc;split at hc;rename_i hd;rw[aM hd]at he;have hsp:=Ka (a:=fC t lot) (r:=(qI (fC t lot) (vP t lot day)).1) (d:=vP t lot day) (by rw[<- he]);exact(hsp.2.2.2 x y).1 hc x y (by omega) (by omega) (by omega) (by omega);simp[aZ]at hc
 refine⟨hg,ha,?_⟩;have hne:fC t lot≠[]:=by intro e;rw[e]at ha;simp[aZ]at ha
 have⟨b1,b2⟩:=ZN hne hr;rw[b1];exact b2
theorem aoV{t:dK}{lot day h x y:Int}(he:(lU t lot day).2=0)(hr:br (fC t lot)=true)(hh:1<=h/\h<=4096):
 ZO t lot day h x y=((aZ (lU t lot day).1 x y&&(vQ t lot day).all (P0 (nH (fC t lot)).1 h x y))&&t.bz.all (HD lot h x y)):=by
 unfold ZO Nm;rw[Bool.and_assoc];cases hc:aZ (lU t lot day).1 x y with
 |false=>rfl
 |true=>
  have⟨hg,_,hb⟩:=amH he hr hc;rw[Bool.true_and,Bool.true_and];congr 1;rw[dH,bF,uI,all_eq_true];constructor;rintro⟨⟨_,a⟩,c⟩ p hp;exact(EY hb hg hh p).2 ⟨a p hp,c p hp⟩;intro a;exact⟨⟨hb,λp hp=>((EY hb hg hh p).1 (a p hp)).1⟩,λp hp=>((EY hb hg hh p).1 (a p hp)).2⟩;rw[dH,all_eq_true,all_eq_true];constructor;intro a e hm;unfold HD;cases h1:e.lot !=lot with
  |true=>rfl
  |false=>
   cases h2:br e.area with
   |false=>cases decide (e.top>=h)<;>rfl
   |true=>
    have h3:(e.lot==lot)=true:=(by simpa[bne]using h1);have:=a e (mem_filter.2 ⟨hm,by rw[h3,h2];rfl⟩);rw[show decide (e.top>=h)=decide (h<=e.top)from rfl];simpa using this
  intro a e hm;obtain⟨m1,m2⟩:=mem_filter.1 hm;rw[aY]at m2;have:=a e m1;unfold HD at this;have h3:(e.lot !=lot)=false:=by simp[bne,m2.1]
  rw[h3,m2.2,show decide (e.top>=h)=decide (h<=e.top)from rfl]at this;simpa using this
theorem sumTo_le{f g:Nat->Int}:∀n,(∀ i,i<n->f i<=g i)->sumTo n f<=sumTo n g
 | 0,_=>Int.le_refl _
 |k+1,h=>by have:=sumTo_le k λi hi=>h i (by omega);have:=h k (by omega);simp[sumTo];omega
theorem TB{f g:Nat->Int}:∀n,(∀ i,i<n->f i<=g i)->sumTo n f=sumTo n g->∀i,i<n->f i=g i
 | 0,_,_,i,hi=>by omega
 |k+1,h,he,i,hi=>by have h1:=sumTo_le k λi hi=>h i (by omega);have h2:=h k (by omega);simp[sumTo]at he;by_cases e:i=k;subst e;omega;exact TB k (λ i hi=>h i (by omega)) (by omega) i (by omega)
theorem ZW{p q:Int->Int->Bool}(h:∀x y,p x y=true->q x y=true)(he:pQ p=pQ q){x y:Int}(hx:0<=x/\x<1048576)(hy:0<=y/\y<1048576):p x y=q x y:=by
 have hle:∀x y,zD (p x y)<=zD (q x y):=λx y=>by have:=h x y;cases hp:p x y<;>cases hq:q x y<;>simp_all [zD]
 have h1:=TB uF (λ i _=>sumTo_le uF λj _=>hle i j) he x.toNat (by unfold uF;omega);have h2:=TB uF (λ j _=>hle x.toNat j) h1 y.toNat (by unfold uF;omega);rw[show x.toNat=x by omega,show y.toNat=y by omega]at h2;cases hp:p x y<;>cases hq:q x y<;>simp_all [zD]
theorem QO{r:aj}(h:cT r=true):AP r=EO r:=by have:=yC h;rw[iy]at h;unfold EO at*;unfold AP;rw[bT (x:=r.x1-r.x0),bT (x:=r.y1-r.y0),bT (by omega) (by omega)]
theorem ajS{g y:aj}(hg:cT g=true)(hy:cT y=true):(bif cT g&&(cT y&&cT (dF g y))then AP (dF g y)else 0)=pQ λa b=>fI g a b&&fI y a b:=by
 rw[hg,hy,Bool.true_and,Bool.true_and,<- yB (Kl g y)];cases h:cT (dF g y)with
 |true=>rw[ak,QO h,Gw h]
 |false=>
  rw[ay,<- Vg];refine yB λa b=>Eq.symm ?_;rw[Bool.eq_false_iff];intro hc;rw[dP]at hc;rw[iy]at hg hy;have:cT (dF g y)=true:=by rw[iy];unfold dF at hc |-;simp at hc |-;omega
  rw[this]at h;cases h
theorem aqg(g:aj) s (y:aj):LQ g s y=bif cT g&&(cT y&&cT (dF g y))then i64.wrap (s+AP (dF g y))else s:=rfl
theorem ZX{g:aj}(hg:cT g=true):∀A (s:Int),Br A->A.length<=1000->0<=s->s+1099511627776*A.length<=9223372036854775807->A.foldl (LQ g) s=s+pQ λx y=>fI g x y&&aZ A x y
 |[],s,_,_,_,_=>by
  have:pQ (λ x y=>fI g x y&&aZ [] x y)=0:=by rw[<- Vg];exact yB λx y=>by simp[aZ]
  rw[this];simp
 |y::A,s,hd,hl,h0,h1=>by
  obtain⟨hp,ho⟩:=hd;rw[List.pairwise_cons]at hp;have hy:=ho y (by simp);have hc:=ajS hg hy;have hb:0<=(bif cT g&&(cT y&&cT (dF g y))then AP (dF g y)else 0)/\(bif cT g&&(cT y&&cT (dF g y))then AP (dF g y)else 0)<=1099511627776:=by
   rw[hg,hy,Bool.true_and,Bool.true_and];cases h:cT (dF g y)with
   |true=>rw[ak,QO h];exact yC h
   |false=>simp
  simp at hl h1;have e:LQ g s y=s+(bif cT g&&(cT y&&cT (dF g y))then AP (dF g y)else 0):=by
   rw[aqg];cases h:cT g&&(cT y&&cT (dF g y))with
   |true=>
    rw[h]at hb;simp at hb |-;rw[bT (by omega) (by omega)]
   |false=>simp
  rw[foldl_cons,e,ZX hg A _ ⟨hp.2,λr hr=>ho r (by simp[hr])⟩ (by omega) (by omega) (by omega),hc,Int.add_assoc];refine congrArg (λ t=>s+t) (ame λx z=>?_).symm;have hsp:aZ (y::A) x z=(fI y x z || aZ A x z):=by simp[aZ,fI]
  rw[hsp];cases h1:fI y x z with
  |false=>simp[zD]
  |true=>
   have:aZ A x z=false:=(by rw[Bool.eq_false_iff];intro hc;have⟨r,hr,hh⟩:=(lT A x z).1 hc;exact hp.1 r hr x z h1 hh);rw[this];cases fI g x z<;>rfl
theorem count_le{p q:Int->Int->Bool}(h:∀x y,p x y=true->q x y=true):pQ p<=pQ q:=
 sumTo_le uF λi _=>sumTo_le uF λj _=>by have:=h i j;cases hp:p i j<;>cases hq:q i j<;>simp_all [zD]
theorem KC{b:aj}{k x y:Int}:fI (yE b k) x y=true↔(b.x0-k<=x/\x<b.x1+k)/\(b.y0-k<=y/\y<b.y1+k):=dP _ _ _
theorem Ob{a:U aj}{b:aj}(ha:br a=true)(hb:cT b=true){k:Int}(hk:0<=k):iA a b k=true↔∀x y,fI (yE b k) x y=true->aZ a x y=true:=by
 have⟨h1,h2,_⟩:=dS ha;have key:cT (yE b k)=true->(iA a b k=true↔∀x y,fI (yE b k) x y=true->aZ a x y=true):=λhg=>by
  unfold iA;rw[hg,Bool.true_and,bF,show(λ s y=>LQ (yE b k) s y)=LQ (yE b k)from rfl,ZX hg a 0 (ZK ha) (by omega) (by omega) (by omega),QO hg,<- Gw hg,Int.zero_add];constructor;intro he x y hh;have hh':=(dP _ _ _).1 hh;have ho:=(iy _).1 hg;have:=ZW (p:=λx y=>fI (yE b k) x y&&aZ a x y) (q:=fI (yE b k)) (λ x y h=>(Bool.and_eq_true_iff.1 h).1) he (x:=x) (y:=y) (by omega) (by omega);rw[hh]at this;exact(Bool.and_eq_true_iff.1 this).2;intro h;refine yB λx y=>?_;cases hh:fI (yE b k) x y with
  |false=>rfl
  |true=>rw[h x y hh];rfl
 constructor;intro h;exact(key (by unfold iA at h;exact(Bool.and_eq_true_iff.1 h).1)).1 h;intro h;have ho:=(iy b).1 hb;have c1:=kV h1 (h (b.x0-k) (b.y0-k) (KC.2 (by omega)));have c2:=kV h1 (h (b.x1+k-1) (b.y1+k-1) (KC.2 (by omega)));exact(key ((iy _).2 (by unfold yE;simp;omega))).2 h
theorem ars{a:U aj}{b:aj}(ha:br a=true)(hb:cT b=true){N:Int}(hN:1<=N):N<=yF (iA a b) 21 0 1048576↔iA a b N=true:=by have ho:=(iy b).1 hb;have hs:=TA (iA a b) 21 0 1048576 (by omega) (by decide);have hi:=LC (iA a b) 21 0 1048576 (by omega);generalize yF (iA a b) 21 0 1048576=s at hs hi;have anti:∀k k',0<=k'->k'<=k->iA a b k=true->iA a b k'=true:=λk k' h0 h1 h=>(Ob ha hb h0).2 λx y hh=>(Ob ha hb (by omega)).1 h x y (by rw[KC]at hh |-;omega);constructor;intro h;rcases hs.1 with h1|h1;omega;exact anti s N (by omega) h h1;intro h;by_cases hc:N<=s;exact hc;exfalso;rcases hs.2 with h1|h1;have h2:=((Bool.and_eq_true_iff.1 h).1:cT (yE b N)=true);rw[iy]at h2;simp[yE]at h2;omega;rw[anti N (s+1) (by omega) (by omega) h]at h1;cases h1
theorem aoW{t:dK}{lot day:Int}{b:aj}(he:(lU t lot day).2=0)(hr:br (fC t lot)=true)(hb:cT b=true)(hin:∀x y,fI b x y=true->aZ (fC t lot) x y=true):
 (∀ x y,fI b x y=true->aZ (lU t lot day).1 x y=true)↔vP t lot day<=yF (iA (fC t lot) b) 21 0 1048576:=by have ho:=(iy b).1 hb;have hg:=aoE t lot day;have hi:=LC (iA (fC t lot) b) 21 0 1048576 (by omega);unfold lU at he |-;generalize vP t lot day=D at he hg |-;by_cases hd:D<=1048576;rw[aM hd]at he |-;have hsp:=Ka (a:=fC t lot) (r:=(qI (fC t lot) D).1) (d:=D) (by rw[<- he]);rcases Int.lt_or_eq_of_le hg with h1|h1;rw[ars hr hb (by omega),Ob hr hb hg];constructor;intro h u v huv;rw[KC]at huv;exact(hsp.2.2.2 (max b.x0 (min u (b.x1-1))) (max b.y0 (min v (b.y1-1)))).1 (h _ _ ((dP _ _ _).2 (by omega))) u v (by omega) (by omega) (by omega) (by omega);intro h x y hh;rw[dP]at hh;exact(hsp.2.2.2 x y).2 λu v _ _ _ _=>h u v (KC.2 (by omega));subst h1;refine⟨λ _=>hi.1,λ_ x y hh=>(hsp.2.2.2 x y).2 λu v _ _ _ _=>?_⟩;rw[show u=x by omega,show v=y by omega];exact hin x y hh;rw[aC hd];constructor;intro h;have:=h b.x0 b.y0 ((dP _ _ _).2 (by omega));simp[aZ]at this;intro h;omega
theorem aqh{S:Int}(t:dK)(lot day:Int):vP t lot day<=S↔0<=S/\∀r∈yM t lot day,wT r=true->QH r<=S:=by
 have key:∀(l:U bO)(m:Int),l.foldl (λ m r=>bif wT r then max m (QH r)else m) m<=S↔m<=S/\∀r∈l,wT r=true->QH r<=S:=by
  intro l
  induction l with
  |nil=>intro m;simp
  |cons r l ih=>
   intro m;rw[foldl_cons,ih,List.forall_mem_cons,<- and_assoc];refine and_congr_left λ_=>?_;cases wT r<;>simp<;>omega
 exact key _ 0
theorem asf{lot:j6}{v:aF}(ha:lot.area.length<=900)(hv:okV v=true)(hn:4000002<=n)(h:iter (gI n lot [v]) n (0:Int)=some (.inl ())):∀x y,fI (eG v) x y=true->aZ lot.area x y=true:=by
 have hb:=yD hv;obtain⟨k,rfl⟩:∃k,n=k+1:=⟨n-1,by omega⟩;have hcl:=Qu (keep:=λp q=>p&&q) lot.area [eG v];have hc:=Qt (n:=k+1) (a:=lot.area) (b:=[eG v]) (by omega) (by simp) (by omega) (by simp;omega) (by omega);have hA:=NR (n:=k+1) (a:=(jq (λ p q=>p&&q) lot.area [eG v]).1) (by omega) (by omega);have hr:=zS hb;have hC:=M0 (keep:=λp q=>p&&q) rfl (a:=lot.area) (b:=[eG v]) (r:=(jq (λ p q=>p&&q) lot.area [eG v]).1);generalize jq (λ p q=>p&&q) lot.area [eG v]=C at hc hA hC hcl;have step:gI (k+1) lot [v] (0:Int)=some (bif C.2 !=0 || decide ((bif br C.1 then C8 C.1 else 0)<AP (eG v))then .inr (.inr false)else .inl 1):=by
  simp[eG]at hc hA hr |-;simp only[gI,show decide ((0:Int)<((1:Nat):Int))=true from rfl,ak,show cR 0 1=true from rfl,show ci [v] (((0:Nat):Int)+0)=some v from rfl,ai,show ∀r:aj,sub [r] 0 1=[r]from λ_=>rfl,List.length_singleton,aO,hc,hA,hr];cases C.2 !=0 with
  |true=>rfl
  |false=>
   simp;by_cases hq:(bif br C.1 then C8 C.1 else 0)<AP ⟨v.b9,v.cy,v.b8,v.cw⟩<;>simp[hq]<;>rfl
 cases hz:C.2 !=0 || decide ((bif br C.1 then C8 C.1 else 0)<AP (eG v))with
 |true=>
  rw[hz]at step;rw[iD step]at h;cases h
 |false=>
  rw[Bool.or_eq_false_iff,dQ]at hz;obtain⟨z1,z2⟩:=hz;obtain⟨r1,r2,r3,r4⟩:=hC (by rw[<- show C.2=0 by simpa using z1]);rw[r3,ak,ajk r3,QO hb,<- Gw hb,yB r4]at z2;intro x y hh;have one:∀x y,aZ [eG v] x y=fI (eG v) x y:=λx y=>by simp[aZ,fI]
  have hsub:∀x y,(aZ lot.area x y&&aZ [eG v] x y)=true->fI (eG v) x y=true:=λx y h=>by rw[one]at h;exact(Bool.and_eq_true_iff.1 h).2
  have ho:=(iy _).1 hb;have hh':=(dP _ _ _).1 hh;have:=ZW hsub (Int.le_antisymm (count_le hsub) (by omega)) (x:=x) (y:=y) (by omega) (by omega);rw[hh]at this;exact(Bool.and_eq_true_iff.1 this).1
theorem adx{p:dJ}{lot:j6}{d:bL}{v:aF}(ha:lot.area.length<=900)(hd:Ty d)(hg:Hj d)(hv:jX d=[v])(hn:4000002<=n)(h:gF n p lot d=some true):br lot.area=true/\okV v=true/\∀x y,fI (eG v) x y=true->aZ lot.area x y=true:=by
 have⟨b,hb,hok⟩:=alf (n:=n) hd hg hn;simp only[gF,hb,ai]at h;cases b with
 |false=>simp only[Bool.not_false,ak,ai]at h;cases h
 |true=>
  have Ha:okV v=true:=hok rfl v (by rw[hv];exact List.mem_singleton_self v);simp[iJ (n:=n) (l:=lot.area) (by omega) (by omega) (by omega)]at h;cases hi:(lot.id !=d.lot)with
  |true=>rw[hi]at h;cases h
  |false=>
   cases hr:br lot.area with
   |false=>rw[hi,hr]at h;cases h
   |true=>
    rw[hi,hr]at h;simp[all_eq hd (show 1001<=n by omega),hv]at h;refine⟨rfl,Ha,?_⟩;rcases aht (n:=n) (lot:=lot) (l:=[v]) ha (λ x hx=>by rw[aI.1 hx];exact Ha) (by simp) hn with h1|h1;exact asf ha Ha hn h1;rw[h1]at h;cases h
theorem amI{p:dJ}{ms:U bZ}{zs:U ByteArray}{s k1 k2 k3 s1 s2:ByteArray}{N m1 m2 S:Int}(hp:Sf p)(hm:ms.length<=4000000)(hz:zs.length<=4000000)(hn:5000003<=n)(hn2:n<=9223372036854775000)
 (hk:∀w,iter (gK n ms) n ((0:Int),([]:U (ByteArray×Int)),([]:U (ByteArray×Bool)))=some w->fV Gb.fp s w.2=some true/\fV Gb.fp s w.1=some S):
 xB n p ms zs (dD.mk 12 m1 s1 k1 [dD.mk 0 N s2 k2 [],dD.mk 1 m2 s k3 []])=some (bif decide (N<=S)then 1 else 0):=by
 have⟨kn,aa,h1,_,h3⟩:=GN (n:=n) hp hm hz hn hn2;obtain⟨w,hw⟩:=ZU (n:=n) hm (by omega);have⟨g1,g2⟩:=hk w hw;have g3:=h3 w hw s (by rw[g1];rfl);rw[g2]at g3;obtain⟨k,rfl⟩:∃k,n=k+20:=⟨n-20,by omega⟩;have hR:EG (k+20) (dD.mk 12 m1 s1 k1 [dD.mk 0 N s2 k2 [],dD.mk 1 m2 s k3 []])=some true:=by kernel_rfl
 have hV:fK (k+20) p.defs p.tables p.zones p.rules p.caps p.views p.tf p.hours zs (dD.mk 12 m1 s1 k1 [dD.mk 0 N s2 k2 [],dD.mk 1 m2 s k3 []]) kn=((yK (decide (N<=(fV Gb.fp s kn).getD 0))).bind λr=>some r).bind λr=>some (r,kn):=by kernel_rfl
 rw[g3]at hV;simp[xB,h1,hV];cases decide (N<=S)<;>rfl
theorem amJ{t:dK}{lot:j6}{d:bL}{r:bO}(ht:A5 t)(hl:lot.area.length<=900)(hd:FF d)(hn:FA n)(hs:wT r=true):P1 n t lot d r=!decide (QH r<=qY (oV lot) (fB d)):=by
 obtain⟨hn1,hn2⟩:=hn;have hz:=N9 ht lot;have htb:=ht.plan.tabs;obtain⟨e1,e2,e3,e4,e5,e6,e7,e8,ON⟩:=aqI (n:=n) (p:=km t) (lot:=lot) (d:=d) ⟨by have:=htb.1;omega,by have:=htb.1;omega,λx hx=>by have:=htb.2 x hx;omega⟩ hl hd.1 (by omega);have h2:nS n (km t) lot d=_:=ON [];generalize qY (oV lot) (fB d)=S at h2 |-;unfold wT at hs;unfold P1 QH lO
 match hm:r.cM with
 |[dD.mk o1 N s2 k2 a1,dD.mk o2 m2 s k3 a2]=>
  rw[hm]at hs;simp at hs;obtain⟨_,p1,rfl,rfl,rfl,hq,rfl⟩:=hs;obtain rfl:=(Xo _ _).1 hq;rw[h2,p1,ai,amI (S:=S) ht.plan (by simp) (by omega) hn1 hn2 (λ w hw=>?_)];cases decide (N<=S)<;>rfl;obtain⟨k,rfl⟩:∃k,n=k+20:=⟨n-20,by omega⟩;have key:(iter (gK (k+20) [⟨⟨#[97,114,101,97]⟩,e1⟩,⟨⟨#[99,111,118,101,114]⟩,e2⟩,⟨⟨#[102,108,111,111,114]⟩,e3⟩,⟨⟨#[102,108,111,111,114,115]⟩,e4⟩,⟨⟨#[104,101,105,103,104,116]⟩,e5⟩,⟨⟨#[104,111,109,101,115]⟩,e6⟩,⟨⟨#[114,117,110,111,102,102]⟩,e7⟩,⟨zT,S⟩,⟨⟨#[116,114,97,102,102,105,99]⟩,e8⟩]) (k+20) ((0:Int),([]:U (ByteArray×Int)),([]:U (ByteArray×Bool)))).map (λ w=>(fV Gb.fp vO w.2,fV Gb.fp vO w.1))=some (some true,some S):=by kernel_rfl
  rw[hw,Option.map_some,bX,Prod.mk.injEq]at key;exact key
 |[]|[_]|_::_::_::_=>rw[hm]at hs;cases hs
theorem QR{b:aj}{p:bU}(hp:GD p=true){x y u v:Int}(h:uH b p.side x y<=uH b p.side u v):Tq b p x y<=Tq b p u v:=by rw[Kj]at hp;unfold Tq;have:=Int.ediv_le_ediv (c:=p.den) (by omega) (Int.mul_le_mul_of_nonneg_left h (by omega:0<=p.num));omega
theorem ZY{b:aj}{p:bU}{v:aF}(hb:cT b=true)(hv:okV v=true):zI b p v=true↔GD p=true/\∀x y,fI (eG v) x y=true->v.de<=Tq b p x y:=by
 have ho:=(iy _).1 (yD hv);have hz:v.de<=4096:=by simp[okV]at hv;omega
 have hval:qJ b [p]=GD p:=by rw[dH,uI];simp[hb]
 have hT:∀x y,QF b [p] x y=min 4096 (Tq b p x y):=λ_ _=>rfl;unfold zI;rw[QL hv,hval,Bool.true_and,aY];refine and_congr_right λhp=>?_;simp[pR,Mo,PQ,hT];generalize eG v=r at*;constructor;intro h x y hh;rw[dP]at hh;by_cases s0:p.side=0;exact Int.le_trans (by omega) (QR hp (x:=r.x0) (y:=r.y0) (by unfold uH;rw[aM s0,aM s0];omega));by_cases s1:p.side=1;exact Int.le_trans (by omega) (QR hp (x:=r.x1-1) (y:=r.y0) (by unfold uH;rw[aC s0,aM s1,aC s0,aM s1];omega));by_cases s2:p.side=2;exact Int.le_trans (by omega) (QR hp (x:=r.x0) (y:=r.y0) (by unfold uH;rw[aC s0,aC s1,aM s2,aC s0,aC s1,aM s2];omega));exact Int.le_trans (by omega) (QR hp (x:=r.x0) (y:=r.y1-1) (by unfold uH;rw[aC s0,aC s1,aC s2,aC s0,aC s1,aC s2];omega));intro h;have h1:=h r.x0 r.y0 ((dP _ _ _).2 (by omega));have h2:=h r.x0 (r.y1-1) ((dP _ _ _).2 (by omega));have h3:=h (r.x1-1) r.y0 ((dP _ _ _).2 (by omega));have h4:=h (r.x1-1) (r.y1-1) ((dP _ _ _).2 (by omega));omega
theorem aoX{t:dK}{d:bL}{v:aF}(hv:okV v=true)(hd:jX d=[v]):HE t d=false↔∀e∈t.bz,∀x y,fI (eG v) x y=true->HD d.lot v.de x y e=true:=by
 have one:∀x y,aZ [eG v] x y=fI (eG v) x y:=λx y=>by simp[aZ,fI]
 unfold HE HF;rw[hd];simp only[List.any_cons,List.any_nil,Bool.or_false,QL hv,Bool.true_and,Bool.not_not,List.any_eq_false];refine forall_congr' λe=>forall_congr' λ_=>?_;rw[aoB,show pR v=[⟨v.ev,v.de,[eG v]⟩]from rfl,aoA,agV];unfold HD;constructor;intro h x y hh;cases c1:e.lot !=d.lot with
 |true=>rfl
 |false=>
  cases c2:decide (e.top>=v.de)with
  |true=>rfl
  |false=>
   rw[Bool.false_or,Bool.false_or,Bool.not_eq_true',Bool.eq_false_iff];intro hc;rw[aY]at hc;exact h ⟨by simpa using c1,hc.1,by simpa using c2,x,y,by rw[one];exact hh,hc.2⟩
 rintro h ⟨h1,h2,h3,x,y,h4,h5⟩;rw[one]at h4;have:=h x y h4;rw[h1,h2,h5]at this;have c:decide (e.top>=v.de)=false:=by simp;exact h3
 rw[c]at this;simp at this
theorem ahC{aa:U ByteArray}{s:ByteArray}{b:Bool}:addN aa s b=[]↔aa=[]/\b=false:=by
 unfold addN;cases b with
 |false=>simp
 |true=>
  cases aa with
  |nil=>simp
  |cons x l=>
   cases (x::l).any (fp s)<;>simp
theorem ahD(f:bO->Bool):∀(l:U bO)(aa:U ByteArray),l.foldl (λ aa r=>addN aa r.name (f r)) aa=[]↔aa=[]/\∀r∈l,f r=false
 |[],aa=>by simp
 |r::l,aa=>by rw[foldl_cons,ahD f l,ahC,List.forall_mem_cons,and_assoc]
theorem aqi{r:bO}(h:¬r.cM.length=2):wT r=false:=by unfold wT;split;rename_i h2;rw[h2]at h;simp at h;rfl
theorem Z0(r:bO):Cf r=some (wT r)/\(wT r=true->∃a,ci r.cM 0=some a/\a.n=QH r):=by
 unfold Cf;by_cases h2:r.cM.length=2;unfold wT QH
 match hm:r.cM,h2 with
 |[a,b],_=>
  have l2:(((([a,b]:U dD).length:Nat):Int) !=2)=false:=rfl;have g0:ci [a,b] 0=some a:=rfl;have g1:ci [a,b] 1=some b:=rfl;have la:((a.args.length:Int)==0)=decide (a.args.length=0):=by rw[dH];simp
  have lb:((b.args.length:Int)==0)=decide (b.args.length=0):=by rw[dH];simp
  simp only[ai,g0,g1,la,lb,bne];refine⟨?_,λ_=>⟨a,rfl,rfl⟩⟩;rw[show (ByteArray.toList b.s==ByteArray.toList (⟨#[115,101,116,98,97,99,107]⟩))=fp b.s vO from rfl];generalize fp b.s vO=q;generalize (a.op==0)=q1;generalize (b.op==1)=q2;generalize decide (a.args.length=0)=q3;generalize decide (b.args.length=0)=q4;cases r.kind==0<;>cases r.ga==12<;>cases q<;>cases q1<;>cases q2<;>cases q3<;>cases q4<;>rfl
 have l2:((r.cM.length:Int) !=2)=true:=by rw[bne_iff_ne];omega
 have e:=aqi h2;refine⟨?_,λh=>by rw[e]at h;cases h⟩;rw[e,l2];cases r.kind !=0<;>cases r.ga !=12<;>rfl
def keepR(r:bO):Bool:=r.kind==1 || wT r
theorem aqj{p:dJ}(hl:p.rules.length<=1000)(hn:2000<=n):Qd n p=some (dJ.mk p.defs p.tables p.zones (p.rules.filter keepR) p.caps p.views p.tf p.hours):=by
 have key:iter (xY p) n (0,[])=some (p.rules.filter keepR):=by
  refine EW (step:=xY p) (λ i=>(i,(p.rules.take i).filter keepR)) p.rules.length _ rfl (λ i hi=>?_) ?_ n (by omega);have hs:=(Z0 p.rules[i]).1;have hlen:((p.rules.take i).filter keepR).length<=i:=Nat.le_trans (length_filter_le _ _) (by rw[length_take];omega);have hk:[p.rules[i]].filter keepR=bif p.rules[i].kind==1 || wT p.rules[i]then [p.rules[i]]else []:=by cases h:keepR p.rules[i]<;>unfold keepR at h<;>simp[keepR,h]
  rw[fU hi,List.filter_append,hk];generalize (p.rules.take i).filter keepR=L at hlen;have hap:bP L.length L.length 1 1 232=true:=cK (by omega) (by simp[maxLen];omega);simp only[xY,bV hi,ak,bB hi,ai,hs,aW i,show ∀r:bO,sub [r] 0 1=[r]from λ_=>rfl,List.length_singleton,hap,eH,aO];cases p.rules[i].kind==1<;>cases wT p.rules[i]<;>simp;simp[xY]
 simp[Qd,key]
abbrev uT(t:dK):dK:=dK.mk t.cz t.cm t.bu (t.aw.filter keepR) t.cH t.cI t.cV t.cJ t.land t.bz t.windows t.built t.base
abbrev vV(z:Int)(r:aj):aF:=aF.mk r.x0 r.y0 r.x1 r.y1 0 z 2 0 false
abbrev dV(lot z:Int)(r:aj):bL:=bL.mk lot [pu.mk [vV z r] []]
theorem ahE{r:aj}(hr:cT r=true){p:Prop}{q:Int->Int->Prop}:(∀ x y,fI r x y=true->p/\q x y)↔p/\∀x y,fI r x y=true->q x y:=by have ho:=(iy r).1 hr;exact⟨λ h=>⟨(h r.x0 r.y0 ((dP _ _ _).2 (by omega))).1,λx y hh=>(h x y hh).2⟩,λh x y hh=>⟨h.1,h.2 x y hh⟩⟩
theorem aqk{t:dK}{lot h:Int}{r:aj}(hr:br (fC t lot)=true)(hv:okV (vV h r)=true):qY (oV (dU t.land lot).1) (fB (dV lot h r))=yF (iA (fC t lot) r) 21 0 1048576:=by
 have h1:fB (dV lot h r)=[vV h r]:=by unfold fB;rw[show jX (dV lot h r)=[vV h r]from rfl];simp[hv]
 have h2:oV (dU t.land lot).1=fC t lot:=by unfold oV;rw[show (dU t.land lot).1.area=fC t lot from rfl,hr];rfl
 have h3:eG (vV h r)=r:=rfl;rw[h1,h2,qY,foldl_cons,List.foldl_nil,h3]
theorem aoY{t:dK}{lot h:Int}{r:aj}(hf:(dU t.land lot).2=true)(hD:gF n (km (uT t)) (dU t.land lot).1 (dV lot h r)=some true):KA n (uT t) (dV lot h r)=0:=by unfold KA M2;rw[show (dV lot h r).lot=lot from rfl,show(uT t).land=t.land from rfl,hf,hD];rfl
theorem amK{t:dK}{lot day h:Int}{r:aj}(hU:A5 (uT t))(hl:∀l∈t.land,A6 l)(hn:FA n)(hh:1<=h/\h<=4096)(he:(lU t lot day).2=0)(hf:(dU t.land lot).2=true)
 (hD:gF n (km (uT t)) (dU t.land lot).1 (dV lot h r)=some true):(∀ x y,fI r x y=true->ZO t lot day h x y=true)↔LF n (uT t) (dV lot h r) day=[]:=by
 have hd:FF (dV lot h r):=⟨⟨by simp,λp hp=>by simp at hp;subst hp;simp⟩,λp hp=>by simp at hp;subst hp;simp⟩;have hla:=(wS hl lot).1;obtain⟨hr,hv,hin⟩:=adx (v:=vV h r) hla hd.1 hd.2 rfl (by have:=hn.1;omega) hD;have hb:cT r=true:=yD hv;have ho:=(iy r).1 hb
 change ∀x y,fI r x y=true->aZ (fC t lot) x y=true at hin
 change br (fC t lot)=true at hr
 have OK:cT (nH (fC t lot)).1=true:=by
  have hc:=hin r.x0 r.y0 ((dP _ _ _).2 (by omega));have hne:fC t lot≠[]:=by intro e;rw[e]at hc;simp[aZ]at hc
  have⟨b1,b2⟩:=ZN hne hr;rw[b1];exact b2
 have e0:=aoY (h:=h) hf hD;have hset:qY (oV (dU t.land lot).1) (fB (dV lot h r))=yF (iA (fC t lot) r) 21 0 1048576:=aqk hr hv;have T7:vS (uT t) (dV lot h r)=(dU t.land lot).1:=rfl;have J1:∀q:bO,keepR q=true->(A4 n (uT t) (dU t.land lot).1 (dV lot h r) q=false↔(wT q=true->QH q<=yF (iA (fC t lot) r) 21 0 1048576)/\((q.kind==1)=true->zI (nH (fC t lot)).1 (GR q) (vV h r)=true)):=λq hq=>by
  have ks:wT q=true->(q.kind==0)=true:=λhs=>by unfold wT at hs;split at hs;rw[aY]at hs;exact hs.1;cases hs
  unfold A4;cases hs:wT q with
  |true=>
   have k0:=ks hs;have k1:(q.kind==1)=false:=(by rw[beq_iff_eq]at k0;rw[k0];rfl);rw[k0,k1,ak,amJ hU hla hd hn hs,hset];simp
  |false=>
   have k1:(q.kind==1)=true:=(by unfold keepR at hq;rw[hs,Bool.or_false]at hq;exact hq);have k0:(q.kind==0)=false:=(by rw[beq_iff_eq]at k1;rw[k1];rfl);rw[k0,k1,ay,ak];show(!(zI (nH (fC t lot)).1 (GR q) (vV h r)) || false)=false↔_;simp
 have hB:LF n (uT t) (dV lot h r) day=[]↔((∀ q∈yM t lot day,wT q=true->QH q<=yF (iA (fC t lot) r) 21 0 1048576)/\∀q∈yM t lot day,(q.kind==1)=true->zI (nH (fC t lot)).1 (GR q) (vV h r)=true)/\HE (uT t) (dV lot h r)=false:=by unfold LF;rw[e0,show((0:Int)==0)=true from rfl,ak,ahC];refine and_congr_left λ_=>?_;unfold Oa;rw[ahD,T7];unfold applied yM;rw[hf,ak,eq_self,true_and];show(∀ q∈(t.aw.filter keepR).filter (ku (wj t.bu (fC t lot)) day),_)↔_;constructor;intro a;have b:∀q∈t.aw.filter (ku (wj t.bu (fC t lot)) day),keepR q=true->_:=λq hq hk=>(J1 q hk).1 (a q (by simp only[mem_filter]at hq |-;exact⟨⟨hq.1,hk⟩,hq.2⟩));exact⟨λ q hq hs=>(b q hq (by unfold keepR;rw[hs,Bool.or_true])).1 hs,λq hq hs=>(b q hq (by unfold keepR;rw[hs,Bool.true_or])).2 hs⟩;rintro⟨a,b⟩ q hq;simp only[mem_filter]at hq;have hm:q∈t.aw.filter (ku (wj t.bu (fC t lot)) day):=mem_filter.2 ⟨hq.1.1,hq.2⟩;exact(J1 q hq.1.2).2 ⟨a q hm,b q hm⟩
 have hi:=LC (iA (fC t lot) r) 21 0 1048576 (by omega);have hbase:=(aoW (day:=day) he hr hb hin).trans (aqh t lot day);rw[hB,aoX hv (show jX (dV lot h r)=[vV h r]from rfl)];have hrl:(∀ x y,fI r x y=true->ZO t lot day h x y=true)↔(∀ x y,fI r x y=true->aZ (lU t lot day).1 x y=true)/\(∀ x y,fI r x y=true->∀p∈vQ t lot day,P0 (nH (fC t lot)).1 h x y p=true)/\∀x y,fI r x y=true->∀e∈t.bz,HD lot h x y e=true:=by simp[aoV he hr hh];exact⟨λ a=>⟨λ x y g=>(a x y g).1.1,λx y g=>(a x y g).1.2,λx y g=>(a x y g).2⟩,λa x y g=>⟨⟨a.1 x y g,a.2.1 x y g⟩,a.2.2 x y g⟩⟩
 rw[hrl,hbase,and_assoc,and_assoc];have hg:∀x y,fI r x y=true->yl x y:=λx y g=>kV (dS hr).1 (hin x y g);refine⟨λ ⟨_,a,b,c⟩=>⟨a,λq hq hk=>(ZY OK hv).2 ((ahE hb).1 λx y g=>(EY OK (hg x y g) hh _).1 (b x y g (GR q) (mem_map.2 ⟨q,mem_filter.2 ⟨hq,hk⟩,rfl⟩))),λe hm x y g=>c x y g e hm⟩,λ⟨a,b,c⟩=>⟨hi.1,a,λx y g p hp=>?_,λx y g e hm=>c e hm x y g⟩⟩;obtain⟨q,hq,rfl⟩:=mem_map.1 hp;obtain⟨m1,m2⟩:=mem_filter.1 hq;exact(EY OK (hg x y g) hh _).2 ((ahE hb).2 ((ZY OK hv).1 (b q m1 m2)) x y g)
structure aoZ(t:dK):Prop where
 town:aqJ t
 tabs:∀x∈t.cm,x.rows.length<=1048576
 caps:t.cH.length<=1048576
theorem amL{t:dK}(h:FG t=true)(hz:aoZ t):A5 (uT t):=by have hE:=ak9 h hz.town.ud;have hc:=hz.caps;have h1:=hE.rules;have h2:=hE.land;have h3:=hE.zones;have h4:=hE.bz;unfold FG at h;simp at h;obtain⟨⟨_,_,_,_,_,_,h7⟩,_⟩:=h;exact⟨hE.lots,by show t.land.length<=1000;omega,⟨by show t.bz.length<=900;omega,λe he=>by have:=hE.xj e he;omega⟩,by show t.built.length<=1000;omega,by show t.bu.length<=100;omega,by show t.cH.length<=4000000;omega,Nat.le_trans (length_filter_le _ _) (by omega),λr hr=>⟨hE.Cl r (mem_filter.1 hr).1,hz.town.rules r (mem_filter.1 hr).1⟩,hz.town.defs,by show t.cm.length<=_;omega,λx hx=>by have:=hz.tabs x hx;omega⟩
theorem amM{r:aj}{a q:U aj}(_:cT r=true)(h:jq (λ p q=>p&&!q) [r] a=(q,0)):q.length=0↔∀x y,fI r x y=true->aZ a x y=true:=by
 obtain⟨_,_,h3,h4⟩:=M0 (keep:=λp q=>p&&!q) rfl h;have one:∀x y,aZ [r] x y=fI r x y:=λx y=>by simp[aZ,fI]
 rw[List.length_eq_zero_iff];constructor;intro e x y hh;have:=h4 x y;rw[e,one,hh]at this;simpa[aZ]using this.symm;intro hc;cases q with
 |nil=>rfl
 |cons p q=>
  exfalso;have ho:=(iy p).1 ((dS h3).1 p List.mem_cons_self);have h5:=h4 p.x0 p.y0;rw[show aZ (p::q) p.x0 p.y0=true from(lT _ _ _).2 ⟨p,List.mem_cons_self,(dP _ _ _).2 (by omega)⟩,one]at h5;cases hh:fI r p.x0 p.y0 with
  |false=>rw[hh]at h5;cases h5
  |true=>rw[hh,hc _ _ hh]at h5;cases h5
theorem Oc(t:dK)(lot day j:Int)(r:aj)(hz:aoZ t):qG 5000003 t lot day j r=some true:=by
 have hn:FA 5000003:=asD;unfold qG;rw[aoH (.inr rfl),ajD t (by omega)];simp;cases hA:FG t with
 |false=>rfl
 |true=>
  have hE:=ak9 hA hz.town.ud;have hU:=amL hA hz;have Jn:=hE.land;have hrl:=hE.rules;simp;by_cases c1:j<0;simp[c1];by_cases c2:j>=12;simp[c2];obtain⟨J,rfl⟩:∃J:Nat,j=J:=⟨j.toNat,by omega⟩;have hJ:J<12:=by omega
  have w:i64.wrap (J+1)=J+1:=bT (by omega) (by omega);have w3:i64.wrap (3*(J+1))=3*(J+1):=bT (by omega) (by omega);have hd:FF (dV lot (3*(J+1)) r):=⟨⟨by simp,λp hp=>by simp at hp;subst hp;simp⟩,λp hp=>by simp at hp;subst hp;simp⟩;have hB:=amE (n:=5000003) (t:=uT t) (d:=dV lot (3*(J+1)) r) day hU hd hn;obtain⟨b,hb,_⟩:=ads (n:=5000003) (p:=km (uT t)) (lot:=(dU t.land lot).1) (d:=dV lot (3*(J+1)) r) hU.caps (wS hE.lots lot).1 hd.1 hd.2 (by omega);have hb':gF 5000003 (dJ.mk t.cz t.cm t.bu (t.aw.filter keepR) t.cH t.cI t.cV t.cJ) (dU t.land lot).1 (dV lot (3*(J+1)) r)=some b:=hb;have he:KA 5000003 (uT t) (dV lot (3*(J+1)) r)=bif(dU t.land lot).2 then(bif b then 0 else 1)else 4:=by unfold KA M2;rw[show (dV lot (3*(J+1)) r).lot=lot from rfl,show(uT t).land=t.land from rfl,hb];rfl
  simp[c1,c2,w,w3,aqj (n:=5000003) (p:=dJ.mk t.cz t.cm t.bu t.aw t.cH t.cI t.cV t.cJ) (show t.aw.length<=1000 by omega) (by omega),EU (n:=5000003) (id:=lot) hE.lots (by omega) (by omega),show ∀x:aF,sub [x] 0 1=[x]from λ_=>rfl,show ∀x:pu,sub [x] 0 1=[x]from λ_=>rfl,hB,hb'];have aa:∀e:Int,e≠0->∀(l:U (List aj)),l=[]->∀X:Option Bool,((((bif (e !=0)then some true else X):Option (Bool)).bind λv2=>(ck v2 (bif (e==0)then some true else some ((l.length:Nat)==0)))))=some true:=by intro e h0 l hl X;subst hl;have e1:(e !=0)=true:=(by simpa using h0);have e2:(e==0)=false:=(by simpa using h0);rw[e1,e2];rfl
  rcases LY hE lot day (J+1) (show 1000000<=5000003 by omega)with ⟨f1,g⟩|⟨f1,f2,g⟩|⟨f1,f2,f3,g⟩|⟨f1,f2,f3,W,hW,g⟩;rw[g];rfl;rw[g];rfl;rw[g];rcases amn t lot day with h|h|h;exact absurd h f3;rw[h];rfl;rw[h];rfl;have fz:((J:Int)+1).toNat=J+1:=by omega
  rw[g,fz];by_cases hbig:∃k:Nat,k<J+1/\(W k).length>200;rw[aM hbig];rfl;rw[aC hbig];rw[f1,ak]at he;simp;cases b with
  |false=>
   rw[ay]at he;rw[he];rfl
  |true=>
   rw[ak]at he;have el:(((((List.range (J+1)).map W).length:Nat):Int) !=(J+1))=false:=(by rw[length_map,List.length_range,Bool.eq_false_iff];simp);have ib:cR (J:Nat) ((List.range (J+1)).map W).length=true:=bC (by simp);have gJ:ci ((List.range (J+1)).map W) ((0:Nat)+(J:Nat))=some (W J):=(by rw[bH (by simp)];simp);have wl:(W J).length<=200:=(by rcases Nat.lt_or_ge 200 (W J).length with h|h;exact absurd ⟨J,by omega,h⟩ hbig;exact h);have⟨L,l1,l2,l3⟩:=hW J hJ;obtain⟨_,q2⟩:=ajB l1 (by rw[<- l3];exact wl);rw[<- l3]at q2;have hM:=agT (n:=5000003) (a:=[r]) (b:=W J) (by simp) (by omega) (by simp) (by omega) (by omega);have hh:=amK (n:=5000003) (t:=t) (lot:=lot) (day:=day) (h:=3*(J+1)) (r:=r) hU hE.lots hn (by omega) f3 f1 hb;have hr:=(adx (v:=vV (3*(J+1)) r) (wS hE.lots lot).1 hd.1 hd.2 rfl (show 4000002<=5000003 by omega) hb).2.1;simp[he,NG,show ∀x:aj,sub [x] 0 1=[x]from λ_=>rfl,hM];have hm:=amM (r:=r) (a:=W J) (q:=(jq (λ p q=>p&&!q) [r] (W J)).1) (yD hr);generalize jq (λ p q=>p&&!q) [r] (W J)=C at hm;generalize LF 5000003 (uT t) (dV lot (3*(J+1)) r) day=N at hh;cases hc:C.2==0 with
   |false=>rfl
   |true=>
    have hm:=hm (by rw[<- show C.2=0 by simpa using hc]);have key:((C.1.length:Int)==0)=((N.length:Int)==0):=(by rw[dH,beq_iff_eq,beq_iff_eq];have h1:C.1.length=0↔N=[]:=(by rw[hm,<- hh];simp[q2,l2]);have h2:N=[]↔N.length=0:=List.length_eq_zero_iff.symm;rw[h2]at h1;omega);simp[key]
theorem aru{t:dK}(h1:jL (Ca t)<=1048576):aoZ t:=by have hz:=arq h1;have a2:=ZV Nz (λ x=>by simp[Nz,jL,mS];omega) t.cH;simp[Ca,jL,mS]at h1;refine⟨hz,λx hx=>?_,by omega⟩;have h3:=QN (mem_map.2 ⟨x,hx,rfl⟩:xU x∈t.cm.map xU);have h4:=ZV Ak (λ x=>by simp only[Ak,jL,mS];omega) x.rows;simp[xU,jL,mS]at h3;omega
theorem QS(q:HL xx.toSE [.st SI.kA,.int .i64,.int .i64,.int .i64,.st SI.kw])(hb:yf (HL.oe xx.toSE [.st SI.kA,.int .i64,.int .i64,.int .i64,.st SI.kw] q)<=1048576):∃k,qG k q.1 q.2.1 q.2.2.1 q.2.2.2.1 q.2.2.2.2.1=some true:=by have h2:jL (Ca q.1)+yf (HL.oe xx.toSE [.int .i64,.int .i64,.int .i64,.st SI.kw] q.2)<=1048576:=hb;exact⟨5000003,Oc q.1 q.2.1 q.2.2.1 q.2.2.2.1 q.2.2.2.2.1 (aru (by omega))⟩
end Go.Proofs
