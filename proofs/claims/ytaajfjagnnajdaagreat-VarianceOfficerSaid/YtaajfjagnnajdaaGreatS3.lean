/-
  precedent.Add, variance.clone, variance.Decide.
-/
import Derived.Test.YtaajfjagnnajdaaGreatS2
open Go.IntKind (i64)
open Option (bind_some)
open List (mem_cons length_take mem_map length_append getElem_mem length_cons append_nil length_nil length_singleton)
open Bool (and_eq_true)
namespace Go.Proofs
open Go.Gb Go.RowKit
theorem MW {l:List aI} (h:l.length < 1099511627776):AJ l=some l:=tV (b:=40) (by omega) (by simp only[maxLen];omega)
theorem GK {n:Nat} {l:List aI} {φ:(aI×Unit)->Option Bool} (p:aI->Bool) (h:∀ x∈l,φ (x,())=some (p x)) (hl:l.length < 1099511627776) (hn:l.length < n):qx n l φ=some (Wq p l):=Oq p h hl hn
theorem Cq {n:Nat} {l:List aI} {φ:(aI×Unit)->Option Bool} (p:aI->Bool) (h:∀ x∈l,φ (x,())=some (p x)) (hl:l.length < 1099511627776) (hn:l.length < n):jk n l φ=some (l.any p):=by
 unfold jk;rw[GK p h hl hn];simp only[bind_some,abp]
def RY (l:List aI):Prop:=l.length < 1000∧∀ c∈l,c.values.length < 1000
theorem Vj {c:aI} (h:c.values.length < 1000):kL c=some c:=by
 unfold kL;rw[u6 (by omega)];simp only[bind_some,bH,aA,cond_true]
theorem acO {n:Nat} {l:List aI} (h:RY l) (hn:1000<=n):jR n l=some l:=by
 unfold jR;obtain⟨h1,h2⟩:=h;rw[MW (by omega)];have key:=dJ (step:=lq l) (fun i=>((i:Int),l)) (s:=((0:Int),l)) l.length l rfl (fun i hi=>by
  have e:decide ((i:Int) < (l.length:Int))=true:=by simpa using hi
  have hv:=h2 _ (getElem_mem hi);have hs:l.set (((0:Nat):Int)+(i:Int)).toNat (aI.mk l[i].id l[i].values l[i].grant)=l:=by
   have:(((0:Nat):Int)+(i:Int)).toNat=i:=(by omega);rw[this];exact List.set_getElem_self hi
  simp only[lq,e,cond_true,dM hi,fU hi,bind_some,u6 (show l[i].values.length < 1099511627776 by omega),bH,aA,hs,ay (show i < 9223372036854775807 by omega)]) (by
  have e:decide ((l.length:Int) < (l.length:Int))=false:=by simp
  simp only[lq,e,cond_false]) n (by omega)
 simp only[bind_some,key,bH,aA,cond_true]
def aef (M:Mx) (base:List aI) (c:aI):List aI×Int:=
 bif base.any (fun d=>d.id==c.id)then ([],5)else bif base.any (fun d=>!(d.grant==c.grant)&&mX M c.values d)then ([],25)else (base++[c],0)
noncomputable def OA (os:List aV) (base:List aI) (c:aI):List aI×Int:=
 bif (dR os base).2&&Cn (dR os base).1 c.values then aef (dR os base).1 base c else ([],1)
theorem agp {n:Nat} (hn:1000<=n) (os:List aV) {base:List aI} (hb:RY base) {c:aI} (hc:c.values.length < 1000):tu n os base c=some (OA os base c):=by
 obtain⟨hb1,hb2⟩:=hb;unfold tu OA;rw[YR (by omega) os base (by omega) (by omega)];simp only[bind_some];rw[abE (by omega) _ rfl];simp only[bind_some];cases h:(dR os base).2&&Cn (dR os base).1 c.values with
 |false=>rfl
 |true=>
  simp only[and_eq_true]at h;obtain⟨M,g1,g2,g3,g4⟩:=Js h.1;rw[g1]at h ⊢;have hl:=K4 g2;have hz:eqL 0 ([]:List aI).length=true:=rfl;simp only[Bool.not_true,cond_false,cond_true];rw[Cq (fun d=>d.id==c.id) (fun x _=>rfl) (by omega) (by omega)];have e1:decide ((base.length:Int)>=2000)=false:=by simp;omega
  simp only[bind_some,e1,cond_false,hz,cond_true];unfold aef;cases base.any (fun d=>d.id==c.id)with
  |true=>rfl
  |false=>
   simp only[cond_false];have key:=kN (l:=base) (step:=mJ n base c (M,true)) (fun i=>((i:Int),base.take i)) (fun d=>!(d.grant==c.grant)&&mX M c.values d) base (fun _=>(([]:List aI),(25:Int))) (fun i hi=>by
    have e:decide ((i:Int) < (base.length:Int))=true:=(by simpa using hi);have hs1:sub ([base[i]]:List aI) 0 1=[base[i]]:=rfl;have hlen:(base.take i).length=i:=(by simp;omega);have hap:bG i i 1 1 40=true:=cZ (by omega) (by simp only[maxLen];omega);simp only[mJ,e,cond_true,cB hi,bind_some,bH,aA,YS (abD g2) (YV g3 _ (getElem_mem hi)) h.2 (n:=n) (by omega) (by omega),YT,Vj (hb2 _ (getElem_mem hi)),hs1,length_singleton,hlen,hap,fF,ay (show i < 9223372036854775807 by omega)];rw[List.take_succ_eq_append_getElem hi];cases base[i].grant==c.grant with
    |true=>simp only[Bool.not_true,cond_false,bind_some,Bool.false_and]
    |false=>
     simp only[Bool.not_false,cond_true,bind_some,Bool.true_and];cases mX M c.values base[i]<;>rfl) (by
    have e:decide ((base.length:Int) < (base.length:Int))=false:=(by simp);simp only[mJ,e,cond_false,aA,cond_true,List.take_length]) n (by omega)
   simp only[List.take_zero]at key;rw[show ((0:Nat):Int)=0 from rfl]at key;rw[key,<- l6];have hs1:sub ([c]:List aI) 0 1=[c]:=rfl;have hap:bG base.length base.length 1 1 40=true:=cZ (by omega) (by simp only[maxLen];omega);cases kY (fun d=>!(d.grant==c.grant)&&mX M c.values d) base with
   |some i=>rfl
   |none=>simp only[kM,Vj hc,bind_some,hs1,length_singleton,hap,cond_true,fF,bH,aA,Option.isSome_none,cond_false]
noncomputable def iR (os:List aV) (base:List aI) (id:Int) (values:List Int) (officer:Bool):Bool×List aI×Int:=
 bif (bq os base values).2.2 != 0 then (false,base,1)else bif (bq os base values).1==3 then (false,base,25)else
  bif (OA os base (aI.mk id values (bif (bq os base values).1==1 then true else bif (bq os base values).1==2 then false else officer))).2 != 0 then (false,base,(OA os base (aI.mk id values (bif (bq os base values).1==1 then true else bif (bq os base values).1==2 then false else officer))).2)
  else ((bif (bq os base values).1==1 then true else bif (bq os base values).1==2 then false else officer),(OA os base (aI.mk id values (bif (bq os base values).1==1 then true else bif (bq os base values).1==2 then false else officer))).1,0)
theorem wQ {n:Nat} (hn:1000<=n) (os:List aV) {base:List aI} (hb:RY base) (id:Int) {values:List Int} (hv:values.length < 1000) (officer:Bool):dU n os base id values officer=some (iR os base id values officer):=by
 have hg:∀ f:Int,((bif f==1 then some true else (bif f==2 then some false else some officer)):Option Bool)=some (bif f==1 then true else bif f==2 then false else officer):=fun f=>by cases f==1<;>cases f==2<;>rfl
 unfold dU iR;rw[Vi (by omega) os base values (by have:=hb.1;omega) (by have:=hb.1;omega)];simp only[bind_some,acO hb hn,bH,aA,cond_true,hg,u6 (show values.length < 1099511627776 by omega)];generalize (bif (bq os base values).1==1 then true else bif (bq os base values).1==2 then false else officer)=g;rw[agp hn os hb (c:=aI.mk id values g) hv];simp only[bind_some];cases (bq os base values).2.2 != 0 with
 |true=>rfl
 |false=>
  cases (bq os base values).1==3 with
  |true=>rfl
  |false=>
   simp only[cond_false];cases (OA os base (aI.mk id values g)).2 != 0<;>rfl
def gM (v:aB):au:=au.mk v.box_base_x0 v.box_base_y0 v.box_base_x1 v.box_base_y1
def okV (v:aB):Bool:=OkR (gM v)&&(decide (0<=v.box_z0)&&(decide (v.box_z0 < v.box_z1)&&(decide (v.box_z1<=4096)&&((decide (v.use=0) || decide (v.units=0))&&(decide (0<=v.use)&&(decide (v.use < 6)&&(decide (0<=v.units)&&decide (v.units<=1048576))))))))
theorem xW (v:aB):fA v=some (okV v):=by
 unfold fA okV;rw[kF];have e1:decide (v.box_z0 < 0)=!decide (0<=v.box_z0):=by rw[<- decide_not,decide_eq_decide];omega
 have e2:decide (v.box_z0>=v.box_z1)=!decide (v.box_z0 < v.box_z1):=by rw[<- decide_not,decide_eq_decide];omega
 have e3:decide (v.box_z1>4096)=!decide (v.box_z1<=4096):=by rw[<- decide_not,decide_eq_decide];omega
 have e4:(v.use != 0)=!decide (v.use=0):=by by_cases h:v.use=0<;>simp[h]
 have e5:(v.units != 0)=!decide (v.units=0):=by by_cases h:v.units=0<;>simp[h]
 rw[e1,e2,e3,e4,e5,show au.mk v.box_base_x0 v.box_base_y0 v.box_base_x1 v.box_base_y1=gM v from rfl];simp only[ge_iff_le];generalize OkR (gM v)=a1;generalize decide (0<=v.box_z0)=a2;generalize decide (v.box_z0 < v.box_z1)=a3;generalize decide (v.box_z1<=4096)=a4;generalize decide (v.use=0)=a5;generalize decide (v.units=0)=a6;generalize decide (0<=v.use)=a7;generalize decide (v.use < 6)=a8;generalize decide (0<=v.units)=a9;generalize decide (v.units<=1048576)=a10;cases a1<;>cases a2<;>cases a3<;>cases a4<;>cases a5<;>cases a6<;>cases a7<;>cases a8<;>cases a9<;>rfl
theorem YW {v:aB} (h:okV v=true):OkR (gM v)=true:=by rw[okV,and_eq_true]at h;exact h.1
def K5 (d:dw):List aB:=d.phases.flatMap (·.volumes)
theorem YX {l:List xH} (h:∀ p∈l,p.volumes.length<=1000):(l.flatMap (·.volumes)).length<=l.length*1000:=by
 induction l with
 |nil=>simp
 |cons p l ih=>
  have h1:=h p (by simp);have h2:=ih fun q hq=>h q (by simp[hq]);simp only[List.flatMap_cons,length_append,length_cons];omega
def agq (d:dw):Prop:=d.phases.length<=1000∧∀ p∈d.phases,p.volumes.length<=1000
theorem aaF {n:Nat} {d:dw} (h:agq d) (hn:1001<=n):oF n d 0 (d.phases.length:Int)=some (K5 d):=by
 obtain⟨h1,h2⟩:=h;unfold oF;have key:=dJ (step:=kC d 0 (d.phases.length:Int)) (fun i=>((i:Int),(d.phases.take i).flatMap (·.volumes))) (s:=((0:Int),([]:List aB))) d.phases.length (K5 d) rfl (fun i hi=>by
  have e2:decide ((i:Int)>=0)=true:=by simp
  have hl:=YX (l:=d.phases.take i) fun p hp=>h2 p (List.mem_of_mem_take hp);rw[length_take]at hl;have hv:=h2 _ (getElem_mem hi);generalize hL:(d.phases.take i).flatMap (·.volumes)=L at hl;have hap:bG L.length L.length d.phases[i].volumes.length d.phases[i].volumes.length 72=true:=cZ (by omega) (by simp only[maxLen];omega);simp only[kC,jl hi,cond_true,cB hi,bind_some,e2,hap,fF,aA,ay (show i < 9223372036854775807 by omega)];rw[List.take_succ_eq_append_getElem hi,List.flatMap_append,hL];simp only[List.flatMap_cons,List.flatMap_nil,append_nil]) (by simp only[kC,gP,cond_false,aA,cond_true,List.take_length,K5]) n (by omega)
 have hz:eqL 0 ([]:List aB).length=true:=rfl;simp only[hz,cond_true,key,bind_some,bH,aA]
def aeg (v:aB):Int:=(iY v).getD 0
theorem RZ (v:aB):iY v=some (aeg v):=by
 unfold aeg iY;rw[xW];cases v.extra<;>cases okV v<;>rfl
def WW (v:aB):Int:=(kS v).getD 0
theorem YZ (v:aB):kS v=some (WW v):=by
 unfold WW kS;rw[xW,RZ];cases h:okV v with
 |false=>rfl
 |true=>
  have e:=MK (YW h);unfold gM at e;simp only[bind_some,Bool.not_true,cond_false,e,Option.getD_some]
theorem agr {n:Nat} (a0:List eD) (a1:List bf) (a2:List bS) (a3:List aY) (a4:List eF) (a5:List bT) (a6:List aT) (a7:Int) (a8:List au) {a9:List aB} (hl:a9.length<=1000) (hn:1001<=n):∃ r,iP n a0 a1 a2 a3 a4 a5 a6 a7 a8 a9=some (r,a0,a1,a2,a3,a4,a5,a6,a7,a8,a9):=by
 have key:=rP (l:=a9) (step:=gW a9) (fun i (s:Int)=>(s,(i:Int))) (fun v s=>i64.wrap (s+WW v)) (fun s=>s) (fun i hi s=>by simp only[gW,jl hi,cond_true,dM hi,fU hi,bind_some,YZ,ay (show i < 9223372036854775807 by omega)]) (fun s=>by simp only[gW,gP,cond_false]) n (by omega) 0;rw[show ((0:Nat):Int)=0 from rfl]at key;unfold iP nD;simp only[key,bind_some,aA,cond_true];exact⟨_,rfl⟩
theorem ags {n:Nat} (a0:List eD) (a1:List bf) (a2:List bS) (a3:List aY) (a4:List eF) (a5:List bT) (a6:List aT) (a7:Int) (a8:List au) {a9:List aB} (hl:a9.length<=1000) (hn:1001<=n):∃ r,iQ n a0 a1 a2 a3 a4 a5 a6 a7 a8 a9=some (r,a0,a1,a2,a3,a4,a5,a6,a7,a8,a9):=by
 have key:=rP (l:=a9) (step:=gZ a9) (fun i (s:Int)=>(s,(i:Int))) (fun v s=>i64.wrap (s+v.units)) (fun s=>s) (fun i hi s=>by simp only[gZ,jl hi,cond_true,dM hi,fU hi,bind_some,kW,ay (show i < 9223372036854775807 by omega)]) (fun s=>by simp only[gZ,gP,cond_false]) n (by omega) 0;rw[show ((0:Nat):Int)=0 from rfl]at key;unfold iQ nE;simp only[key,bind_some,aA,cond_true];exact⟨_,rfl⟩
theorem aeh {n:Nat} (a0:List eD) (a1:List bf) (a2:List bS) (a3:List aY) (a4:List eF) (a5:List bT) (a6:List aT) (a7:Int) (a8:List au) {a9:List aB} (hl:a9.length<=1000) (hn:1001<=n):∃ r,gX n a0 a1 a2 a3 a4 a5 a6 a7 a8 a9=some (r,a0,a1,a2,a3,a4,a5,a6,a7,a8,a9):=by
 have key:=rP (l:=a9) (step:=d9 a9) (fun i (s:Int)=>(s,(i:Int))) (fun v s=>max s (aeg v)) (fun s=>s) (fun i hi s=>by simp only[d9,jl hi,cond_true,dM hi,fU hi,bind_some,RZ,ay (show i < 9223372036854775807 by omega)]) (fun s=>by simp only[d9,gP,cond_false]) n (by omega) 0;rw[show ((0:Nat):Int)=0 from rfl]at key;unfold gX jD;simp only[key,bind_some,aA,cond_true];exact⟨_,rfl⟩
theorem aei {n:Nat} (a0:List eD) (a1:List bf) (a2:List bS) (a3:List aY) (a4:List eF) (a5:List bT) (a6:List aT) (a7:Int) (a8:List au) {a9:List aB} (hl:a9.length<=1000) (hn:1001<=n):∃ r,gY n a0 a1 a2 a3 a4 a5 a6 a7 a8 a9=some (r,a0,a1,a2,a3,a4,a5,a6,a7,a8,a9):=by
 have key:=rP (l:=a9) (step:=eu a9) (fun i (s:Int)=>(s,(i:Int))) (fun v s=>max s v.box_z1) (fun s=>s) (fun i hi s=>by simp only[eu,jl hi,cond_true,dM hi,fU hi,bind_some,kE,ay (show i < 9223372036854775807 by omega)]) (fun s=>by simp only[eu,gP,cond_false]) n (by omega) 0;rw[show ((0:Nat):Int)=0 from rfl]at key;unfold gY jE;simp only[key,bind_some,aA,cond_true];exact⟨_,rfl⟩
theorem acP (e:bA) (a:Hr) {u:Int} (h0:0<=u) (h6:u < 6):∃ b,iK e a u=some b:=by
 obtain⟨k,rfl⟩:∃ k:Nat,u=(k:Int):=⟨u.toNat,by omega⟩;have hk:k < 6:=by omega
 unfold iK;rw[dM hk,cB (l:=[a.a0,a.a1,a.a2,a.a3,a.a4,a.a5]) hk];exact⟨_,rfl⟩
theorem Ec {n:Nat} {l:List bA} {φ:(bA×Unit)->Option Bool} (p:bA->Bool) (h:∀ x∈l,φ (x,())=some (p x)) (hl:l.length<=9223372036854775807) (hn:l.length < n):oP n l φ=some (Wq p l):=ED p h hl hn
theorem agt {n:Nat} (p:o8) {u:Int} (h0:0<=u) (h6:u < 6) (ht:p.tables.length < n) (ht2:p.tables.length<=9223372036854775807) (hr:∀ t∈p.tables,t.rows.length < n∧t.rows.length<=9223372036854775807):∃ r,z8 n p u=some r:=by
 have key:∃ o,iter (iL n p u) n (0:Int)=some o∧True:=by
  have step:∀ i (hi:i < p.tables.length),iL n p u (i:Int)=some (.inl ((i+1:Nat):Int))∨∃ z,iL n p u (i:Int)=some (.inr (.inr z)):=by
   intro i hi;obtain⟨r1,r2⟩:=hr _ (getElem_mem hi);simp only[iL,jl hi,cond_true,cB hi,bind_some,ay (show i < 9223372036854775807 by omega)];cases ByteArray.toList p.tables[i].name==ByteArray.toList ⟨#[116,114,97,102,102,105,99]⟩with
   |false=>exact Or.inl rfl
   |true=>
    right;simp only[Bool.not_true,cond_false];generalize Hr.mk _ _ _ _ _ _=A;have hx:=Ec (n:=n) (l:=p.tables[i].rows) (φ:=fun y1=>iK y1.1 A u) (fun e=>(iK e A u).getD false) (fun e _=>by obtain⟨b,hb⟩:=acP e A h0 h6;simp[hb]) r2 r1;rw[hx];simp only[bind_some,abp];cases hany:p.tables[i].rows.any fun e=>(iK e A u).getD false with
    |false=>exact⟨_,rfl⟩
    |true=>
     obtain⟨j,hj,h1,_⟩:=adQ hany;rw[h1];simp only[cond_true,cB hj,bind_some];exact⟨_,rfl⟩
  have main:∀ k i m,i+k=p.tables.length->k < m->∃ o,iter (iL n p u) m (i:Int)=some o∧True:=by
   intro k
   induction k with
   |zero=>
    intro i m hi hm;obtain⟨q,rfl⟩:∃ q,m=q+1:=⟨m - 1,by omega⟩;have:i=p.tables.length:=(by omega);subst this;exact⟨.inl (),aU (by simp only[iL,gP,cond_false]),trivial⟩
   |succ k ih=>
    intro i m hi hm;obtain⟨q,rfl⟩:∃ q,m=q+1:=⟨m - 1,by omega⟩;rcases step i (by omega)with h |⟨z,h⟩
    ·rw[bM h];exact ih (i+1) q (by omega) (by omega)
    ·exact⟨_,aU h,trivial⟩
  exact main p.tables.length 0 n (by omega) ht
 obtain⟨o,h1,_⟩:=key;unfold z8;rw[h1];cases o with
 |inl w=>exact⟨_,rfl⟩
 |inr r=>exact⟨_,rfl⟩
theorem aaG {n:Nat} (p:o8) {v:aB} (hv:okV v=true) (ht:p.tables.length < n) (ht2:p.tables.length<=9223372036854775807) (hr:∀ t∈p.tables,t.rows.length < n∧t.rows.length<=9223372036854775807):∃ r,kJ n p v=some r:=by
 simp only[okV,and_eq_true,decide_eq_true_eq]at hv;obtain⟨r,h1⟩:=agt (n:=n) p (u:=v.use) hv.2.2.2.2.2.1 hv.2.2.2.2.2.2.1 ht ht2 hr;unfold kJ;rw[h1,YZ];simp only[bind_some];have e100:((100:Int) != 0)=true:=rfl;by_cases h:r>0
 ·have e:(r != 0)=true:=by simp only[bne_iff_ne,ne_eq];omega
  have e2:decide (r>0)=true:=by simpa using h
  rw[e,e2];simp only[cond_true,bind_some,e100];cases decide (WW v>i64.wrap (Int.tdiv 109951162777600 r))<;>exact⟨_,rfl⟩
 ·have e2:decide (r>0)=false:=by simpa using h
  rw[e2];exact⟨_,rfl⟩
theorem agu {n:Nat} (a0:List eD) (a1:List bf) (a2:List bS) (a3:List aY) (a4:List eF) (a5:List bT) (a6:List aT) (a7:Int) (a8:List au) {a9:List aB} (hl:a9.length<=1000) (hn:1001<=n) (hv:∀ v∈a9,okV v=true) (ht:a1.length < n) (ht2:a1.length<=9223372036854775807) (hr:∀ t∈a1,t.rows.length < n∧t.rows.length<=9223372036854775807):∃ r,gH n a0 a1 a2 a3 a4 a5 a6 a7 a8 a9=some (r,a0,a1,a2,a3,a4,a5,a6,a7,a8,a9):=by
 have key:=j4 (l:=a9) (step:=ig n a9) (fun i (s:Int)=>(s,(i:Int),a0,a1,a2,a3,a4,a5,a6,a7,a8,a9)) (fun v s=>i64.wrap (s+(kJ n (o8.mk a0 a1 a2 a3 a4 a5 a6 a7) v).getD 0)) (fun s=>(s,a0,a1,a2,a3,a4,a5,a6,a7,a8,a9)) (fun _ _=>True) (fun i hi s _=>⟨by
  obtain⟨r,h1⟩:=aaG (n:=n) (o8.mk a0 a1 a2 a3 a4 a5 a6 a7) (hv _ (getElem_mem hi)) ht ht2 hr;simp only[ig,jl hi,cond_true,dM hi,fU hi,bind_some,iM,h1,aA,ay (show i < 9223372036854775807 by omega),Option.getD_some],trivial⟩) (fun s _=>by simp only[ig,gP,cond_false,aA,cond_true]) n (by omega) 0 trivial
 rw[show ((0:Nat):Int)=0 from rfl]at key;unfold gH nG;simp only[key,bind_some,aA,cond_true];exact⟨_,rfl⟩
theorem aej {α β:Type} (l:List α) (f:α->β) (z:β) {i:Nat} (hi:i < l.length):((l.take i).map f++List.replicate (l.length - i) z).set i (f l[i])=(l.take (i+1)).map f++List.replicate (l.length - (i+1)) z:=by
 have h1:((l.take i).map f).length=i:=by simp;omega
 rw[List.set_append_right _ _ (by omega),h1,Nat.sub_self,show l.length - i=(l.length - (i+1))+1 by omega,List.replicate_succ,List.set_cons_zero,List.take_succ_eq_append_getElem hi,List.map_append,List.append_assoc];rfl
theorem aek {α β:Type} (l:List α) (f:α->β) (z:β) {i:Nat} (hi:i<=l.length):((l.take i).map f++List.replicate (l.length - i) z).length=l.length:=by simp;omega
theorem ael {α β:Type} (l:List α) (f:α->β) (z:β) {i:Nat} (hi:i < l.length):((l.take (i+1)).map f++List.replicate (l.length - (i+1)) z)[i]? =some (f l[i]):=by rw[List.getElem?_append_left (by simp;omega)];simp[hi]
theorem aem {n:Nat} {l:List aB} (hl:l.length<=1000) (hn:1001<=n):iter (dQ l) n ((0:Int),List.replicate l.length (au.mk 0 0 0 0),([]:List Int))=some (l.map gM,l.flatMap fun v=>[v.box_base_x0,v.box_base_x1]):=by
 refine dJ (step:=dQ l) (fun i=>((i:Int),(l.take i).map gM++List.replicate (l.length - i) (au.mk 0 0 0 0),(l.take i).flatMap fun v=>[v.box_base_x0,v.box_base_x1])) l.length _ ?_ (fun i hi=>?_) ?_ n (by omega)
 ·simp
 ·have h1:=aek l gM (au.mk 0 0 0 0) (Nat.le_of_lt hi);have h2:=aej l gM (au.mk 0 0 0 0) hi;have h3:=ael l gM (au.mk 0 0 0 0) hi;have h4:((l.take i).flatMap fun v=>[v.box_base_x0,v.box_base_x1]).length=2*i:=by
   have:∀ m:List aB,(m.flatMap fun v=>[v.box_base_x0,v.box_base_x1]).length=2*m.length:=by
    intro m;induction m with
    |nil=>rfl
    |cons a m ih=>simp only[List.flatMap_cons,length_append,ih,length_cons,length_nil];omega
   rw[this,length_take];omega
  generalize (l.take i).map gM++List.replicate (l.length - i) (au.mk 0 0 0 0)=B at h1 h2;have e0:(((0:Nat):Int)+(i:Int)).toNat=i:=by omega
  have et:(((l.length:Nat):Int):Int).toNat=l.length:=by omega
  have hb:au.mk l[i].box_base_x0 l[i].box_base_y0 l[i].box_base_x1 l[i].box_base_y1=gM l[i]:=rfl;have hiB:i < B.length:=by omega
  rw[<- h2]at h3;have g3:at? (B.set i (gM l[i])) (((0:Nat):Int)+(i:Int))=some (gM l[i]):=by rw[DF];exact h3
  have hs:sub ([(gM l[i]).x0,(gM l[i]).x1]:List Int) 0 2=[(gM l[i]).x0,(gM l[i]).x1]:=rfl;have hap:bG (2*i) (2*i) 2 2 8=true:=cZ (by omega) (by simp only[maxLen];omega);have hl2:([(gM l[i]).x0,(gM l[i]).x1]:List Int).length=2:=rfl;simp only[dQ,jl hi,cond_true,dM hi,fU hi,bind_some,et,fU hiB,e0,hb,g3,hs,hl2,h4,hap,fF,aA,ay (show i < 9223372036854775807 by omega)];rw[<- h2,List.take_succ_eq_append_getElem hi,List.flatMap_append];rfl
 ·simp only[dQ,gP,cond_false,aA,cond_true,List.take_length];simp
theorem aen {n:Nat} {l:List aB} {R:List au} {X:List Int} (w2:List Int) (hR:R.length=l.length) (hX:X.length=w2.length) (hl:l.length<=1000) (hn:1001<=n) {k:Nat} (hk:k+1 < w2.length) (hw:w2.length<=10000) (s:Int):∃ o,iter (gm l w2 R X (k:Int)) n (s,(0:Int),(0:Int))=some o∧True:=by
 refine YC (fun i (v:Int×Int×Int)=>v.2.2=(i:Int)) l.length (fun _=>True) (fun i v hi hv=>?_) (fun v hv=>?_) n (by omega) _ rfl
 ·obtain⟨a,b,c⟩:=v;simp only at hv;subst hv;have et:((((l.length:Nat):Int):Int).toNat)=l.length:=by omega
  have ew:i64.wrap ((k:Int)+1)=((k+1:Nat):Int):=ay (by omega);simp only[gm,et,jl hi,cond_true,dM hi,fU (show i < R.length by omega),bind_some,dM (show k < w2.length by omega),fU (show k < X.length by omega),ew,dM hk,fU (show k+1 < X.length by omega),ay (show i < 9223372036854775807 by omega)];cases decide ((R[i]'(by omega)).x0<=X[k]'(by omega))with
  |false=>exact⟨_,rfl,rfl⟩
  |true=>
   simp only[cond_true,bind_some];cases decide (X[k]'(by omega) < (R[i]'(by omega)).x1)with
   |false=>exact⟨_,rfl,rfl⟩
   |true=>
    simp only[cond_true,bind_some];cases decide ((R[i]'(by omega)).y1>b)<;>exact⟨_,rfl,rfl⟩
 ·obtain⟨a,b,c⟩:=v;simp only at hv;subst hv;have et:((((l.length:Nat):Int):Int).toNat)=l.length:=by omega
  simp only[gm,et,gP,cond_false];exact⟨_,rfl,trivial⟩
theorem aeo {n:Nat} (a0:List eD) (a1:List bf) (a2:List bS) (a3:List aY) (a4:List eF) (a5:List bT) (a6:List aT) (a7:Int) (a8:List au) {a9:List aB} (hl:a9.length<=1000) (hn:10000<=n):∃ r,fJ n a0 a1 a2 a3 a4 a5 a6 a7 a8 a9=some (r,a0,a1,a2,a3,a4,a5,a6,a7,a8,a9):=by
 have et:((((a9.length:Nat):Int):Int).toNat)=a9.length:=by omega
 have mk:I7 ((a9.length:Nat):Int) 32=true:=aff (by omega) (by simp only[maxLen];omega);have d1:decide (((a9.length:Nat):Int)<=((a9.length:Nat):Int))=true:=by simp
 have d2:decide (0<=((a9.length:Nat):Int))=true:=by simp
 have hz:eqL 0 ([]:List Int).length=true:=rfl;have hx:(a9.flatMap fun v=>[v.box_base_x0,v.box_base_x1]).length<=2000:=by
  have:∀ m:List aB,(m.flatMap fun v=>[v.box_base_x0,v.box_base_x1]).length=2*m.length:=by
   intro m;induction m with
   |nil=>rfl
   |cons a m ih=>simp only[List.flatMap_cons,length_append,ih,length_cons,length_nil];omega
  rw[this];omega
 unfold fJ;rw[et,aem hl (by omega)];generalize (a9.flatMap fun v=>[v.box_base_x0,v.box_base_x1])=W at hx;have srt:=Ih (n:=n) (l:=a9.map gM) (φ:=fun y1=>fI y1.1 y1.2.1) (fun x y=>if x.y0 < y.y0 then -1 else if y.y0 < x.y0 then 1 else 0) (fun x y=>by
  show fI x y=_;unfold fI;rw[xR];rfl) (fun x y=>by
  unfold ltY;rw[decide_eq_decide];constructor
  ·intro h;split at h
   ·assumption
   ·split at h<;>omega
  ·intro h;rw[if_pos h];decide) (by simp;omega) (by simp;omega)
 have hm:eqL a9.length (a9.map gM).length=true:=by simp
 have hR:(rq ltY (a9.map gM)).length=a9.length:=by rw[DL aby];simp
 have hX:(rf ltI W).length=W.length:=(Jo ltI W).length_eq;simp only[d1,d2,mk,Bool.and_self,cond_true,hz,bind_some,hm,srt,aA,xS (show W.length < 1099511627776 by omega) (show W.length < n by omega)];generalize rq ltY (a9.map gM)=R at hR;generalize rf ltI W=X at hX;have key:∃ o,iter (gq n a9 W R X) n ((0:Int),(0:Int))=some o∧True:=by
  have eN:max (0:Int) (i64.wrap (((W.length:Nat):Int) - 1))=((W.length - 1:Nat):Int):=by
   cases h:W.length with
   |zero=>rfl
   |succ k=>rw[lZ (by omega) (by omega)];omega
  refine YC (fun i (v:Int×Int)=>v.2=(i:Int)) (W.length - 1) (fun _=>True) (fun i v hi hv=>?_) (fun v hv=>?_) n (by omega) _ rfl
  ·obtain⟨a,b⟩:=v;simp only at hv;subst hv;obtain⟨o,ho,_⟩:=aen (n:=n) (l:=a9) (R:=R) (X:=X) W hR hX hl (by omega) (k:=i) (by omega) (by omega) a;simp only[gq,eN,jl hi,cond_true,ho,bind_some,ay (show i < 9223372036854775807 by omega)];exact⟨_,rfl,rfl⟩
  ·obtain⟨a,b⟩:=v;simp only at hv;subst hv;simp only[gq,eN,gP,cond_false];exact⟨_,rfl,trivial⟩
 obtain⟨o,ho,_⟩:=key;rw[ho];exact⟨o,rfl⟩
def Y0 (b:au) (k:Int):au:=⟨b.x0 - k,b.y0 - k,b.x1+k,b.y1+k⟩
def Ed (area:List au) (b:au) (k:Int):Bool:=OkR (Y0 b k)&&decide (area.foldl (fun s y=>agi (Y0 b k) s y) 0=ad8 (Y0 b k))
theorem acQ {n:Nat} (b:au) (k:Int) (a2:List eD) (a3:List bf) (a4:List bS) (a5:List aY) (a6:List eF) (a7:List bT) (a8:List aT) (a9:Int) {a10:List au} (a11:List aB) (hb:OkR b=true) (h0:0<=k) (h1:k<=1048576) (hl:a10.length<=1000) (hn:1001<=n):
 ic n b k a2 a3 a4 a5 a6 a7 a8 a9 a10 a11=some (Ed a10 b k,a2,a3,a4,a5,a6,a7,a8,a9,a10,a11):=by
 rw[afg]at hb;unfold ic AA Ed;rw[dD (x:=b.x0 - k) (by omega) (by omega),dD (x:=b.y0 - k) (by omega) (by omega),dD (x:=b.x1+k) (by omega) (by omega),dD (x:=b.y1+k) (by omega) (by omega),show au.mk (b.x0 - k) (b.y0 - k) (b.x1+k) (b.y1+k)=Y0 b k from rfl,kF];generalize Y0 b k=g;simp only[bind_some];cases hg:OkR g with
 |false=>simp only[Bool.not_false,cond_true,aA,Bool.false_and]
 |true=>
  have key:=rP (l:=a10) (step:=fG a10 (g,true)) (fun i (s:Int)=>(s,(i:Int))) (fun y s=>agi g s y) (fun s=>s) (fun i hi s=>by
   simp only[fG,jl hi,cond_true,cB hi,bind_some,RN,ay (show i < 9223372036854775807 by omega),agi];cases h1:OkR g with
   |false=>rfl
   |true=>
    cases h2:OkR a10[i]with
    |false=>rfl
    |true=>
     cases h3:OkR (RL g a10[i])with
     |false=>rfl
     |true=>simp only[Bool.and_self,cond_true,MK h3,bind_some]) (fun s=>by simp only[fG,gP,cond_false]) n (by omega) 0
  rw[show ((0:Nat):Int)=0 from rfl]at key;simp only[Bool.not_true,cond_false,key,bind_some,MK hg,aA,cond_true,Bool.true_and];congr 2
def MX (p:Int->Bool):Nat->Int->Int->Int
 | 0,lo,_=>lo
 |k+1,lo,hi=>bif decide (lo < hi)then (bif p ((lo+hi+1)/2)then MX p k ((lo+hi+1)/2) hi else MX p k lo ((lo+hi+1)/2 - 1))else lo
theorem WX (p:Int->Bool):∀ k lo hi,lo<=hi->lo<=MX p k lo hi∧MX p k lo hi<=hi
 | 0,lo,hi,h=>by simp only[MX];omega
 |k+1,lo,hi,h=>by
  simp only[MX];by_cases h1:lo < hi
  ·have e:decide (lo < hi)=true:=(by simpa using h1);rw[e,cond_true];cases p ((lo+hi+1)/2)with
   |true=>have:=WX p k ((lo+hi+1)/2) hi (by omega);simp only[cond_true];omega
   |false=>have:=WX p k lo ((lo+hi+1)/2 - 1) (by omega);simp only[cond_false];omega
  ·have e:decide (lo < hi)=false:=(by simpa using h1);rw[e,cond_false];omega
theorem aaH {n:Nat} {v:aB} (hv:OkR (gM v)=true) (a2:List eD) (a3:List bf) (a4:List bS) (a5:List aY) (a6:List eF) (a7:List bT) (a8:List aT) (a9:Int) {a10:List au} (a11:List aB) (hl:a10.length<=1000) (hn:1001<=n):
 ∀ (k:Nat) lo hi m,0<=lo->lo<=hi->hi<=1048576->hi - lo < 2 ^ k->k < m->iter (dh n v) m (lo,hi,a2,a3,a4,a5,a6,a7,a8,a9,a10,a11)=some (MX (Ed a10 (gM v)) k lo hi,a2,a3,a4,a5,a6,a7,a8,a9,a10,a11):=by
 intro k
 induction k with
 |zero=>
  intro lo hi m h0 h1 h2 h3 hm;obtain⟨q,rfl⟩:∃ q,m=q+1:=⟨m - 1,by omega⟩;have:lo=hi:=by simp at h3;omega
  subst this;refine aU ?_;have e:decide (lo < lo)=false:=by simp
  simp only[dh,e,cond_false,aA,cond_true,MX]
 |succ k ih=>
  intro lo hi m h0 h1 h2 h3 hm;obtain⟨q,rfl⟩:∃ q,m=q+1:=⟨m - 1,by omega⟩;have hp:(2:Int) ^ (k+1)=2*2 ^ k:=by rw[Int.pow_succ];omega
  rw[hp]at h3;by_cases hlt:lo < hi
  ·have e:decide (lo < hi)=true:=(by simpa using hlt);have e2:((2:Nat) != 0)=true:=rfl;have em:i64.wrap (Int.tdiv (i64.wrap (i64.wrap (lo+hi)+1)) 2)=(lo+hi+1)/2:=(by rw[dD (x:=lo+hi) (by omega) (by omega),dD (x:=lo+hi+1) (by omega) (by omega),Int.tdiv_eq_ediv_of_nonneg (by omega),dD (by omega) (by omega)]);have hi2:=acQ (n:=n) (gM v) ((lo+hi+1)/2) a2 a3 a4 a5 a6 a7 a8 a9 (a10:=a10) a11 hv (by omega) (by omega) hl hn;unfold gM at hi2;cases hc:Ed a10 (gM v) ((lo+hi+1)/2)with
   |true=>
    rw[bM (v':=((lo+hi+1)/2,hi,a2,a3,a4,a5,a6,a7,a8,a9,a10,a11)) (by
     unfold gM at hc;simp only[dh,e,cond_true,e2,aA,em,hi2,bind_some,hc]),ih _ _ _ (by omega) (by omega) (by omega) (by omega) (by omega)]
    simp only[MX,e,cond_true,hc]
   |false=>
    rw[bM (v':=(lo,(lo+hi+1)/2 - 1,a2,a3,a4,a5,a6,a7,a8,a9,a10,a11)) (by
     unfold gM at hc;simp only[dh,e,cond_true,e2,aA,em,hi2,bind_some,hc,cond_false,dD (x:=(lo+hi+1)/2 - 1) (by omega) (by omega)]),ih _ _ _ (by omega) (by omega) (by omega) (by omega) (by omega)]
    simp only[MX,e,cond_true,hc,cond_false]
  ·have e:decide (lo < hi)=false:=(by simpa using hlt);refine aU ?_;simp only[dh,e,cond_false,aA,cond_true,MX]
def xX (area:List au) (l:List aB):Int:=l.foldl (fun b v=>MX (Ed area (gM v)) 21 0 b) 1048576
theorem aaI {n:Nat} (a0:List eD) (a1:List bf) (a2:List bS) (a3:List aY) (a4:List eF) (a5:List bT) (a6:List aT) (a7:Int) {a8:List au} {a9:List aB} (hv:∀ v∈a9,okV v=true) (hl:a9.length<=1000) (h8:a8.length<=1000) (hn:1001<=n):gG n a0 a1 a2 a3 a4 a5 a6 a7 a8 a9=some (xX a8 a9,a0,a1,a2,a3,a4,a5,a6,a7,a8,a9):=by
 have key:=j4 (l:=a9) (step:=eX n a9) (fun i (s:Int)=>(s,(i:Int),a0,a1,a2,a3,a4,a5,a6,a7,a8,a9)) (fun v s=>MX (Ed a8 (gM v)) 21 0 s) (fun s=>(s,a0,a1,a2,a3,a4,a5,a6,a7,a8,a9)) (fun _ s=>0<=s∧s<=1048576) (fun i hi s hs=>by
  have h1:=aaH (n:=n) (YW (hv _ (getElem_mem hi))) a0 a1 a2 a3 a4 a5 a6 a7 (a10:=a8) a9 h8 hn 21 0 s n (by omega) hs.1 hs.2 (by have:(2:Int) ^ 21=2097152:=rfl;omega) (by omega);have h2:=WX (Ed a8 (gM a9[i])) 21 0 s hs.1;refine⟨?_,by omega,by omega⟩;simp only[eX,jl hi,cond_true,dM hi,fU hi,bind_some,aA,h1,ay (show i < 9223372036854775807 by omega)]) (fun s _=>by simp only[eX,gP,cond_false,aA,cond_true]) n (by omega) 1048576 (by omega)
 rw[show ((0:Nat):Int)=0 from rfl]at key;unfold gG;simp only[aA,cond_true,key,bind_some];rfl
def dO (d:dw):List aB:=((K5 d).take 40).filter okV
theorem WY (d:dw):∀ v∈dO d,okV v=true:=fun v hv=>(List.mem_filter.1 hv).2
theorem TI (d:dw):(dO d).length<=40:=Nat.le_trans (List.length_filter_le _ _) (by rw[length_take];omega)
def lu (lot:iI):List au:=bif rightL lot.area then lot.area else []
theorem ag2 {n:Nat} {l:List aB} (a0:List eD) (a1:List bf) (a2:List bS) (a3:List aY) (a4:List eF) (a5:List bT) (a6:List aT) (a7:Int) (a8:List au) (hl:l.length<=9223372036854775807) (hn:l.length < n):
 iter (nY l) n ((0:Int),a0,a1,a2,a3,a4,a5,a6,a7,a8,([]:List aB))=some (a0,a1,a2,a3,a4,a5,a6,a7,a8,(l.take 40).filter okV):=by
 refine dJ (step:=nY l) (fun i=>((i:Int),a0,a1,a2,a3,a4,a5,a6,a7,a8,((l.take i).take 40).filter okV)) l.length _ (by simp) (fun i hi=>?_) ?_ n hn
 ·have hlen:(((l.take i).take 40).filter okV).length<=40:=Nat.le_trans (List.length_filter_le _ _) (by rw[length_take];omega);have e40:decide ((i:Int) < 40)=decide (i < 40):=by rw[decide_eq_decide];omega
  have hs:sub ([l[i]]:List aB) 0 1=[l[i]]:=rfl;have hN:((l.take (i+1)).take 40).filter okV=((l.take i).take 40).filter okV++(bif decide (i < 40)&&okV l[i]then [l[i]]else []):=by
   by_cases h:i < 40
   ·have h1:(l.take i).take 40=l.take i:=List.take_of_length_le (by rw[length_take];omega);have h2:(l.take (i+1)).take 40=l.take (i+1):=List.take_of_length_le (by rw[length_take];omega);have h3:decide (i < 40)=true:=(by simpa using h);rw[h1,h2,List.take_succ_eq_append_getElem hi,List.filter_append,h3];cases h4:okV l[i]<;>simp[h4]
   ·have h3:decide (i < 40)=false:=(by simpa using h);rw[List.take_take,List.take_take,h3,show min 40 (i+1)=40 by omega,show min 40 i=40 by omega];simp
  rw[hN];generalize ((l.take i).take 40).filter okV=L at hlen;have hap:bG L.length L.length 1 1 72=true:=cZ (by omega) (by simp only[maxLen];omega);simp only[nY,jl hi,cond_true,dM hi,fU hi,bind_some,e40,xW,ay (show i < 9223372036854775807 by omega)];cases decide (i < 40)with
  |false=>simp only[cond_false,bind_some,aA,cond_true,Bool.false_and,append_nil]
  |true=>
   simp only[cond_true,bind_some,Bool.true_and];cases okV l[i]with
   |false=>simp only[cond_false,aA,cond_true,bind_some,append_nil]
   |true=>simp only[cond_true,hs,length_singleton,hap,fF,aA,bind_some]
 ·simp only[nY,gP,cond_false,aA,cond_true,List.take_length]
def aep (n:Nat) (p:o8):Prop:=p.tables.length < n∧p.tables.length<=9223372036854775807∧∀ t∈p.tables,t.rows.length < n∧t.rows.length<=9223372036854775807
def acR:ByteArray:=⟨#[115,101,116,98,97,99,107]⟩
theorem ag3 {n:Nat} {p:o8} {lot:iI} {d:dw} (hp:aep n p) (hl:lot.area.length<=900) (hd:agq d) (hn:2000000<=n):∃ e1 e2 e3 e4 e5 e6 e7 e8:Int,DY n p lot d=some [⟨⟨#[97,114,101,97]⟩,e1⟩,⟨⟨#[99,111,118,101,114]⟩,e2⟩,⟨⟨#[102,108,111,111,114]⟩,e3⟩,⟨⟨#[102,108,111,111,114,115]⟩,e4⟩,⟨⟨#[104,101,105,103,104,116]⟩,e5⟩,⟨⟨#[104,111,109,101,115]⟩,e6⟩,⟨⟨#[114,117,110,111,102,102]⟩,e7⟩,⟨acR,xX (lu lot) (dO d)⟩,⟨⟨#[116,114,97,102,102,105,99]⟩,e8⟩]:=by
 have hs1:lu lot=(bif rightL lot.area then lot.area else []):=rfl;have hsl:(lu lot).length<=900:=by unfold lu;cases rightL lot.area<;>simp[hl]
 have hvl:=TI d;have hvo:=WY d;have hfl:=YX hd.2;have hd1:=hd.1;obtain⟨hp1,hp2,hp3⟩:=hp;have hz:eqL 0 ([]:List aB).length=true:=rfl;have hsite:((bif rightL lot.area then some (p.defs,p.tables,p.zones,p.rules,p.caps,p.views,p.sun,p.hours,lot.area)else some (p.defs,p.tables,p.zones,p.rules,p.caps,p.views,p.sun,p.hours,([]:(List au)))):Option ((List eD)×(List bf)×(List bS)×(List aY)×(List eF)×(List bT)×(List aT)×Int×(List au)))=some (p.defs,p.tables,p.zones,p.rules,p.caps,p.views,p.sun,p.hours,lu lot):=by rw[hs1];cases rightL lot.area<;>rfl
 obtain⟨e2,h2⟩:=aeo (n:=n) p.defs p.tables p.zones p.rules p.caps p.views p.sun p.hours (lu lot) (a9:=dO d) (by omega) (by omega);obtain⟨e3,h3⟩:=agr (n:=n) p.defs p.tables p.zones p.rules p.caps p.views p.sun p.hours (lu lot) (a9:=dO d) (by omega) (by omega);obtain⟨e4,h4⟩:=aeh (n:=n) p.defs p.tables p.zones p.rules p.caps p.views p.sun p.hours (lu lot) (a9:=dO d) (by omega) (by omega);obtain⟨e5,h5⟩:=aei (n:=n) p.defs p.tables p.zones p.rules p.caps p.views p.sun p.hours (lu lot) (a9:=dO d) (by omega) (by omega);obtain⟨e6,h6⟩:=ags (n:=n) p.defs p.tables p.zones p.rules p.caps p.views p.sun p.hours (lu lot) (a9:=dO d) (by omega) (by omega);have h8:=aaI (n:=n) p.defs p.tables p.zones p.rules p.caps p.views p.sun p.hours (a8:=lu lot) (a9:=dO d) hvo (by omega) (by omega) (by omega);obtain⟨e9,h9⟩:=agu (n:=n) p.defs p.tables p.zones p.rules p.caps p.views p.sun p.hours (lu lot) (a9:=dO d) (by omega) (by omega) hvo hp1 hp2 hp3;refine⟨bif rightL (lu lot)then KX (lu lot)else 0,e2,e3,e4,e5,e6,e2,e9,?_⟩;unfold DY;rw[Ac (by omega) (by omega) (by omega),aaF hd (by omega)];simp only[bind_some,hsite,hz,cond_true];rw[ag2 (n:=n) p.defs p.tables p.zones p.rules p.caps p.views p.sun p.hours (lu lot) (by show (K5 d).length<=_;unfold K5;omega) (by show (K5 d).length < _;unfold K5;omega)];have hr:((K5 d).take 40).filter okV=dO d:=rfl;have s1:∀ e:bA,sub ([e]:List bA) 0 1=[e]:=fun _=>rfl;have ap:∀ k,k<=20->bG k k 1 1 24=true:=fun k hk=>cZ (by omega) (by simp only[maxLen];omega);have lot:jH n p.defs p.tables p.zones p.rules p.caps p.views p.sun p.hours (lu lot) (dO d)=some (bif rightL (lu lot)then KX (lu lot)else 0,p.defs,p.tables,p.zones,p.rules,p.caps,p.views,p.sun,p.hours,lu lot,dO d):=by
  unfold jH;rw[aao (by omega) (by omega)];simp only[bind_some,aA,cond_true]
 simp only[hr,bind_some,aA,cond_true,lot,s1,length_singleton,ap 0 (by omega),fF,h2,ap 1 (by omega),length_append,ap 2 (by omega),h3,ap 3 (by omega),h4,ap 4 (by omega),h5,ap 5 (by omega),h6,ap 6 (by omega),h8,ap 7 (by omega),h9,ap 8 (by omega),Nat.reduceAdd,Nat.zero_add,bH];rfl
theorem Vk:∀ x:List UInt8,Op.bytesLess x x=false
 |[]=>rfl
 |a::x=>by rw[Op.bytesLess,Vk x];simp
theorem R4:∀ x y z:List UInt8,Op.bytesLess x y=true->Op.bytesLess y z=true->Op.bytesLess x z=true
 |_,_,[],_,h=>by cases h':(‹List UInt8›)<;>simp_all [Op.bytesLess]
 |_,[],_::_,h,_=>by simp[Op.bytesLess]at h
 |[],_::_,_::_,_,_=>rfl
 |a::x,b::y,c::z,h1,h2=>by
  simp only[Op.bytesLess,Bool.or_eq_true,decide_eq_true_eq,and_eq_true,beq_iff_eq]at h1 h2 ⊢;rcases h1 with h1 |⟨rfl,h1⟩
  ·rcases h2 with h2 |⟨rfl,_⟩
   ·exact Or.inl (UInt8.lt_trans h1 h2)
   ·exact Or.inl h1
  ·rcases h2 with h2 |⟨rfl,h2⟩
   ·exact Or.inl h2
   ·exact Or.inr ⟨rfl,R4 x y z h1 h2⟩
theorem aaJ:∀ x y:List UInt8,Op.bytesLess x y=false->Op.bytesLess y x=false->x=y
 |[],[],_,_=>rfl
 |[],_::_,h,_=>by simp[Op.bytesLess]at h
 |_::_,[],_,h=>by simp[Op.bytesLess]at h
 |a::x,b::y,h1,h2=>by
  simp only[Op.bytesLess,Bool.or_eq_false_iff,decide_eq_false_iff_not,Bool.and_eq_false_iff,beq_eq_false_iff_ne]at h1 h2;have:a=b:=UInt8.le_antisymm (UInt8.not_lt.1 h2.1) (UInt8.not_lt.1 h1.1);subst this;rw[aaJ x y (h1.2.resolve_left (by simp)) (h2.2.resolve_left (by simp))]
theorem Cr:Go.Sort.SWO zO where
 irrefl x:=Vk _
 trans x y z h1 h2:=R4 _ _ _ h1 h2
 ntrans x y z h1 h2:=by
  unfold zO at*;cases h:Op.bytesLess x.toList z.toList with
  |false=>rfl
  |true=>
   cases h3:Op.bytesLess z.toList y.toList with
   |true=>rw[R4 _ _ _ h h3]at h1;cases h1
   |false=>rw[aaJ _ _ h2 h3,h]at h1;cases h1
theorem Jt (a b:ByteArray):cmp_Less_string a b=some (zO a b):=by
 have h:(a.toList==a.toList)=true:=by simp
 unfold cmp_Less_string cmp_isNaN_string;rw[h];rfl
theorem Oc (n:Nat):∀ m,dG n m=dK cmp_Less_string (fun r=>r) aK aL n m
 | 0=>rfl
 |m+1=>by
  show iJ n (dG n m)=fT cmp_Less_string (fun r=>r) aK aL n (dK cmp_Less_string (fun r=>r) aK aL n m);rw[Oc n m];generalize dK cmp_Less_string (fun r=>r) aK aL n m=rc
  kernel_rfl
theorem K6 {n:Nat} {l:List ByteArray} (hl:l.length < 1099511627776) (hn:l.length < n):qb n l=some (rq zO l):=by
 unfold qb jB;rw[kQ (by omega),uy (by omega),Oc];simp only[bind_some,aA,cond_true];rw[pY (lt:=zO) Cr (f:=zO) (q:=fun r=>r) Jt (fun _ _=>rfl) abv abw (by omega) hn hn];rfl
def neS (x y:ByteArray):Bool:=!(x.toList==y.toList)
theorem GL {n:Nat} {l:List ByteArray} (hl:l.length < 1099511627776) (hn:l.length < n):kZ n l=some ((),Kz neS l):=by
 have e:kZ n l=Ml (fun x y=>x.toList==y.toList) (fun x y=>!(x.toList==y.toList)) n l:=by kernel_rfl
 rw[e];exact IV (ne:=neS) (fun x y=>by simp[neS]) hl hn
def WZ:List (List UInt8)->Nat
 |[]=>0
 |x::l=>WZ l+(if x∈l then 0 else 1)
theorem R5:∀ l:List (List UInt8),∃ k:List (List UInt8),k.Nodup∧k.length=WZ l∧∀ z,z∈k↔z∈l
 |[]=>⟨[],List.nodup_nil,rfl,fun _=>Iff.rfl⟩
 |x::l=>by
  obtain⟨k,h1,h2,h3⟩:=R5 l;by_cases h:x∈l
  ·exact⟨k,h1,by simp only[WZ,if_pos h];omega,fun z=>by rw[h3,mem_cons];constructor;exact Or.inr;rintro (rfl |h');exact h;exact h'⟩
  ·exact⟨x::k,List.nodup_cons.2 ⟨fun h'=>h ((h3 x).1 h'),h1⟩,by simp only[WZ,if_neg h,length_cons];omega,fun z=>by rw[mem_cons,mem_cons,h3]⟩
theorem AL {α:Type} [DecidableEq α]:∀ (l m:List α),l.Nodup->(∀ x∈l,x∈m)->l.length<=m.length
 |[],_,_,_=>Nat.zero_le _
 |x::l,m,h,hm=>by
  rw[List.nodup_cons]at h;have hx:=hm x (by simp);have h1:=AL l (m.erase x) h.2 (fun y hy=>(List.mem_erase_of_ne (by rintro rfl;exact h.1 hy)).2 (hm y (by simp[hy])));have h2:=List.length_erase_of_mem hx;have h3:=List.length_pos_of_mem hx;simp only[length_cons];omega
theorem aaK {l m:List (List UInt8)} (h:∀ z,z∈l↔z∈m):WZ l=WZ m:=by
 obtain⟨k,a1,a2,a3⟩:=R5 l;obtain⟨j,b1,b2,b3⟩:=R5 m;have h1:=AL k j a1 fun x hx=>(b3 x).2 ((h x).1 ((a3 x).1 hx));have h2:=AL j k b1 fun x hx=>(a3 x).2 ((h x).2 ((b3 x).1 hx));omega
theorem aer (x y:ByteArray) (l:List ByteArray):(Kz neS (x::y::l)).length=(Kz neS (y::l)).length+(if x.toList=y.toList then 0 else 1):=by
 simp only[Kz,List.foldl_cons,length_cons,pI];by_cases h:x.toList=y.toList
 ·have:neS y x=false:=by simp[neS,h]
  rw[this,if_pos h];rfl
 ·have:neS y x=true:=by simp only[neS,Bool.not_eq_true',beq_eq_false_iff_ne];exact fun h'=>h h'.symm
  rw[this,if_neg h,KA];simp only[cond_true,List.nil_append,length_append,length_singleton];omega
theorem Y1:∀ l:List ByteArray,l.Pairwise (fun x y=>zO y x=false)->(Kz neS l).length=WZ (l.map ByteArray.toList)
 |[],_=>rfl
 |[x],_=>rfl
 |x::y::l,h=>by
  rw[List.pairwise_cons]at h;rw[aer,Y1 (y::l) h.2];show _=WZ ((y::l).map ByteArray.toList)+_;congr 1;by_cases e:x.toList=y.toList
  ·rw[if_pos e,if_pos (by rw[e];simp)]
  ·rw[if_neg e,if_neg];rw[mem_map];rintro⟨z,hz,hzx⟩;rcases mem_cons.1 hz with rfl |hz'
   ·exact e hzx.symm
   ·have h1:=(List.pairwise_cons.1 h.2).1 z hz';have h2:=h.1 y (by simp);unfold zO at h1 h2;rw[hzx]at h1;exact e (aaJ _ _ h1 h2)
def H6 (names:List ByteArray):Nat:=WZ (names.map ByteArray.toList)
theorem aaL (names:List ByteArray):(Kz neS (rq zO names)).length=H6 names:=by
 rw[Y1 _ (DK Cr names)];refine aaK fun z=>?_;rw[mem_map,mem_map];constructor
 ·rintro⟨a,h1,h2⟩;exact⟨a,(xG Cr names).mem_iff.1 h1,h2⟩
 ·rintro⟨a,h1,h2⟩;exact⟨a,(xG Cr names).mem_iff.2 h1,h2⟩
theorem aes {n:Nat} (hn:400<=n) (os:List aV) (hl:os.length < n) (hl2:os.length < 9223372036854775807):vR n os=some (os.all EU&&decide (os.length<=12)):=by
 unfold vR;have h:=ML (l:=os) (step:=oD n os) (fun o=>!EU o) () false (fun i hi=>by
  have hc:(eqL zeroM.l.length 144&&fP 0 zeroM.l.length (List.replicate 144 false).length)=true:=by rw[mK];exact jm (fun _ _=>false) (fun _ _=>false)
  have hg:(eqL (fq (geO os[i])).l.length 144&&fP 0 (fq (geO os[i])).l.length (List.replicate 144 false).length)=true:=by rw[mK];exact jm _ (fun _ _=>false)
  simp only[oD,jl hi,cond_true,cB hi,bind_some,Ck (n:=n) hn,ay (show i < 9223372036854775807 by omega)];unfold EU;cases nI os[i]&&!(RP os[i])with
  |true=>simp only[cond_true,hg,Bool.not_true,cond_false]
  |false=>simp only[cond_false,hc,cond_true,Bool.not_false,Option.map_some]) (by simp only[oD,gP,cond_false]) n hl
 rw[h];have e:(os.any fun o=>!EU o)=!(os.all EU):=by rw[List.all_eq_not_any_not,Bool.not_not]
 have d:decide (((os.length:Nat):Int)<=12)=decide (os.length<=12):=by rw[decide_eq_decide];omega
 rw[e,d];cases os.all EU<;>rfl
structure aeu (n:Nat) (t:vK) (d:dw):Prop where
 lots:∀ l∈t.land,aas l
 land:t.land.length<=100
 tabs:aep n (o8.mk t.plan_defs t.plan_tables t.plan_zones t.plan_rules t.plan_caps t.plan_views t.plan_sun t.plan_hours)
 few:agq d
def R6 (t:vK) (d:dw):iI:=(dx t.land d.lot).1
def aev (t:vK) (d:dw) (names:List ByteArray):List Int:=[((H6 names:Nat):Int),xX (lu (R6 t d)) (dO d),(((YB t.land d.lot 10).length:Nat):Int),(((R6 t d).area.length:Nat):Int)]
theorem aaM {n:Nat} {t:vK} {d:dw} (h:aeu n t d) (hn:2000000<=n):mD n t (R6 t d) d=some (xX (lu (R6 t d)) (dO d)):=by
 have hw:=acL h.lots d.lot;obtain⟨e1,e2,e3,e4,e5,e6,e7,e8,he⟩:=ag3 (n:=n) h.tabs (lot:=R6 t d) hw.1 h.few hn;unfold mD;rw[he];simp only[bind_some];obtain⟨m,rfl⟩:∃ m,n=m+20:=⟨n - 20,by omega⟩;generalize xX (lu (R6 t d)) (dO d)=S;show _=_
 kernel_rfl
theorem TJ {n:Nat} {names:List ByteArray} (hn:200000<=n) (hl:names.length<=100000):jG n names=some ((H6 names:Nat):Int):=by
 unfold jG ny nC lS;have hs:acr names=some (names,names):=by unfold acr;rw[Nat.ble_eq_true_of_le (by omega)];rfl
 have h1:(rq zO names).length=names.length:=DL Cr names;simp only[bind_some,hs,aA,cond_true,K6 (n:=n) (l:=names) (by omega) (by omega),h1];rw[GL (by omega) (by omega)];simp only[bind_some,aaL]
theorem aaN {n:Nat} {t:vK} {d:dw} (h:aeu n t d) (hn:2000000<=n) {names:List ByteArray} (hl:names.length<=100000):mE n t d names=some (aev t d names):=by
 have hF:=acK (n:=n) (id:=d.lot) h.lots (by have:=h.land;omega) (by have:=h.land;omega);have hN:=aar (n:=n) (d:=10) (fun l hl=>(h.lots l hl).1) hF h.land (by omega);have hS:jI n t (dx t.land d.lot).1 d=some (xX (lu (R6 t d)) (dO d)):=by
  unfold jI;rw[show (dx t.land d.lot).1=R6 t d from rfl,aaM h hn];rfl
 have h3:jJ n t d=some (((YB t.land d.lot 10).length:Nat):Int):=by unfold jJ;rw[hN];rfl
 have h4:nH (dx t.land d.lot).1=some (((R6 t d).area.length:Nat):Int):=rfl;have mk:(decide ((4:Int)<=4)&&(decide ((0:Int)<=4)&&I7 4 8))=true:=by kernel_rfl
 unfold mE aev;rw[hF];simp only[bind_some,mk,cond_true,TJ (n:=n) (names:=names) (by omega) hl,hS,h3,h4];generalize ((H6 names:Nat):Int)=A;generalize xX (lu (R6 t d)) (dO d)=B;generalize (((YB t.land d.lot 10).length:Nat):Int)=C;generalize (((R6 t d).area.length:Nat):Int)=D;show _=_
 kernel_rfl
def lineO:aV:=aV.mk 3 [kr.mk 0 1,kr.mk 1 2]
theorem afp:KM=some lineO:=by kernel_rfl
theorem aaO (a b:Nat):eO lineO a b=true↔(a=0∧b=1)∨(a=1∧b=2):=by
 simp only[eO,lineO,List.any_cons,List.any_nil,Bool.or_false,Bool.or_eq_true,and_eq_true,decide_eq_true_eq];omega
theorem abF {a b:Nat} (h:Tc (eO lineO) a b):a < b∧b < 3:=by
 induction h with
 |one _ _ h=>have:=(aaO _ _).1 h;omega
 |trans _ _ h1 h2=>omega
theorem aew:RP lineO=false:=by
 cases h:RP lineO with
 |false=>rfl
 |true=>obtain⟨a,ha⟩:=YG.1 h;have:=abF ha;omega
theorem abG:EU lineO=true:=by
 unfold EU;rw[aew]
 kernel_rfl
def R3:List (List Bool):=[[true,true,true],[false,true,true],[false,false,true]]
theorem afq {a b:Nat} (ha:a < 3) (hb:b < 3):tcB (eO lineO) a b=decide (a < b):=by
 rw[Bool.eq_iff_iff,Pv,decide_eq_true_eq];constructor
 ·exact fun h=>(abF h).1
 ·intro h;have h01:Tc (eO lineO) 0 1:= .one (by omega) (by omega) ((aaO 0 1).2 (Or.inl ⟨rfl,rfl⟩));have h12:Tc (eO lineO) 1 2:= .one (by omega) (by omega) ((aaO 1 2).2 (Or.inr ⟨rfl,rfl⟩));have:(a=0∧b=1)∨(a=1∧b=2)∨(a=0∧b=2):=by omega
  rcases this with ⟨rfl,rfl⟩ |⟨rfl,rfl⟩ |⟨rfl,rfl⟩
  ·exact h01
  ·exact h12
  ·exact h01.trans h12
theorem afr {a b:Nat} (ha:a < 3) (hb:b < 3):geO lineO a b=decide (a<=b):=by
 unfold geO;rw[afq ha hb,Bool.eq_iff_iff];have e3:lineO.values=3:=rfl;simp only[Bool.or_eq_true,and_eq_true,decide_eq_true_eq,e3];omega
theorem acS:EK lineO=R3:=by
 have:EK lineO=(List.range 3).map fun a=>(List.range 3).map fun b=>decide (a<=b):=by
  unfold EK;refine List.map_congr_left fun a ha=>List.map_congr_left fun b hb=>?_;exact afr (List.mem_range.1 ha) (List.mem_range.1 hb)
 rw[this];rfl
theorem H7:EL [lineO,lineO]=some [R3,R3]:=by
 unfold EL;rw[if_pos ⟨by decide,by simp[abG]⟩];simp only[List.map_cons,List.map_nil,acS]
theorem ahb:iR [lineO,lineO] [] 1 [1,1] true=(true,[aI.mk 1 [1,1] true],0):=by
 unfold iR bq OA dR;simp only[H7]
 kernel_rfl
theorem ahc:iR [lineO,lineO] [aI.mk 1 [1,1] true] 2 [1,2] false=(true,[aI.mk 1 [1,1] true,aI.mk 2 [1,2] true],0):=by
 unfold iR bq OA dR;simp only[H7]
 kernel_rfl
theorem ahd:iR [lineO,lineO] [aI.mk 1 [1,1] true,aI.mk 2 [1,2] true] 3 [0,1] false=(false,[aI.mk 1 [1,1] true,aI.mk 2 [1,2] true,aI.mk 3 [0,1] false],0):=by
 unfold iR bq OA dR;simp only[H7]
 kernel_rfl
theorem ahe:iR [lineO,lineO] [aI.mk 1 [1,1] true,aI.mk 2 [1,2] true,aI.mk 3 [0,1] false] 3 [0,2] false=(false,[aI.mk 1 [1,1] true,aI.mk 2 [1,2] true,aI.mk 3 [0,1] false],5):=by
 unfold iR bq OA dR;simp only[H7]
 kernel_rfl
def exT:vK:=vK.mk [] [] [] [] [] [] [] 0 [iI.mk 1 0 [au.mk 0 0 20 20] []] [] [] [] []
def exD:dw:=dw.mk 1 [xH.mk [aB.mk 5 5 7 7 0 3 2 0 false] []]
def exN:List ByteArray:=[⟨#[97]⟩,⟨#[98]⟩]
theorem aex:aev exT exD exN=[2,5,0,1]:=by kernel_rfl
theorem agv {n:Nat} (hn:100<=n):aeu n exT exD:=by
 refine⟨fun l hl=>?_,by decide,⟨?_,by decide,fun t ht=>?_⟩,by decide,fun p hp=>?_⟩
 ·simp only[exT,mem_cons,List.not_mem_nil,or_false]at hl;subst hl;exact⟨by decide,by decide⟩
 ·show 0 < n;omega
 ·simp[exT]at ht
 ·simp only[exD,mem_cons,List.not_mem_nil,or_false]at hp;subst hp;decide
theorem aaP {n:Nat} (hn:2000000<=n):oG n exT [lineO,lineO] exD exN=some [0,2]:=by
 have hr:([lineO,lineO].all EU&&decide ([lineO,lineO].length<=12))=true:=by simp[abG]
 unfold oG;rw[aes (by omega) _ (by simp;omega) (by simp),hr,aaN (agv (by omega)) hn (by decide),aex];obtain⟨m,rfl⟩:∃ m,n=m+20:=⟨n - 20,by omega⟩;show _=_
 kernel_rfl
theorem abH {n:Nat} (hn:2000000<=n) (b:Bool) (rest:List ByteArray) (h:(b,rest)=(true,[⟨#[97]⟩])∨(b,rest)=(false,[⟨#[97]⟩,⟨#[98]⟩])):vX n (o8.mk [] [] [] [aY.mk ⟨#[97]⟩ [] [] 0 0 0 true 0 0 0 ⟨#[]⟩ ⟨#[]⟩ [] 0 0 0 0 0 0 0,aY.mk ⟨#[98]⟩ [] [] 0 0 0 false 0 0 0 ⟨#[]⟩ ⟨#[]⟩ [] 0 0 0 0 0 0 0] [] [] [] 0) rest=some b:=by
 obtain⟨m,rfl⟩:∃ m,n=m+20:=⟨n - 20,by omega⟩;rcases h with h |h<;>(injection h with h1 h2;subst h1;subst h2;show _=_;kernel_rfl)
theorem afs {n:Nat} (hn:2000000<=n):Hz n=some true:=by
 have c:∀ base:List aI,base.length<=3->(∀ k∈base,k.values.length<=2)->RY base:=fun base h1 h2=>⟨by omega,fun k hk=>by have:=h2 k hk;omega⟩;have v2:∀ a b:Int,sub ([a,b]:List Int) 0 2=[a,b]:=fun _ _=>rfl;have d1:=wQ (n:=n) (by omega) [lineO,lineO] (base:=[]) (c _ (by simp) (by simp)) 1 (values:=[1,1]) (by simp) true;have d2:=wQ (n:=n) (by omega) [lineO,lineO] (base:=[aI.mk 1 [1,1] true]) (c _ (by simp) (by simp)) 2 (values:=[1,2]) (by simp) false;have d3:=wQ (n:=n) (by omega) [lineO,lineO] (base:=[aI.mk 1 [1,1] true,aI.mk 2 [1,2] true]) (c _ (by simp) (by simp)) 3 (values:=[0,1]) (by simp) false;have d4:=wQ (n:=n) (by omega) [lineO,lineO] (base:=[aI.mk 1 [1,1] true,aI.mk 2 [1,2] true,aI.mk 3 [0,1] false]) (c _ (by simp) (by simp)) 3 (values:=[0,2]) (by simp) false;rw[ahb]at d1;rw[ahc]at d2;rw[ahd]at d3;rw[ahe]at d4;have e2:∀ (a b:aV),sub ([a,b]:List aV) 0 2=[a,b]:=fun _ _=>rfl;have hv:=aaP hn;unfold exT exD exN at hv;have m1:=abH hn true [⟨#[97]⟩] (Or.inl rfl);have m2:=abH hn false [⟨#[97]⟩,⟨#[98]⟩] (Or.inr rfl);unfold Hz;rw[afp];have b1:∀ a b:ByteArray,sub ([a,b]:List ByteArray) 0 2=[a,b]:=fun _ _=>rfl;have b0:∀ a:ByteArray,sub ([a]:List ByteArray) 0 1=[a]:=fun _=>rfl;have b2:∀ a:aB,sub ([a]:List aB) 0 1=[a]:=fun _=>rfl;have b3:∀ a:au,sub ([a]:List au) 0 1=[a]:=fun _=>rfl;have b4:∀ a:iI,sub ([a]:List iI) 0 1=[a]:=fun _=>rfl;have b5:∀ a:xH,sub ([a]:List xH) 0 1=[a]:=fun _=>rfl;have b6:∀ a b:aY,sub ([a,b]:List aY) 0 2=[a,b]:=fun _ _=>rfl;have q:DZ n [0,2] [0,2]=some true:=by
  obtain⟨m,rfl⟩:∃ m,n=m+20:=⟨n - 20,by omega⟩;show _=_
  kernel_rfl
 simp only[bind_some,e2,b0,b1,b2,b3,b4,b5,b6,v2,aA,length_cons,length_nil,Nat.zero_add,Nat.reduceAdd,cond_true,hv,d1,bH,d2,d3,d4,q,m1,m2];rfl
def MZ (f:Int) (g:Bool):Bool:=bif f==1 then true else bif f==2 then false else g
theorem aey (M:Mx) (base:List aI) (w:List Int) (g:Bool):(base.any fun d=>!(d.grant==g)&&mX M w d)=byG M base w (!g):=by
 unfold byG;congr 1;funext d;cases d.grant<;>cases g<;>cases mX M w d<;>rfl
inductive DecC (os:List aV) (base:List aI) (id:Int) (w:List Int) (g:Bool):Prop
 |arg (h1:(bq os base w).2.2=1) (h:iR os base id w g=(false,base,1))
 |clash (h1:(bq os base w).2.2=0) (h2:(bq os base w).1=3) (h:iR os base id w g=(false,base,25))
 |twice (h1:(bq os base w).2.2=0) (h2:(bq os base w).1=0∨(bq os base w).1=1∨(bq os base w).1=2) (h3:(base.any fun d=>d.id==id)=true) (h:iR os base id w g=(false,base,5))
 |fine (h1:(bq os base w).2.2=0) (h2:(bq os base w).1=0∨(bq os base w).1=1∨(bq os base w).1=2) (h3:(base.any fun d=>d.id==id)=false) (h:iR os base id w g=(MZ (bq os base w).1 g,base++[aI.mk id w (MZ (bq os base w).1 g)],0))
theorem qz (os:List aV) (base:List aI) (id:Int) (w:List Int) (g:Bool):DecC os base id w g:=by
 cases hc:(dR os base).2&&Cn (dR os base).1 w with
 |false=>
  have hF:bq os base w=(0,[],1):=by unfold bq;rw[hc];rfl
  refine .arg (by rw[hF]) ?_;unfold iR;rw[hF];rfl
 |true=>
  have hF:bq os base w=(Vh (dR os base).1 base w,Co (dR os base).1 base w,0):=by unfold bq;rw[hc];rfl
  have hA:∀ k,OA os base (aI.mk id w k)=aef (dR os base).1 base (aI.mk id w k):=fun k=>by
   unfold OA;show (bif (dR os base).2&&Cn (dR os base).1 w then _ else _)=_;rw[hc];rfl
  generalize dR os base=r at hF hA;have hB:∀ k,aef r.1 base (aI.mk id w k)=bif base.any (fun d=>d.id==id)then ([],5)else bif byG r.1 base w (!k)then ([],25)else (base++[aI.mk id w k],0):=fun k=>by
   unfold aef;rw[show (base.any fun d=>!(d.grant==(aI.mk id w k).grant)&&mX r.1 (aI.mk id w k).values d)=byG r.1 base w (!k)from aey r.1 base w k]
  have main:∀ f:Int,(bq os base w).1=f->(f=0∨f=1∨f=2)->byG r.1 base w (!(MZ f g))=false->DecC os base id w g:=by
   intro f hf h3 hk;have hD:iR os base id w g=bif base.any (fun d=>d.id==id)then (false,base,5)else (MZ f g,base++[aI.mk id w (MZ f g)],0):=by
    have e0:((bq os base w).2.2 != 0)=false:=(by rw[hF];rfl);have e3:((bq os base w).1==3)=false:=(by rw[hf,beq_eq_false_iff_ne];omega);have eg:(bif (bq os base w).1==1 then true else bif (bq os base w).1==2 then false else g)=MZ f g:=(by rw[hf];rfl);unfold iR;rw[e0,e3,eg,hA,hB,hk];cases base.any (fun d=>d.id==id)<;>rfl
   have h1:(bq os base w).2.2=0:=(by rw[hF]);cases h4:base.any (fun d=>d.id==id)with
   |true=>rw[h4]at hD;exact .twice h1 (hf ▸ h3) h4 hD
   |false=>rw[h4]at hD;exact .fine h1 (hf ▸ h3) h4 (by rw[hf];exact hD)
  have hw:(bq os base w).1=Vh r.1 base w:=by rw[hF]
  unfold Vh at hw;cases hT:byG r.1 base w true with
  |true=>
   cases hN:byG r.1 base w false with
   |true=>
    rw[hT,hN]at hw;refine .clash (by rw[hF]) hw ?_;have e0:((bq os base w).2.2 != 0)=false:=(by rw[hF];rfl);unfold iR;rw[e0,hw];rfl
   |false=>
    rw[hT,hN]at hw;exact main 1 hw (by omega) hN
  |false=>
   cases hN:byG r.1 base w false with
   |true=>
    rw[hT,hN]at hw;exact main 2 hw (by omega) hT
   |false=>
    rw[hT,hN]at hw;refine main 0 hw (by omega) ?_;cases g
    ·exact hT
    ·exact hN
def aez (os:List aV) (base:List aI):Bool:=!(os.any fun o=>decide (o.pairs.length>20))&&(!(base.any fun c=>decide (c.values.length>8))&&(decide (os.length<=5)&&decide (base.length<=14)))
theorem Y2 {n:Nat} {os:List aV} {base:List aI} (h1:os.length<=1000000000000000000) (h2:base.length<=1000000000000000000) (hn:os.length < n) (hn2:base.length < n):vY n os base=some (aez os base):=by
 have a1:=ML (l:=os) (step:=oH os) (fun o=>decide (o.pairs.length>20)) () false (fun i hi=>by
  have d:decide ((((os[i]).pairs.length:Nat):Int)>20)=decide ((os[i]).pairs.length>20):=by rw[decide_eq_decide];omega
  simp only[oH,jl hi,cond_true,cB hi,bind_some,d,Option.map_some,afe,ay (show i < 9223372036854775807 by omega)]) (by simp only[oH,gP,cond_false]) n hn
 have a2:=ML (l:=base) (step:=oI base) (fun o=>decide (o.values.length>8)) () false (fun i hi=>by
  have d:decide ((((base[i]).values.length:Nat):Int)>8)=decide ((base[i]).values.length>8):=by rw[decide_eq_decide];omega
  simp only[oI,jl hi,cond_true,cB hi,bind_some,d,Option.map_some,afe,ay (show i < 9223372036854775807 by omega)]) (by simp only[oI,gP,cond_false]) n hn2
 have d1:decide (((os.length:Nat):Int)<=5)=decide (os.length<=5):=by rw[decide_eq_decide];omega
 have d2:decide (((base.length:Nat):Int)<=14)=decide (base.length<=14):=by rw[decide_eq_decide];omega
 unfold vY aez;rw[a1,a2,d1,d2];cases os.any fun o=>decide (o.pairs.length>20)with
 |true=>rfl
 |false=>
  cases base.any fun o=>decide (o.values.length>8)with
  |true=>rfl
  |false=>cases decide (os.length<=5)<;>rfl
theorem acT {os:List aV} {base:List aI} (h:aez os base=true):RY base∧os.length<=5∧base.length<=14:=by
 simp only[aez,and_eq_true,Bool.not_eq_true',decide_eq_true_eq,List.any_eq_false]at h;obtain⟨h1,h2,h3,h4⟩:=h;refine⟨⟨by omega,fun c hc=>?_⟩,h3,h4⟩;have:=h2 c hc;omega
theorem GN {n:Nat} (os:List aV) (base:List aI) (a:adZ) (h1:os.length<=1000000000000000000) (h2:base.length<=1000000000000000000) (hn:2000000+os.length+base.length<=n):jK n os base a=some true:=by
 unfold jK;rw[afs (by omega),Y2 h1 h2 (by omega) (by omega)];simp only[bind_some];cases hf:aez os base with
 |false=>rfl
 |true=>
  obtain⟨hs,hl,hb⟩:=acT hf;by_cases h8:a.values.length>8
  ·have d:decide (((a.values.length:Nat):Int)>8)=true:=(by rw[decide_eq_true_eq];omega);rw[d];rfl
  ·have d:decide (((a.values.length:Nat):Int)>8)=false:=(by rw[decide_eq_false_iff_not];omega);rw[d,wQ (by omega) os hs a.id (by omega) true,wQ (by omega) os hs a.id (by omega) false,Vi (by omega) os base a.values (by omega) (by omega)];simp only[Bool.not_true,cond_false,bind_some];have n0:∀ z:Int,(z != z)=false:=fun z=>(by simp);have n1:∀ z:Int,(z==z)=true:=fun z=>(by simp);have w:i64.wrap ((base.length:Int)+1)=((base.length+1:Nat):Int):=ay (by omega);have ap:∀ k:Bool,(base++[aI.mk a.id a.values k]).length=base.length+1:=fun k=>(by simp);rcases qz os base a.id a.values true with ⟨p1,p⟩ |⟨p1,p2,p⟩ |⟨p1,p2,p3,p⟩ |⟨p1,p2,p3,p⟩
   ·rcases qz os base a.id a.values false with ⟨q1,q⟩ |⟨q1,q2,q⟩ |⟨q1,q2,q3,q⟩ |⟨q1,q2,q3,q⟩
    ·rw[p,q];simp only[p1,n0,n1,cond_false,bind_some,cond_true];rfl
    ·omega
    ·omega
    ·omega
   ·rcases qz os base a.id a.values false with ⟨q1,q⟩ |⟨q1,q2,q⟩ |⟨q1,q2,q3,q⟩ |⟨q1,q2,q3,q⟩
    ·omega
    ·rw[p,q];simp only[p1,p2,n0,n1,cond_false,bind_some];rfl
    ·omega
    ·omega
   ·rcases qz os base a.id a.values false with ⟨q1,q⟩ |⟨q1,q2,q⟩ |⟨q1,q2,q3,q⟩ |⟨q1,q2,q3,q⟩
    ·omega
    ·omega
    ·rw[p,q];simp only[p1,n0,n1,cond_false,bind_some];rcases p2 with p2 |p2 |p2<;>rw[p2]<;>rfl
    ·rw[p3]at q3;cases q3
   ·rcases qz os base a.id a.values false with ⟨q1,q⟩ |⟨q1,q2,q⟩ |⟨q1,q2,q3,q⟩ |⟨q1,q2,q3,q⟩
    ·omega
    ·omega
    ·rw[p3]at q3;cases q3
    ·rw[p,q];simp only[p1,n0,n1,cond_false,bind_some,ap,w];rcases p2 with p2 |p2 |p2<;>rw[p2]<;>rfl
theorem Ii (os:List aV) (base:List aI) (a:adZ) (h1:os.length<=1000000000000000000) (h2:base.length<=1000000000000000000):∃ k,jK k os base a=some true:=⟨2000000+os.length+base.length,GN os base a h1 h2 (Nat.le_refl _)⟩
theorem Y3 {X:SX} {n:Nat} {c:CT X.ι} {cs:List (CT X.ι)} {ss:List VS} (hs:yM (vsF n) (c::cs)=some ss) (q:HL X.toSE (c::cs)) (h:II ss (HL.tvs X.toSE (c::cs) q)):∃ s ss',vsF n c=some s∧yM (vsF n) cs=some ss'∧VK s (CT.tv X.toSE c q.1)∧II ss' (HL.tvs X.toSE cs q.2):=by
 simp only[yM]at hs;rw[ai]at hs;obtain⟨a,h1,hs⟩:=hs;rw[ai]at hs;obtain⟨b,h2,hs⟩:=hs;injection hs with hs;subst hs;exact⟨a,b,h1,h2,h.1,h.2⟩
theorem agx {row:List CS} {α:Type} {l:List α} {f:α->List Tree} (h:Fit (.sl row) (.sl (l.map f))):l.length<=maxLen∧l.length*Zt row<=reachBytes∧∀ x∈l,FitL row (f x):=by
 simp only[Fit]at h;obtain⟨rows,e,⟨h1,h2⟩,h3⟩:=h;injection e with e;subst e;rw[List.length_map]at h1 h2;exact⟨h1,h2,fun x hx=>h3 _ (mem_map.2 ⟨x,hx,rfl⟩)⟩
theorem aeA {X:SX} {n:Nat} {e:CT X.ι} {s:VS} {l:List (CT.T X.toSE e)} (hm:ae7 X.dec e=none) (hs:vsF (n+1) (.sl e)=some s) (h:VK s (CT.tv X.toSE (.sl e) l)):∃ r,csF n e=some r∧l.length*Zt r<=reachBytes:=by
 simp only[vsF,csF,hm]at hs;cases hc:csF n e with
 |none=>rw[hc]at hs;simp at hs
 |some r=>
  rw[hc]at hs;simp only[bind_some,Option.some.injEq]at hs;subst hs;obtain⟨y,e1,e2⟩:=h;rw[CT.tv]at e1;injection e1 with e1;subst e1;exact⟨r,rfl,(agx e2).2.1⟩
theorem aeB {X:SX} {n:Nat} {e:CT X.ι} {s:VS} {l:List (CT.T X.toSE e)} {b:Nat} (hm:ae7 X.dec e=none) (hb:(csF n e).map Zt=some b) (h0:0 < b) (hs:vsF (n+1) (.sl e)=some s) (h:VK s (CT.tv X.toSE (.sl e) l)):l.length<=1000000000000000000:=by
 obtain⟨r,h1,h2⟩:=aeA hm hs h;rw[h1,Option.map_some]at hb;injection hb with hb;rw[hb]at h2;have:reachBytes=140737488351232:=rfl;have h3:l.length*1<=l.length*b:=Nat.mul_le_mul (Nat.le_refl _) h0;omega
theorem Od {n:Nat} {ss:List VS} {q:HL xx.toSE [.sl (.st SI.Order),.sl (.st SI.Case),.st SI.Ask]} (hs:yM (vsF (X:=xx) (n+8)) [.sl (.st SI.Order),.sl (.st SI.Case),.st SI.Ask]=some ss) (hq:II ss (HL.tvs xx.toSE _ q)):List.length (α:=aV) q.1<=1000000000000000000∧List.length (α:=aI) q.2.1<=1000000000000000000:=by
 obtain⟨_,_,h1,a1,h2,b1⟩:=Y3 hs q hq;obtain⟨_,_,h3,_,h4,_⟩:=Y3 a1 q.2 b1;exact⟨aeB (X:=xx) (n:=n+7) (e:= .st SI.Order) (b:=32) (by kernel_rfl) (by kernel_rfl) (by omega) h1 h2,aeB (X:=xx) (n:=n+7) (e:= .st SI.Case) (b:=40) (by kernel_rfl) (by kernel_rfl) (by omega) h3 h4⟩
end Go.Proofs
