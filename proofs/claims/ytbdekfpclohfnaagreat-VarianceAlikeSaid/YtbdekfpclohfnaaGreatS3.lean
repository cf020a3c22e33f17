/-
  precedent.Add, variance.clone, variance.Decide.
-/
import Derived.Test.YtbdekfpclohfnaaGreatS2
open Go.IntKind (i64)
open Option (bind_some)
open List (mem_cons length_take mem_map all_eq_true length_append getElem_mem length_cons append_nil length_nil length_singleton any_eq_false)
open Bool (and_eq_true)
namespace Go.Proofs
open Go.Gb Go.RowKit
theorem NT {l:List aB} (h:l.length < 1099511627776):BA l=some l:=uL (b:=40) (by omega) (by simp only[maxLen];omega)
theorem u6 {n:Nat} {l:List aB} {φ:(aB×Unit)->Option Bool} (p:aB->Bool) (h:∀ x∈l,φ (x,())=some (p x)) (hl:l.length < 1099511627776) (hn:l.length < n):lI n l φ=some (Xu p l):=Ps p h hl hn
theorem Dc {n:Nat} {l:List aB} {φ:(aB×Unit)->Option Bool} (p:aB->Bool) (h:∀ x∈l,φ (x,())=some (p x)) (hl:l.length < 1099511627776) (hn:l.length < n):jy n l φ=some (l.any p):=by
 unfold jy;rw[u6 p h hl hn];simp only[bind_some,Xv]
def J7 (l:List aB):Prop:=l.length < 1000∧∀ c∈l,c.values.length < 1000
theorem Wn {c:aB} (h:c.values.length < 1000):kS c=some c:=by
 unfold kS;rw[vP (by omega)];simp only[bind_some,bA,aA,cond_true]
theorem adV {n:Nat} {l:List aB} (h:J7 l) (hn:1000<=n):jX n l=some l:=by
 unfold jX;obtain⟨h1,h2⟩:=h;rw[NT (by omega)];have key:=bS (step:=lH l) (fun i=>((i:Int),l)) (s:=((0:Int),l)) l.length l rfl (fun i hi=>by
  have e:decide ((i:Int) < (l.length:Int))=true:=by simpa using hi
  have hv:=h2 _ (getElem_mem hi);have hs:l.set (((0:Nat):Int)+(i:Int)).toNat (aB.mk l[i].id l[i].values l[i].grant)=l:=by
   have:(((0:Nat):Int)+(i:Int)).toNat=i:=(by omega);rw[this];exact List.set_getElem_self hi
  simp only[lH,e,cond_true,dL hi,gq hi,bind_some,vP (show l[i].values.length < 1099511627776 by omega),bA,aA,hs,ay (show i < 9223372036854775807 by omega)]) (by
  have e:decide ((l.length:Int) < (l.length:Int))=false:=by simp
  simp only[lH,e,cond_false]) n (by omega)
 simp only[bind_some,key,bA,aA,cond_true]
def afo (M:Mx) (base:List aB) (c:aB):List aB×Int:=
 bif base.any (fun d=>d.id==c.id)then ([],5)else bif base.any (fun d=>!(d.grant==c.grant)&&lQ M c.values d)then ([],25)else (base++[c],0)
noncomputable def PE (os:List aN) (base:List aB) (c:aB):List aB×Int:=
 bif (dJ os base).2&&lV (dJ os base).1 c.values then afo (dJ os base).1 base c else ([],1)
theorem ahB {n:Nat} (hn:1000<=n) (os:List aN) {base:List aB} (hb:J7 base) {c:aB} (hc:c.values.length < 1000):uq n os base c=some (PE os base c):=by
 obtain⟨hb1,hb2⟩:=hb;unfold uq PE;rw[L9 (by omega) os base (by omega) (by omega)];simp only[bind_some];rw[acO (by omega) _ rfl];simp only[bind_some];cases h:(dJ os base).2&&lV (dJ os base).1 c.values with
 |false=>rfl
 |true=>
  simp only[and_eq_true]at h;obtain⟨M,g1,g2,g3,g4⟩:=J6 h.1;rw[g1]at h ⊢;have hl:=HY g2;have hz:eqL 0 ([]:List aB).length=true:=rfl;simp only[Bool.not_true,cond_false,cond_true];rw[Dc (fun d=>d.id==c.id) (fun x _=>rfl) (by omega) (by omega)];have e1:decide ((base.length:Int)>=2000)=false:=by simp;omega
  simp only[bind_some,e1,cond_false,hz,cond_true];unfold afo;cases base.any (fun d=>d.id==c.id)with
  |true=>rfl
  |false=>
   simp only[cond_false];have key:=kT (l:=base) (step:=nG n base c (M,true)) (fun i=>((i:Int),base.take i)) (fun d=>!(d.grant==c.grant)&&lQ M c.values d) base (fun _=>(([]:List aB),(25:Int))) (fun i hi=>by
    have e:decide ((i:Int) < (base.length:Int))=true:=(by simpa using hi);have hs1:sub ([base[i]]:List aB) 0 1=[base[i]]:=rfl;have hlen:(base.take i).length=i:=(by simp;omega);have hap:bG i i 1 1 40=true:=bZ (by omega) (by simp only[maxLen];omega);simp only[nG,e,cond_true,bC hi,bind_some,bA,aA,ZL (XZ g2) (yP g3 _ (getElem_mem hi)) h.2 (n:=n) (by omega) (by omega),ZM,Wn (hb2 _ (getElem_mem hi)),hs1,length_singleton,hlen,hap,fe,ay (show i < 9223372036854775807 by omega)];rw[List.take_succ_eq_append_getElem hi];cases base[i].grant==c.grant with
    |true=>simp only[Bool.not_true,cond_false,bind_some,Bool.false_and]
    |false=>
     simp only[Bool.not_false,cond_true,bind_some,Bool.true_and];cases lQ M c.values base[i]<;>rfl) (by
    have e:decide ((base.length:Int) < (base.length:Int))=false:=(by simp);simp only[nG,e,cond_false,aA,cond_true,List.take_length]) n (by omega)
   simp only[List.take_zero]at key;rw[show ((0:Nat):Int)=0 from rfl]at key;rw[key,<- mR];have hs1:sub ([c]:List aB) 0 1=[c]:=rfl;have hap:bG base.length base.length 1 1 40=true:=bZ (by omega) (by simp only[maxLen];omega);cases lC (fun d=>!(d.grant==c.grant)&&lQ M c.values d) base with
   |some i=>rfl
   |none=>simp only[fV,Wn hc,bind_some,hs1,length_singleton,hap,cond_true,fe,bA,aA,Option.isSome_none,cond_false]
noncomputable def ja (os:List aN) (base:List aB) (id:Int) (values:List Int) (officer:Bool):Bool×List aB×Int:=
 bif (bg os base values).2.2 != 0 then (false,base,1)else bif (bg os base values).1==3 then (false,base,25)else
  bif (PE os base (aB.mk id values (bif (bg os base values).1==1 then true else bif (bg os base values).1==2 then false else officer))).2 != 0 then (false,base,(PE os base (aB.mk id values (bif (bg os base values).1==1 then true else bif (bg os base values).1==2 then false else officer))).2)
  else ((bif (bg os base values).1==1 then true else bif (bg os base values).1==2 then false else officer),(PE os base (aB.mk id values (bif (bg os base values).1==1 then true else bif (bg os base values).1==2 then false else officer))).1,0)
theorem Df {n:Nat} (hn:1000<=n) (os:List aN) {base:List aB} (hb:J7 base) (id:Int) {values:List Int} (hv:values.length < 1000) (officer:Bool):fI n os base id values officer=some (ja os base id values officer):=by
 have hg:∀ f:Int,((bif f==1 then some true else (bif f==2 then some false else some officer)):Option Bool)=some (bif f==1 then true else bif f==2 then false else officer):=fun f=>by cases f==1<;>cases f==2<;>rfl
 unfold fI ja;rw[adU (by omega) os base values (by have:=hb.1;omega) (by have:=hb.1;omega)];simp only[bind_some,adV hb hn,bA,aA,cond_true,hg,vP (show values.length < 1099511627776 by omega)];generalize (bif (bg os base values).1==1 then true else bif (bg os base values).1==2 then false else officer)=g;rw[ahB hn os hb (c:=aB.mk id values g) hv];simp only[bind_some];cases (bg os base values).2.2 != 0 with
 |true=>rfl
 |false=>
  cases (bg os base values).1==3 with
  |true=>rfl
  |false=>
   simp only[cond_false];cases (PE os base (aB.mk id values g)).2 != 0<;>rfl
def gX (v:aC):au:=au.mk v.box_base_x0 v.box_base_y0 v.box_base_x1 v.box_base_y1
def okV (v:aC):Bool:=OkR (gX v)&&(decide (0<=v.box_z0)&&(decide (v.box_z0 < v.box_z1)&&(decide (v.box_z1<=4096)&&((decide (v.use=0) || decide (v.units=0))&&(decide (0<=v.use)&&(decide (v.use < 6)&&(decide (0<=v.units)&&decide (v.units<=1048576))))))))
theorem yQ (v:aC):fE v=some (okV v):=by
 unfold fE okV;rw[kM];have e1:decide (v.box_z0 < 0)=!decide (0<=v.box_z0):=by rw[<- decide_not,decide_eq_decide];omega
 have e2:decide (v.box_z0>=v.box_z1)=!decide (v.box_z0 < v.box_z1):=by rw[<- decide_not,decide_eq_decide];omega
 have e3:decide (v.box_z1>4096)=!decide (v.box_z1<=4096):=by rw[<- decide_not,decide_eq_decide];omega
 have e4:(v.use != 0)=!decide (v.use=0):=by by_cases h:v.use=0<;>simp[h]
 have e5:(v.units != 0)=!decide (v.units=0):=by by_cases h:v.units=0<;>simp[h]
 rw[e1,e2,e3,e4,e5,show au.mk v.box_base_x0 v.box_base_y0 v.box_base_x1 v.box_base_y1=gX v from rfl];simp only[ge_iff_le];generalize OkR (gX v)=a1;generalize decide (0<=v.box_z0)=a2;generalize decide (v.box_z0 < v.box_z1)=a3;generalize decide (v.box_z1<=4096)=a4;generalize decide (v.use=0)=a5;generalize decide (v.units=0)=a6;generalize decide (0<=v.use)=a7;generalize decide (v.use < 6)=a8;generalize decide (0<=v.units)=a9;generalize decide (v.units<=1048576)=a10;cases a1<;>cases a2<;>cases a3<;>cases a4<;>cases a5<;>cases a6<;>cases a7<;>cases a8<;>cases a9<;>rfl
theorem ZO {v:aC} (h:okV v=true):OkR (gX v)=true:=by rw[okV,and_eq_true]at h;exact h.1
def Ma (d:dz):List aC:=d.phases.flatMap (·.volumes)
theorem ZP {l:List yB} (h:∀ p∈l,p.volumes.length<=1000):(l.flatMap (·.volumes)).length<=l.length*1000:=by
 induction l with
 |nil=>simp
 |cons p l ih=>
  have h1:=h p (by simp);have h2:=ih fun q hq=>h q (by simp[hq]);simp only[List.flatMap_cons,length_append,length_cons];omega
def ahC (d:dz):Prop:=d.phases.length<=1000∧∀ p∈d.phases,p.volumes.length<=1000
theorem abD {n:Nat} {d:dz} (h:ahC d) (hn:1001<=n):pq n d 0 (d.phases.length:Int)=some (Ma d):=by
 obtain⟨h1,h2⟩:=h;unfold pq;have key:=bS (step:=kI d 0 (d.phases.length:Int)) (fun i=>((i:Int),(d.phases.take i).flatMap (·.volumes))) (s:=((0:Int),([]:List aC))) d.phases.length (Ma d) rfl (fun i hi=>by
  have e2:decide ((i:Int)>=0)=true:=by simp
  have hl:=ZP (l:=d.phases.take i) fun p hp=>h2 p (List.mem_of_mem_take hp);rw[length_take]at hl;have hv:=h2 _ (getElem_mem hi);generalize hL:(d.phases.take i).flatMap (·.volumes)=L at hl;have hap:bG L.length L.length d.phases[i].volumes.length d.phases[i].volumes.length 72=true:=bZ (by omega) (by simp only[maxLen];omega);simp only[kI,dM hi,cond_true,bC hi,bind_some,e2,hap,fe,aA,ay (show i < 9223372036854775807 by omega)];rw[List.take_succ_eq_append_getElem hi,List.flatMap_append,hL];simp only[List.flatMap_cons,List.flatMap_nil,append_nil]) (by simp only[kI,dD,cond_false,aA,cond_true,List.take_length,Ma]) n (by omega)
 have hz:eqL 0 ([]:List aC).length=true:=rfl;simp only[hz,cond_true,key,bind_some,bA,aA]
def afp (v:aC):Int:=(jg v).getD 0
theorem Tp (v:aC):jg v=some (afp v):=by
 unfold afp jg;rw[yQ];cases v.extra<;>cases okV v<;>rfl
def X0 (v:aC):Int:=(kY v).getD 0
theorem ZQ (v:aC):kY v=some (X0 v):=by
 unfold X0 kY;rw[yQ,Tp];cases h:okV v with
 |false=>rfl
 |true=>
  have e:=NG (ZO h);unfold gX at e;simp only[bind_some,Bool.not_true,cond_false,e,Option.getD_some]
theorem ahD {n:Nat} (a0:List eT) (a1:List bn) (a2:List bW) (a3:List aZ) (a4:List eU) (a5:List bX) (a6:List aU) (a7:Int) (a8:List au) {a9:List aC} (hl:a9.length<=1000) (hn:1001<=n):∃ r,iY n a0 a1 a2 a3 a4 a5 a6 a7 a8 a9=some (r,a0,a1,a2,a3,a4,a5,a6,a7,a8,a9):=by
 have key:=sN (l:=a9) (step:=iw a9) (fun i (s:Int)=>(s,(i:Int))) (fun v s=>i64.wrap (s+X0 v)) (fun s=>s) (fun i hi s=>by simp only[iw,dM hi,cond_true,dL hi,gq hi,bind_some,ZQ,ay (show i < 9223372036854775807 by omega)]) (fun s=>by simp only[iw,dD,cond_false]) n (by omega) 0;rw[show ((0:Nat):Int)=0 from rfl]at key;unfold iY nZ;simp only[key,bind_some,aA,cond_true];exact⟨_,rfl⟩
theorem ahE {n:Nat} (a0:List eT) (a1:List bn) (a2:List bW) (a3:List aZ) (a4:List eU) (a5:List bX) (a6:List aU) (a7:Int) (a8:List au) {a9:List aC} (hl:a9.length<=1000) (hn:1001<=n):∃ r,iZ n a0 a1 a2 a3 a4 a5 a6 a7 a8 a9=some (r,a0,a1,a2,a3,a4,a5,a6,a7,a8,a9):=by
 have key:=sN (l:=a9) (step:=iB a9) (fun i (s:Int)=>(s,(i:Int))) (fun v s=>i64.wrap (s+v.units)) (fun s=>s) (fun i hi s=>by simp only[iB,dM hi,cond_true,dL hi,gq hi,bind_some,lq,ay (show i < 9223372036854775807 by omega)]) (fun s=>by simp only[iB,dD,cond_false]) n (by omega) 0;rw[show ((0:Nat):Int)=0 from rfl]at key;unfold iZ og;simp only[key,bind_some,aA,cond_true];exact⟨_,rfl⟩
theorem afq {n:Nat} (a0:List eT) (a1:List bn) (a2:List bW) (a3:List aZ) (a4:List eU) (a5:List bX) (a6:List aU) (a7:Int) (a8:List au) {a9:List aC} (hl:a9.length<=1000) (hn:1001<=n):∃ r,iy n a0 a1 a2 a3 a4 a5 a6 a7 a8 a9=some (r,a0,a1,a2,a3,a4,a5,a6,a7,a8,a9):=by
 have key:=sN (l:=a9) (step:=eG a9) (fun i (s:Int)=>(s,(i:Int))) (fun v s=>max s (afp v)) (fun s=>s) (fun i hi s=>by simp only[eG,dM hi,cond_true,dL hi,gq hi,bind_some,Tp,ay (show i < 9223372036854775807 by omega)]) (fun s=>by simp only[eG,dD,cond_false]) n (by omega) 0;rw[show ((0:Nat):Int)=0 from rfl]at key;unfold iy jK;simp only[key,bind_some,aA,cond_true];exact⟨_,rfl⟩
theorem afr {n:Nat} (a0:List eT) (a1:List bn) (a2:List bW) (a3:List aZ) (a4:List eU) (a5:List bX) (a6:List aU) (a7:Int) (a8:List au) {a9:List aC} (hl:a9.length<=1000) (hn:1001<=n):∃ r,iA n a0 a1 a2 a3 a4 a5 a6 a7 a8 a9=some (r,a0,a1,a2,a3,a4,a5,a6,a7,a8,a9):=by
 have key:=sN (l:=a9) (step:=eH a9) (fun i (s:Int)=>(s,(i:Int))) (fun v s=>max s v.box_z1) (fun s=>s) (fun i hi s=>by simp only[eH,dM hi,cond_true,dL hi,gq hi,bind_some,kK,ay (show i < 9223372036854775807 by omega)]) (fun s=>by simp only[eH,dD,cond_false]) n (by omega) 0;rw[show ((0:Nat):Int)=0 from rfl]at key;unfold iA jL;simp only[key,bind_some,aA,cond_true];exact⟨_,rfl⟩
theorem adW (e:bB) (a:Iy) {u:Int} (h0:0<=u) (h6:u < 6):∃ b,iT e a u=some b:=by
 obtain⟨k,rfl⟩:∃ k:Nat,u=(k:Int):=⟨u.toNat,by omega⟩;have hk:k < 6:=by omega
 unfold iT;rw[dL hk,bC (l:=[a.a0,a.a1,a.a2,a.a3,a.a4,a.a5]) hk];exact⟨_,rfl⟩
theorem EK {n:Nat} {l:List bB} {φ:(bB×Unit)->Option Bool} (p:bB->Bool) (h:∀ x∈l,φ (x,())=some (p x)) (hl:l.length<=9223372036854775807) (hn:l.length < n):pR n l φ=some (Xu p l):=Fs p h hl hn
theorem ahF {n:Nat} (p:p8) {u:Int} (h0:0<=u) (h6:u < 6) (ht:p.tables.length < n) (ht2:p.tables.length<=9223372036854775807) (hr:∀ t∈p.tables,t.rows.length < n∧t.rows.length<=9223372036854775807):∃ r,AP n p u=some r:=by
 have key:∃ o,iter (iU n p u) n (0:Int)=some o∧True:=by
  have step:∀ i (hi:i < p.tables.length),iU n p u (i:Int)=some (.inl ((i+1:Nat):Int))∨∃ z,iU n p u (i:Int)=some (.inr (.inr z)):=by
   intro i hi;obtain⟨r1,r2⟩:=hr _ (getElem_mem hi);simp only[iU,dM hi,cond_true,bC hi,bind_some,ay (show i < 9223372036854775807 by omega)];cases ByteArray.toList p.tables[i].name==ByteArray.toList ⟨#[116,114,97,102,102,105,99]⟩with
   |false=>exact Or.inl rfl
   |true=>
    right;simp only[Bool.not_true,cond_false];generalize Iy.mk _ _ _ _ _ _=A;have hx:=EK (n:=n) (l:=p.tables[i].rows) (φ:=fun y1=>iT y1.1 A u) (fun e=>(iT e A u).getD false) (fun e _=>by obtain⟨b,hb⟩:=adW e A h0 h6;simp[hb]) r2 r1;rw[hx];simp only[bind_some,Xv];cases hany:p.tables[i].rows.any fun e=>(iT e A u).getD false with
    |false=>exact⟨_,rfl⟩
    |true=>
     obtain⟨j,hj,h1,_⟩:=ae1 hany;rw[h1];simp only[cond_true,bC hj,bind_some];exact⟨_,rfl⟩
  have main:∀ k i m,i+k=p.tables.length->k < m->∃ o,iter (iU n p u) m (i:Int)=some o∧True:=by
   intro k
   induction k with
   |zero=>
    intro i m hi hm;obtain⟨q,rfl⟩:∃ q,m=q+1:=⟨m - 1,by omega⟩;have:i=p.tables.length:=(by omega);subst this;exact⟨.inl (),aV (by simp only[iU,dD,cond_false]),trivial⟩
   |succ k ih=>
    intro i m hi hm;obtain⟨q,rfl⟩:∃ q,m=q+1:=⟨m - 1,by omega⟩;rcases step i (by omega)with h |⟨z,h⟩
    ·rw[bP h];exact ih (i+1) q (by omega) (by omega)
    ·exact⟨_,aV h,trivial⟩
  exact main p.tables.length 0 n (by omega) ht
 obtain⟨o,h1,_⟩:=key;unfold AP;rw[h1];cases o with
 |inl w=>exact⟨_,rfl⟩
 |inr r=>exact⟨_,rfl⟩
theorem abE {n:Nat} (p:p8) {v:aC} (hv:okV v=true) (ht:p.tables.length < n) (ht2:p.tables.length<=9223372036854775807) (hr:∀ t∈p.tables,t.rows.length < n∧t.rows.length<=9223372036854775807):∃ r,kR n p v=some r:=by
 simp only[okV,and_eq_true,decide_eq_true_eq]at hv;obtain⟨r,h1⟩:=ahF (n:=n) p (u:=v.use) hv.2.2.2.2.2.1 hv.2.2.2.2.2.2.1 ht ht2 hr;unfold kR;rw[h1,ZQ];simp only[bind_some];have e100:((100:Int) != 0)=true:=rfl;by_cases h:r>0
 ·have e:(r != 0)=true:=by simp only[bne_iff_ne,ne_eq];omega
  have e2:decide (r>0)=true:=by simpa using h
  rw[e,e2];simp only[cond_true,bind_some,e100];cases decide (X0 v>i64.wrap (Int.tdiv 109951162777600 r))<;>exact⟨_,rfl⟩
 ·have e2:decide (r>0)=false:=by simpa using h
  rw[e2];exact⟨_,rfl⟩
theorem ahG {n:Nat} (a0:List eT) (a1:List bn) (a2:List bW) (a3:List aZ) (a4:List eU) (a5:List bX) (a6:List aU) (a7:Int) (a8:List au) {a9:List aC} (hl:a9.length<=1000) (hn:1001<=n) (hv:∀ v∈a9,okV v=true) (ht:a1.length < n) (ht2:a1.length<=9223372036854775807) (hr:∀ t∈a1,t.rows.length < n∧t.rows.length<=9223372036854775807):∃ r,gT n a0 a1 a2 a3 a4 a5 a6 a7 a8 a9=some (r,a0,a1,a2,a3,a4,a5,a6,a7,a8,a9):=by
 have key:=ku (l:=a9) (step:=iD n a9) (fun i (s:Int)=>(s,(i:Int),a0,a1,a2,a3,a4,a5,a6,a7,a8,a9)) (fun v s=>i64.wrap (s+(kR n (p8.mk a0 a1 a2 a3 a4 a5 a6 a7) v).getD 0)) (fun s=>(s,a0,a1,a2,a3,a4,a5,a6,a7,a8,a9)) (fun _ _=>True) (fun i hi s _=>⟨by
  obtain⟨r,h1⟩:=abE (n:=n) (p8.mk a0 a1 a2 a3 a4 a5 a6 a7) (hv _ (getElem_mem hi)) ht ht2 hr;simp only[iD,dM hi,cond_true,dL hi,gq hi,bind_some,iV,h1,aA,ay (show i < 9223372036854775807 by omega),Option.getD_some],trivial⟩) (fun s _=>by simp only[iD,dD,cond_false,aA,cond_true]) n (by omega) 0 trivial
 rw[show ((0:Nat):Int)=0 from rfl]at key;unfold gT oh;simp only[key,bind_some,aA,cond_true];exact⟨_,rfl⟩
theorem afs {α β:Type} (l:List α) (f:α->β) (z:β) {i:Nat} (hi:i < l.length):((l.take i).map f++List.replicate (l.length - i) z).set i (f l[i])=(l.take (i+1)).map f++List.replicate (l.length - (i+1)) z:=by
 have h1:((l.take i).map f).length=i:=by simp;omega
 rw[List.set_append_right _ _ (by omega),h1,Nat.sub_self,show l.length - i=(l.length - (i+1))+1 by omega,List.replicate_succ,List.set_cons_zero,List.take_succ_eq_append_getElem hi,List.map_append,List.append_assoc];rfl
theorem aft {α β:Type} (l:List α) (f:α->β) (z:β) {i:Nat} (hi:i<=l.length):((l.take i).map f++List.replicate (l.length - i) z).length=l.length:=by simp;omega
theorem afu {α β:Type} (l:List α) (f:α->β) (z:β) {i:Nat} (hi:i < l.length):((l.take (i+1)).map f++List.replicate (l.length - (i+1)) z)[i]? =some (f l[i]):=by rw[List.getElem?_append_left (by simp;omega)];simp[hi]
theorem afv {n:Nat} {l:List aC} (hl:l.length<=1000) (hn:1001<=n):iter (dX l) n ((0:Int),List.replicate l.length (au.mk 0 0 0 0),([]:List Int))=some (l.map gX,l.flatMap fun v=>[v.box_base_x0,v.box_base_x1]):=by
 refine bS (step:=dX l) (fun i=>((i:Int),(l.take i).map gX++List.replicate (l.length - i) (au.mk 0 0 0 0),(l.take i).flatMap fun v=>[v.box_base_x0,v.box_base_x1])) l.length _ ?_ (fun i hi=>?_) ?_ n (by omega)
 ·simp
 ·have h1:=aft l gX (au.mk 0 0 0 0) (Nat.le_of_lt hi);have h2:=afs l gX (au.mk 0 0 0 0) hi;have h3:=afu l gX (au.mk 0 0 0 0) hi;have h4:((l.take i).flatMap fun v=>[v.box_base_x0,v.box_base_x1]).length=2*i:=by
   have:∀ m:List aC,(m.flatMap fun v=>[v.box_base_x0,v.box_base_x1]).length=2*m.length:=by
    intro m;induction m with
    |nil=>rfl
    |cons a m ih=>simp only[List.flatMap_cons,length_append,ih,length_cons,length_nil];omega
   rw[this,length_take];omega
  generalize (l.take i).map gX++List.replicate (l.length - i) (au.mk 0 0 0 0)=B at h1 h2;have e0:(((0:Nat):Int)+(i:Int)).toNat=i:=by omega
  have et:(((l.length:Nat):Int):Int).toNat=l.length:=by omega
  have hb:au.mk l[i].box_base_x0 l[i].box_base_y0 l[i].box_base_x1 l[i].box_base_y1=gX l[i]:=rfl;have hiB:i < B.length:=by omega
  rw[<- h2]at h3;have g3:at? (B.set i (gX l[i])) (((0:Nat):Int)+(i:Int))=some (gX l[i]):=by rw[Ep];exact h3
  have hs:sub ([(gX l[i]).x0,(gX l[i]).x1]:List Int) 0 2=[(gX l[i]).x0,(gX l[i]).x1]:=rfl;have hap:bG (2*i) (2*i) 2 2 8=true:=bZ (by omega) (by simp only[maxLen];omega);have hl2:([(gX l[i]).x0,(gX l[i]).x1]:List Int).length=2:=rfl;simp only[dX,dM hi,cond_true,dL hi,gq hi,bind_some,et,gq hiB,e0,hb,g3,hs,hl2,h4,hap,fe,aA,ay (show i < 9223372036854775807 by omega)];rw[<- h2,List.take_succ_eq_append_getElem hi,List.flatMap_append];rfl
 ·simp only[dX,dD,cond_false,aA,cond_true,List.take_length];simp
theorem afw {n:Nat} {l:List aC} {R:List au} {X:List Int} (w2:List Int) (hR:R.length=l.length) (hX:X.length=w2.length) (hl:l.length<=1000) (hn:1001<=n) {k:Nat} (hk:k+1 < w2.length) (hw:w2.length<=10000) (s:Int):∃ o,iter (gD l w2 R X (k:Int)) n (s,(0:Int),(0:Int))=some o∧True:=by
 refine Te (fun i (v:Int×Int×Int)=>v.2.2=(i:Int)) l.length (fun _=>True) (fun i v hi hv=>?_) (fun v hv=>?_) n (by omega) _ rfl
 ·obtain⟨a,b,c⟩:=v;simp only at hv;subst hv;have et:((((l.length:Nat):Int):Int).toNat)=l.length:=by omega
  have ew:i64.wrap ((k:Int)+1)=((k+1:Nat):Int):=ay (by omega);simp only[gD,et,dM hi,cond_true,dL hi,gq (show i < R.length by omega),bind_some,dL (show k < w2.length by omega),gq (show k < X.length by omega),ew,dL hk,gq (show k+1 < X.length by omega),ay (show i < 9223372036854775807 by omega)];cases decide ((R[i]'(by omega)).x0<=X[k]'(by omega))with
  |false=>exact⟨_,rfl,rfl⟩
  |true=>
   simp only[cond_true,bind_some];cases decide (X[k]'(by omega) < (R[i]'(by omega)).x1)with
   |false=>exact⟨_,rfl,rfl⟩
   |true=>
    simp only[cond_true,bind_some];cases decide ((R[i]'(by omega)).y1>b)<;>exact⟨_,rfl,rfl⟩
 ·obtain⟨a,b,c⟩:=v;simp only at hv;subst hv;have et:((((l.length:Nat):Int):Int).toNat)=l.length:=by omega
  simp only[gD,et,dD,cond_false];exact⟨_,rfl,trivial⟩
theorem afx {n:Nat} (a0:List eT) (a1:List bn) (a2:List bW) (a3:List aZ) (a4:List eU) (a5:List bX) (a6:List aU) (a7:Int) (a8:List au) {a9:List aC} (hl:a9.length<=1000) (hn:10000<=n):∃ r,fP n a0 a1 a2 a3 a4 a5 a6 a7 a8 a9=some (r,a0,a1,a2,a3,a4,a5,a6,a7,a8,a9):=by
 have et:((((a9.length:Nat):Int):Int).toNat)=a9.length:=by omega
 have mk:JH ((a9.length:Nat):Int) 32=true:=ags (by omega) (by simp only[maxLen];omega);have d1:decide (((a9.length:Nat):Int)<=((a9.length:Nat):Int))=true:=by simp
 have d2:decide (0<=((a9.length:Nat):Int))=true:=by simp
 have hz:eqL 0 ([]:List Int).length=true:=rfl;have hx:(a9.flatMap fun v=>[v.box_base_x0,v.box_base_x1]).length<=2000:=by
  have:∀ m:List aC,(m.flatMap fun v=>[v.box_base_x0,v.box_base_x1]).length=2*m.length:=by
   intro m;induction m with
   |nil=>rfl
   |cons a m ih=>simp only[List.flatMap_cons,length_append,ih,length_cons,length_nil];omega
  rw[this];omega
 unfold fP;rw[et,afv hl (by omega)];generalize (a9.flatMap fun v=>[v.box_base_x0,v.box_base_x1])=W at hx;have srt:=I7 (n:=n) (l:=a9.map gX) (φ:=fun y1=>fO y1.1 y1.2.1) (fun x y=>if x.y0 < y.y0 then -1 else if y.y0 < x.y0 then 1 else 0) (fun x y=>by
  show fO x y=_;unfold fO;rw[yL];rfl) (fun x y=>by
  unfold ltY;rw[decide_eq_decide];constructor
  ·intro h;split at h
   ·assumption
   ·split at h<;>omega
  ·intro h;rw[if_pos h];decide) (by simp;omega) (by simp;omega)
 have hm:eqL a9.length (a9.map gX).length=true:=by simp
 have hR:(rY ltY (a9.map gX)).length=a9.length:=by rw[Eu acJ];simp
 have hX:(rX ltI W).length=W.length:=(J2 ltI W).length_eq;simp only[d1,d2,mk,Bool.and_self,cond_true,hz,bind_some,hm,srt,aA,yM (show W.length < 1099511627776 by omega) (show W.length < n by omega)];generalize rY ltY (a9.map gX)=R at hR;generalize rX ltI W=X at hX;have key:∃ o,iter (gF n a9 W R X) n ((0:Int),(0:Int))=some o∧True:=by
  have eN:max (0:Int) (i64.wrap (((W.length:Nat):Int) - 1))=((W.length - 1:Nat):Int):=by
   cases h:W.length with
   |zero=>rfl
   |succ k=>rw[mO (by omega) (by omega)];omega
  refine Te (fun i (v:Int×Int)=>v.2=(i:Int)) (W.length - 1) (fun _=>True) (fun i v hi hv=>?_) (fun v hv=>?_) n (by omega) _ rfl
  ·obtain⟨a,b⟩:=v;simp only at hv;subst hv;obtain⟨o,ho,_⟩:=afw (n:=n) (l:=a9) (R:=R) (X:=X) W hR hX hl (by omega) (k:=i) (by omega) (by omega) a;simp only[gF,eN,dM hi,cond_true,ho,bind_some,ay (show i < 9223372036854775807 by omega)];exact⟨_,rfl,rfl⟩
  ·obtain⟨a,b⟩:=v;simp only at hv;subst hv;simp only[gF,eN,dD,cond_false];exact⟨_,rfl,trivial⟩
 obtain⟨o,ho,_⟩:=key;rw[ho];exact⟨o,rfl⟩
def ZR (b:au) (k:Int):au:=⟨b.x0 - k,b.y0 - k,b.x1+k,b.y1+k⟩
def EL (area:List au) (b:au) (k:Int):Bool:=OkR (ZR b k)&&decide (area.foldl (fun s y=>ahv (ZR b k) s y) 0=afi (ZR b k))
theorem adX {n:Nat} (b:au) (k:Int) (a2:List eT) (a3:List bn) (a4:List bW) (a5:List aZ) (a6:List eU) (a7:List bX) (a8:List aU) (a9:Int) {a10:List au} (a11:List aC) (hb:OkR b=true) (h0:0<=k) (h1:k<=1048576) (hl:a10.length<=1000) (hn:1001<=n):
 iC n b k a2 a3 a4 a5 a6 a7 a8 a9 a10 a11=some (EL a10 b k,a2,a3,a4,a5,a6,a7,a8,a9,a10,a11):=by
 rw[agt]at hb;unfold iC Bw EL;rw[dH (x:=b.x0 - k) (by omega) (by omega),dH (x:=b.y0 - k) (by omega) (by omega),dH (x:=b.x1+k) (by omega) (by omega),dH (x:=b.y1+k) (by omega) (by omega),show au.mk (b.x0 - k) (b.y0 - k) (b.x1+k) (b.y1+k)=ZR b k from rfl,kM];generalize ZR b k=g;simp only[bind_some];cases hg:OkR g with
 |false=>simp only[Bool.not_false,cond_true,aA,Bool.false_and]
 |true=>
  have key:=sN (l:=a10) (step:=fM a10 (g,true)) (fun i (s:Int)=>(s,(i:Int))) (fun y s=>ahv g s y) (fun s=>s) (fun i hi s=>by
   simp only[fM,dM hi,cond_true,bC hi,bind_some,Tg,ay (show i < 9223372036854775807 by omega),ahv];cases h1:OkR g with
   |false=>rfl
   |true=>
    cases h2:OkR a10[i]with
    |false=>rfl
    |true=>
     cases h3:OkR (Tf g a10[i])with
     |false=>rfl
     |true=>simp only[Bool.and_self,cond_true,NG h3,bind_some]) (fun s=>by simp only[fM,dD,cond_false]) n (by omega) 0
  rw[show ((0:Nat):Int)=0 from rfl]at key;simp only[Bool.not_true,cond_false,key,bind_some,NG hg,aA,cond_true,Bool.true_and];congr 2
def NU (p:Int->Bool):Nat->Int->Int->Int
 | 0,lo,_=>lo
 |k+1,lo,hi=>bif decide (lo < hi)then (bif p ((lo+hi+1)/2)then NU p k ((lo+hi+1)/2) hi else NU p k lo ((lo+hi+1)/2 - 1))else lo
theorem X3 (p:Int->Bool):∀ k lo hi,lo<=hi->lo<=NU p k lo hi∧NU p k lo hi<=hi
 | 0,lo,hi,h=>by simp only[NU];omega
 |k+1,lo,hi,h=>by
  simp only[NU];by_cases h1:lo < hi
  ·have e:decide (lo < hi)=true:=(by simpa using h1);rw[e,cond_true];cases p ((lo+hi+1)/2)with
   |true=>have:=X3 p k ((lo+hi+1)/2) hi (by omega);simp only[cond_true];omega
   |false=>have:=X3 p k lo ((lo+hi+1)/2 - 1) (by omega);simp only[cond_false];omega
  ·have e:decide (lo < hi)=false:=(by simpa using h1);rw[e,cond_false];omega
theorem abF {n:Nat} {v:aC} (hv:OkR (gX v)=true) (a2:List eT) (a3:List bn) (a4:List bW) (a5:List aZ) (a6:List eU) (a7:List bX) (a8:List aU) (a9:Int) {a10:List au} (a11:List aC) (hl:a10.length<=1000) (hn:1001<=n):
 ∀ (k:Nat) lo hi m,0<=lo->lo<=hi->hi<=1048576->hi - lo < 2 ^ k->k < m->iter (dn n v) m (lo,hi,a2,a3,a4,a5,a6,a7,a8,a9,a10,a11)=some (NU (EL a10 (gX v)) k lo hi,a2,a3,a4,a5,a6,a7,a8,a9,a10,a11):=by
 intro k
 induction k with
 |zero=>
  intro lo hi m h0 h1 h2 h3 hm;obtain⟨q,rfl⟩:∃ q,m=q+1:=⟨m - 1,by omega⟩;have:lo=hi:=by simp at h3;omega
  subst this;refine aV ?_;have e:decide (lo < lo)=false:=by simp
  simp only[dn,e,cond_false,aA,cond_true,NU]
 |succ k ih=>
  intro lo hi m h0 h1 h2 h3 hm;obtain⟨q,rfl⟩:∃ q,m=q+1:=⟨m - 1,by omega⟩;have hp:(2:Int) ^ (k+1)=2*2 ^ k:=by rw[Int.pow_succ];omega
  rw[hp]at h3;by_cases hlt:lo < hi
  ·have e:decide (lo < hi)=true:=(by simpa using hlt);have e2:((2:Nat) != 0)=true:=rfl;have em:i64.wrap (Int.tdiv (i64.wrap (i64.wrap (lo+hi)+1)) 2)=(lo+hi+1)/2:=(by rw[dH (x:=lo+hi) (by omega) (by omega),dH (x:=lo+hi+1) (by omega) (by omega),Int.tdiv_eq_ediv_of_nonneg (by omega),dH (by omega) (by omega)]);have hi2:=adX (n:=n) (gX v) ((lo+hi+1)/2) a2 a3 a4 a5 a6 a7 a8 a9 (a10:=a10) a11 hv (by omega) (by omega) hl hn;unfold gX at hi2;cases hc:EL a10 (gX v) ((lo+hi+1)/2)with
   |true=>
    rw[bP (v':=((lo+hi+1)/2,hi,a2,a3,a4,a5,a6,a7,a8,a9,a10,a11)) (by
     unfold gX at hc;simp only[dn,e,cond_true,e2,aA,em,hi2,bind_some,hc]),ih _ _ _ (by omega) (by omega) (by omega) (by omega) (by omega)]
    simp only[NU,e,cond_true,hc]
   |false=>
    rw[bP (v':=(lo,(lo+hi+1)/2 - 1,a2,a3,a4,a5,a6,a7,a8,a9,a10,a11)) (by
     unfold gX at hc;simp only[dn,e,cond_true,e2,aA,em,hi2,bind_some,hc,cond_false,dH (x:=(lo+hi+1)/2 - 1) (by omega) (by omega)]),ih _ _ _ (by omega) (by omega) (by omega) (by omega) (by omega)]
    simp only[NU,e,cond_true,hc,cond_false]
  ·have e:decide (lo < hi)=false:=(by simpa using hlt);refine aV ?_;simp only[dn,e,cond_false,aA,cond_true,NU]
def yR (area:List au) (l:List aC):Int:=l.foldl (fun b v=>NU (EL area (gX v)) 21 0 b) 1048576
theorem abG {n:Nat} (a0:List eT) (a1:List bn) (a2:List bW) (a3:List aZ) (a4:List eU) (a5:List bX) (a6:List aU) (a7:Int) {a8:List au} {a9:List aC} (hv:∀ v∈a9,okV v=true) (hl:a9.length<=1000) (h8:a8.length<=1000) (hn:1001<=n):gQ n a0 a1 a2 a3 a4 a5 a6 a7 a8 a9=some (yR a8 a9,a0,a1,a2,a3,a4,a5,a6,a7,a8,a9):=by
 have key:=ku (l:=a9) (step:=fw n a9) (fun i (s:Int)=>(s,(i:Int),a0,a1,a2,a3,a4,a5,a6,a7,a8,a9)) (fun v s=>NU (EL a8 (gX v)) 21 0 s) (fun s=>(s,a0,a1,a2,a3,a4,a5,a6,a7,a8,a9)) (fun _ s=>0<=s∧s<=1048576) (fun i hi s hs=>by
  have h1:=abF (n:=n) (ZO (hv _ (getElem_mem hi))) a0 a1 a2 a3 a4 a5 a6 a7 (a10:=a8) a9 h8 hn 21 0 s n (by omega) hs.1 hs.2 (by have:(2:Int) ^ 21=2097152:=rfl;omega) (by omega);have h2:=X3 (EL a8 (gX a9[i])) 21 0 s hs.1;refine⟨?_,by omega,by omega⟩;simp only[fw,dM hi,cond_true,dL hi,gq hi,bind_some,aA,h1,ay (show i < 9223372036854775807 by omega)]) (fun s _=>by simp only[fw,dD,cond_false,aA,cond_true]) n (by omega) 1048576 (by omega)
 rw[show ((0:Nat):Int)=0 from rfl]at key;unfold gQ;simp only[aA,cond_true,key,bind_some];rfl
def dV (d:dz):List aC:=((Ma d).take 40).filter okV
theorem X4 (d:dz):∀ v∈dV d,okV v=true:=fun v hv=>(List.mem_filter.1 hv).2
theorem UJ (d:dz):(dV d).length<=40:=Nat.le_trans (List.length_filter_le _ _) (by rw[length_take];omega)
def lS (lot:iQ):List au:=bif rightL lot.area then lot.area else []
theorem aid {n:Nat} {l:List aC} (a0:List eT) (a1:List bn) (a2:List bW) (a3:List aZ) (a4:List eU) (a5:List bX) (a6:List aU) (a7:Int) (a8:List au) (hl:l.length<=9223372036854775807) (hn:l.length < n):
 iter (oM l) n ((0:Int),a0,a1,a2,a3,a4,a5,a6,a7,a8,([]:List aC))=some (a0,a1,a2,a3,a4,a5,a6,a7,a8,(l.take 40).filter okV):=by
 refine bS (step:=oM l) (fun i=>((i:Int),a0,a1,a2,a3,a4,a5,a6,a7,a8,((l.take i).take 40).filter okV)) l.length _ (by simp) (fun i hi=>?_) ?_ n hn
 ·have hlen:(((l.take i).take 40).filter okV).length<=40:=Nat.le_trans (List.length_filter_le _ _) (by rw[length_take];omega);have e40:decide ((i:Int) < 40)=decide (i < 40):=by rw[decide_eq_decide];omega
  have hs:sub ([l[i]]:List aC) 0 1=[l[i]]:=rfl;have hN:((l.take (i+1)).take 40).filter okV=((l.take i).take 40).filter okV++(bif decide (i < 40)&&okV l[i]then [l[i]]else []):=by
   by_cases h:i < 40
   ·have h1:(l.take i).take 40=l.take i:=List.take_of_length_le (by rw[length_take];omega);have h2:(l.take (i+1)).take 40=l.take (i+1):=List.take_of_length_le (by rw[length_take];omega);have h3:decide (i < 40)=true:=(by simpa using h);rw[h1,h2,List.take_succ_eq_append_getElem hi,List.filter_append,h3];cases h4:okV l[i]<;>simp[h4]
   ·have h3:decide (i < 40)=false:=(by simpa using h);rw[List.take_take,List.take_take,h3,show min 40 (i+1)=40 by omega,show min 40 i=40 by omega];simp
  rw[hN];generalize ((l.take i).take 40).filter okV=L at hlen;have hap:bG L.length L.length 1 1 72=true:=bZ (by omega) (by simp only[maxLen];omega);simp only[oM,dM hi,cond_true,dL hi,gq hi,bind_some,e40,yQ,ay (show i < 9223372036854775807 by omega)];cases decide (i < 40)with
  |false=>simp only[cond_false,bind_some,aA,cond_true,Bool.false_and,append_nil]
  |true=>
   simp only[cond_true,bind_some,Bool.true_and];cases okV l[i]with
   |false=>simp only[cond_false,aA,cond_true,bind_some,append_nil]
   |true=>simp only[cond_true,hs,length_singleton,hap,fe,aA,bind_some]
 ·simp only[oM,dD,cond_false,aA,cond_true,List.take_length]
def afy (n:Nat) (p:p8):Prop:=p.tables.length < n∧p.tables.length<=9223372036854775807∧∀ t∈p.tables,t.rows.length < n∧t.rows.length<=9223372036854775807
def adY:ByteArray:=⟨#[115,101,116,98,97,99,107]⟩
theorem aie {n:Nat} {p:p8} {lot:iQ} {d:dz} (hp:afy n p) (hl:lot.area.length<=900) (hd:ahC d) (hn:2000000<=n):∃ e1 e2 e3 e4 e5 e6 e7 e8:Int,EC n p lot d=some [⟨⟨#[97,114,101,97]⟩,e1⟩,⟨⟨#[99,111,118,101,114]⟩,e2⟩,⟨⟨#[102,108,111,111,114]⟩,e3⟩,⟨⟨#[102,108,111,111,114,115]⟩,e4⟩,⟨⟨#[104,101,105,103,104,116]⟩,e5⟩,⟨⟨#[104,111,109,101,115]⟩,e6⟩,⟨⟨#[114,117,110,111,102,102]⟩,e7⟩,⟨adY,yR (lS lot) (dV d)⟩,⟨⟨#[116,114,97,102,102,105,99]⟩,e8⟩]:=by
 have hs1:lS lot=(bif rightL lot.area then lot.area else []):=rfl;have hsl:(lS lot).length<=900:=by unfold lS;cases rightL lot.area<;>simp[hl]
 have hvl:=UJ d;have hvo:=X4 d;have hfl:=ZP hd.2;have hd1:=hd.1;obtain⟨hp1,hp2,hp3⟩:=hp;have hz:eqL 0 ([]:List aC).length=true:=rfl;have hsite:((bif rightL lot.area then some (p.defs,p.tables,p.zones,p.rules,p.caps,p.views,p.sun,p.hours,lot.area)else some (p.defs,p.tables,p.zones,p.rules,p.caps,p.views,p.sun,p.hours,([]:(List au)))):Option ((List eT)×(List bn)×(List bW)×(List aZ)×(List eU)×(List bX)×(List aU)×Int×(List au)))=some (p.defs,p.tables,p.zones,p.rules,p.caps,p.views,p.sun,p.hours,lS lot):=by rw[hs1];cases rightL lot.area<;>rfl
 obtain⟨e2,h2⟩:=afx (n:=n) p.defs p.tables p.zones p.rules p.caps p.views p.sun p.hours (lS lot) (a9:=dV d) (by omega) (by omega);obtain⟨e3,h3⟩:=ahD (n:=n) p.defs p.tables p.zones p.rules p.caps p.views p.sun p.hours (lS lot) (a9:=dV d) (by omega) (by omega);obtain⟨e4,h4⟩:=afq (n:=n) p.defs p.tables p.zones p.rules p.caps p.views p.sun p.hours (lS lot) (a9:=dV d) (by omega) (by omega);obtain⟨e5,h5⟩:=afr (n:=n) p.defs p.tables p.zones p.rules p.caps p.views p.sun p.hours (lS lot) (a9:=dV d) (by omega) (by omega);obtain⟨e6,h6⟩:=ahE (n:=n) p.defs p.tables p.zones p.rules p.caps p.views p.sun p.hours (lS lot) (a9:=dV d) (by omega) (by omega);have h8:=abG (n:=n) p.defs p.tables p.zones p.rules p.caps p.views p.sun p.hours (a8:=lS lot) (a9:=dV d) hvo (by omega) (by omega) (by omega);obtain⟨e9,h9⟩:=ahG (n:=n) p.defs p.tables p.zones p.rules p.caps p.views p.sun p.hours (lS lot) (a9:=dV d) (by omega) (by omega) hvo hp1 hp2 hp3;refine⟨bif rightL (lS lot)then LX (lS lot)else 0,e2,e3,e4,e5,e6,e2,e9,?_⟩;unfold EC;rw[AZ (by omega) (by omega) (by omega),abD hd (by omega)];simp only[bind_some,hsite,hz,cond_true];rw[aid (n:=n) p.defs p.tables p.zones p.rules p.caps p.views p.sun p.hours (lS lot) (by show (Ma d).length<=_;unfold Ma;omega) (by show (Ma d).length < _;unfold Ma;omega)];have hr:((Ma d).take 40).filter okV=dV d:=rfl;have s1:∀ e:bB,sub ([e]:List bB) 0 1=[e]:=fun _=>rfl;have ap:∀ k,k<=20->bG k k 1 1 24=true:=fun k hk=>bZ (by omega) (by simp only[maxLen];omega);have lot:jP n p.defs p.tables p.zones p.rules p.caps p.views p.sun p.hours (lS lot) (dV d)=some (bif rightL (lS lot)then LX (lS lot)else 0,p.defs,p.tables,p.zones,p.rules,p.caps,p.views,p.sun,p.hours,lS lot,dV d):=by
  unfold jP;rw[abk (by omega) (by omega)];simp only[bind_some,aA,cond_true]
 simp only[hr,bind_some,aA,cond_true,lot,s1,length_singleton,ap 0 (by omega),fe,h2,ap 1 (by omega),length_append,ap 2 (by omega),h3,ap 3 (by omega),h4,ap 4 (by omega),h5,ap 5 (by omega),h6,ap 6 (by omega),h8,ap 7 (by omega),h9,ap 8 (by omega),Nat.reduceAdd,Nat.zero_add,bA];rfl
theorem Wo:∀ x:List UInt8,Op.bytesLess x x=false
 |[]=>rfl
 |a::x=>by rw[Op.bytesLess,Wo x];simp
theorem Tq:∀ x y z:List UInt8,Op.bytesLess x y=true->Op.bytesLess y z=true->Op.bytesLess x z=true
 |_,_,[],_,h=>by cases h':(‹List UInt8›)<;>simp_all [Op.bytesLess]
 |_,[],_::_,h,_=>by simp[Op.bytesLess]at h
 |[],_::_,_::_,_,_=>rfl
 |a::x,b::y,c::z,h1,h2=>by
  simp only[Op.bytesLess,Bool.or_eq_true,decide_eq_true_eq,and_eq_true,beq_iff_eq]at h1 h2 ⊢;rcases h1 with h1 |⟨rfl,h1⟩
  ·rcases h2 with h2 |⟨rfl,_⟩
   ·exact Or.inl (UInt8.lt_trans h1 h2)
   ·exact Or.inl h1
  ·rcases h2 with h2 |⟨rfl,h2⟩
   ·exact Or.inl h2
   ·exact Or.inr ⟨rfl,Tq x y z h1 h2⟩
theorem abH:∀ x y:List UInt8,Op.bytesLess x y=false->Op.bytesLess y x=false->x=y
 |[],[],_,_=>rfl
 |[],_::_,h,_=>by simp[Op.bytesLess]at h
 |_::_,[],_,h=>by simp[Op.bytesLess]at h
 |a::x,b::y,h1,h2=>by
  simp only[Op.bytesLess,Bool.or_eq_false_iff,decide_eq_false_iff_not,Bool.and_eq_false_iff,beq_eq_false_iff_ne]at h1 h2;have:a=b:=UInt8.le_antisymm (UInt8.not_lt.1 h2.1) (UInt8.not_lt.1 h1.1);subst this;rw[abH x y (h1.2.resolve_left (by simp)) (h2.2.resolve_left (by simp))]
theorem Dg:Go.Sort.SWO Au where
 irrefl x:=Wo _
 trans x y z h1 h2:=Tq _ _ _ h1 h2
 ntrans x y z h1 h2:=by
  unfold Au at*;cases h:Op.bytesLess x.toList z.toList with
  |false=>rfl
  |true=>
   cases h3:Op.bytesLess z.toList y.toList with
   |true=>rw[Tq _ _ _ h h3]at h1;cases h1
   |false=>rw[abH _ _ h2 h3,h]at h1;cases h1
theorem J8 (a b:ByteArray):cmp_Less_string a b=some (Au a b):=by
 have h:(a.toList==a.toList)=true:=by simp
 unfold cmp_Less_string cmp_isNaN_string;rw[h];rfl
theorem Pg (n:Nat):∀ m,dN n m=dS cmp_Less_string (fun r=>r) aK aL n m
 | 0=>rfl
 |m+1=>by
  show iR n (dN n m)=gm cmp_Less_string (fun r=>r) aK aL n (dS cmp_Less_string (fun r=>r) aK aL n m);rw[Pg n m];generalize dS cmp_Less_string (fun r=>r) aK aL n m=rc
  kernel_rfl
theorem Mc {n:Nat} {l:List ByteArray} (hl:l.length < 1099511627776) (hn:l.length < n):qG n l=some (rY Au l):=by
 unfold qG jI;rw[kV (by omega),uY (by omega),Pg];simp only[bind_some,aA,cond_true];rw[qC (lt:=Au) Dg (f:=Au) (q:=fun r=>r) J8 (fun _ _=>rfl) acG acH (by omega) hn hn];rfl
def neS (x y:ByteArray):Bool:=!(x.toList==y.toList)
theorem HZ {n:Nat} {l:List ByteArray} (hl:l.length < 1099511627776) (hn:l.length < n):lD n l=some ((),Li neS l):=by
 have e:lD n l=Nq (fun x y=>x.toList==y.toList) (fun x y=>!(x.toList==y.toList)) n l:=by kernel_rfl
 rw[e];exact Jz (ne:=neS) (fun x y=>by simp[neS]) hl hn
def X5:List (List UInt8)->Nat
 |[]=>0
 |x::l=>X5 l+(if x∈l then 0 else 1)
theorem Tt:∀ l:List (List UInt8),∃ k:List (List UInt8),k.Nodup∧k.length=X5 l∧∀ z,z∈k↔z∈l
 |[]=>⟨[],List.nodup_nil,rfl,fun _=>Iff.rfl⟩
 |x::l=>by
  obtain⟨k,h1,h2,h3⟩:=Tt l;by_cases h:x∈l
  ·exact⟨k,h1,by simp only[X5,if_pos h];omega,fun z=>by rw[h3,mem_cons];constructor;exact Or.inr;rintro (rfl |h');exact h;exact h'⟩
  ·exact⟨x::k,List.nodup_cons.2 ⟨fun h'=>h ((h3 x).1 h'),h1⟩,by simp only[X5,if_neg h,length_cons];omega,fun z=>by rw[mem_cons,mem_cons,h3]⟩
theorem BB {α:Type} [DecidableEq α]:∀ (l m:List α),l.Nodup->(∀ x∈l,x∈m)->l.length<=m.length
 |[],_,_,_=>Nat.zero_le _
 |x::l,m,h,hm=>by
  rw[List.nodup_cons]at h;have hx:=hm x (by simp);have h1:=BB l (m.erase x) h.2 (fun y hy=>(List.mem_erase_of_ne (by rintro rfl;exact h.1 hy)).2 (hm y (by simp[hy])));have h2:=List.length_erase_of_mem hx;have h3:=List.length_pos_of_mem hx;simp only[length_cons];omega
theorem abI {l m:List (List UInt8)} (h:∀ z,z∈l↔z∈m):X5 l=X5 m:=by
 obtain⟨k,a1,a2,a3⟩:=Tt l;obtain⟨j,b1,b2,b3⟩:=Tt m;have h1:=BB k j a1 fun x hx=>(b3 x).2 ((h x).1 ((a3 x).1 hx));have h2:=BB j k b1 fun x hx=>(a3 x).2 ((h x).2 ((b3 x).1 hx));omega
theorem afz (x y:ByteArray) (l:List ByteArray):(Li neS (x::y::l)).length=(Li neS (y::l)).length+(if x.toList=y.toList then 0 else 1):=by
 simp only[Li,List.foldl_cons,length_cons,qh];by_cases h:x.toList=y.toList
 ·have:neS y x=false:=by simp[neS,h]
  rw[this,if_pos h];rfl
 ·have:neS y x=true:=by simp only[neS,Bool.not_eq_true',beq_eq_false_iff_ne];exact fun h'=>h h'.symm
  rw[this,if_neg h,Lj];simp only[cond_true,List.nil_append,length_append,length_singleton];omega
theorem ZT:∀ l:List ByteArray,l.Pairwise (fun x y=>Au y x=false)->(Li neS l).length=X5 (l.map ByteArray.toList)
 |[],_=>rfl
 |[x],_=>rfl
 |x::y::l,h=>by
  rw[List.pairwise_cons]at h;rw[afz,ZT (y::l) h.2];show _=X5 ((y::l).map ByteArray.toList)+_;congr 1;by_cases e:x.toList=y.toList
  ·rw[if_pos e,if_pos (by rw[e];simp)]
  ·rw[if_neg e,if_neg];rw[mem_map];rintro⟨z,hz,hzx⟩;rcases mem_cons.1 hz with rfl |hz'
   ·exact e hzx.symm
   ·have h1:=(List.pairwise_cons.1 h.2).1 z hz';have h2:=h.1 y (by simp);unfold Au at h1 h2;rw[hzx]at h1;exact e (abH _ _ h1 h2)
def IL (names:List ByteArray):Nat:=X5 (names.map ByteArray.toList)
theorem abJ (names:List ByteArray):(Li neS (rY Au names)).length=IL names:=by
 rw[ZT _ (Et Dg names)];refine abI fun z=>?_;rw[mem_map,mem_map];constructor
 ·rintro⟨a,h1,h2⟩;exact⟨a,(yA Dg names).mem_iff.1 h1,h2⟩
 ·rintro⟨a,h1,h2⟩;exact⟨a,(yA Dg names).mem_iff.2 h1,h2⟩
theorem Tv {n:Nat} (hn:400<=n) (os:List aN) (hl:os.length < n) (hl2:os.length < 9223372036854775807):mX n os=some (os.all vQ&&decide (os.length<=12)):=by
 unfold mX;have h:=IJ (l:=os) (step:=o9 n os) (fun o=>!vQ o) () false (fun i hi=>by
  have hc:(eqL zeroM.l.length 144&&fK 0 zeroM.l.length (List.replicate 144 false).length)=true:=by rw[lN];exact iW (fun _ _=>false) (fun _ _=>false)
  have hg:(eqL (eD (geO os[i])).l.length 144&&fK 0 (eD (geO os[i])).l.length (List.replicate 144 false).length)=true:=by rw[lN];exact iW _ (fun _ _=>false)
  simp only[o9,dM hi,cond_true,bC hi,bind_some,sV (n:=n) hn,ay (show i < 9223372036854775807 by omega)];unfold vQ;cases mF os[i]&&!(Tj os[i])with
  |true=>simp only[cond_true,hg,Bool.not_true,cond_false]
  |false=>simp only[cond_false,hc,cond_true,Bool.not_false,Option.map_some]) (by simp only[o9,dD,cond_false]) n hl
 rw[h];have e:(os.any fun o=>!vQ o)=!(os.all vQ):=by rw[List.all_eq_not_any_not,Bool.not_not]
 have d:decide (((os.length:Nat):Int)<=12)=decide (os.length<=12):=by rw[decide_eq_decide];omega
 rw[e,d];cases os.all vQ<;>rfl
structure afA (n:Nat) (t:wF) (d:dz):Prop where
 lots:∀ l∈t.land,abo l
 land:t.land.length<=100
 tabs:afy n (p8.mk t.plan_defs t.plan_tables t.plan_zones t.plan_rules t.plan_caps t.plan_views t.plan_sun t.plan_hours)
 few:ahC d
def Tw (t:wF) (d:dz):iQ:=(dF t.land d.lot).1
def afB (t:wF) (d:dz) (names:List ByteArray):List Int:=[((IL names:Nat):Int),yR (lS (Tw t d)) (dV d),(((Zv t.land d.lot 10).length:Nat):Int),(((Tw t d).area.length:Nat):Int)]
theorem abK {n:Nat} {t:wF} {d:dz} (h:afA n t d) (hn:2000000<=n):ni n t (Tw t d) d=some (yR (lS (Tw t d)) (dV d)):=by
 have hw:=adR h.lots d.lot;obtain⟨e1,e2,e3,e4,e5,e6,e7,e8,he⟩:=aie (n:=n) h.tabs (lot:=Tw t d) hw.1 h.few hn;unfold ni;rw[he];simp only[bind_some];obtain⟨m,rfl⟩:∃ m,n=m+20:=⟨n - 20,by omega⟩;generalize yR (lS (Tw t d)) (dV d)=S;show _=_
 kernel_rfl
theorem UK {n:Nat} {names:List ByteArray} (hn:200000<=n) (hl:names.length<=100000):jO n names=some ((IL names:Nat):Int):=by
 unfold jO nX nY mh;have hs:adz names=some (names,names):=by unfold adz;rw[Nat.ble_eq_true_of_le (by omega)];rfl
 have h1:(rY Au names).length=names.length:=Eu Dg names;simp only[bind_some,hs,aA,cond_true,Mc (n:=n) (l:=names) (by omega) (by omega),h1];rw[HZ (by omega) (by omega)];simp only[bind_some,abJ]
theorem abL {n:Nat} {t:wF} {d:dz} (h:afA n t d) (hn:2000000<=n) {names:List ByteArray} (hl:names.length<=100000):nk n t d names=some (afB t d names):=by
 have hF:=adQ (n:=n) (id:=d.lot) h.lots (by have:=h.land;omega) (by have:=h.land;omega);have hN:=abn (n:=n) (d:=10) (fun l hl=>(h.lots l hl).1) hF h.land (by omega);have hS:jQ n t (dF t.land d.lot).1 d=some (yR (lS (Tw t d)) (dV d)):=by
  unfold jQ;rw[show (dF t.land d.lot).1=Tw t d from rfl,abK h hn];rfl
 have h3:jR n t d=some (((Zv t.land d.lot 10).length:Nat):Int):=by unfold jR;rw[hN];rfl
 have h4:om (dF t.land d.lot).1=some (((Tw t d).area.length:Nat):Int):=rfl;have mk:(decide ((4:Int)<=4)&&(decide ((0:Int)<=4)&&JH 4 8))=true:=by kernel_rfl
 unfold nk afB;rw[hF];simp only[bind_some,mk,cond_true,UK (n:=n) (names:=names) (by omega) hl,hS,h3,h4];generalize ((IL names:Nat):Int)=A;generalize yR (lS (Tw t d)) (dV d)=B;generalize (((Zv t.land d.lot 10).length:Nat):Int)=C;generalize (((Tw t d).area.length:Nat):Int)=D;show _=_
 kernel_rfl
def lineO:aN:=aN.mk 3 [kF.mk 0 1,kF.mk 1 2]
theorem agD:LC=some lineO:=by kernel_rfl
theorem abM (a b:Nat):eO lineO a b=true↔(a=0∧b=1)∨(a=1∧b=2):=by
 simp only[eO,lineO,List.any_cons,List.any_nil,Bool.or_false,Bool.or_eq_true,and_eq_true,decide_eq_true_eq];omega
theorem acP {a b:Nat} (h:Tc (eO lineO) a b):a < b∧b < 3:=by
 induction h with
 |one _ _ h=>have:=(abM _ _).1 h;omega
 |trans _ _ h1 h2=>omega
theorem afC:Tj lineO=false:=by
 cases h:Tj lineO with
 |false=>rfl
 |true=>obtain⟨a,ha⟩:=Zz.1 h;have:=acP ha;omega
theorem acQ:vQ lineO=true:=by
 unfold vQ;rw[afC]
 kernel_rfl
def R3:List (List Bool):=[[true,true,true],[false,true,true],[false,false,true]]
theorem agE {a b:Nat} (ha:a < 3) (hb:b < 3):tcB (eO lineO) a b=decide (a < b):=by
 rw[Bool.eq_iff_iff,L6,decide_eq_true_eq];constructor
 ·exact fun h=>(acP h).1
 ·intro h;have h01:Tc (eO lineO) 0 1:= .one (by omega) (by omega) ((abM 0 1).2 (Or.inl ⟨rfl,rfl⟩));have h12:Tc (eO lineO) 1 2:= .one (by omega) (by omega) ((abM 1 2).2 (Or.inr ⟨rfl,rfl⟩));have:(a=0∧b=1)∨(a=1∧b=2)∨(a=0∧b=2):=by omega
  rcases this with ⟨rfl,rfl⟩ |⟨rfl,rfl⟩ |⟨rfl,rfl⟩
  ·exact h01
  ·exact h12
  ·exact h01.trans h12
theorem agF {a b:Nat} (ha:a < 3) (hb:b < 3):geO lineO a b=decide (a<=b):=by
 unfold geO;rw[agE ha hb,Bool.eq_iff_iff];have e3:lineO.values=3:=rfl;simp only[Bool.or_eq_true,and_eq_true,decide_eq_true_eq,e3];omega
theorem adZ:mG lineO=R3:=by
 have:mG lineO=(List.range 3).map fun a=>(List.range 3).map fun b=>decide (a<=b):=by
  unfold mG;refine List.map_congr_left fun a ha=>List.map_congr_left fun b hb=>?_;exact agF (List.mem_range.1 ha) (List.mem_range.1 hb)
 rw[this];rfl
theorem IQ:j3 [lineO,lineO]=some [R3,R3]:=by
 unfold j3;rw[if_pos ⟨by decide,by simp[acQ]⟩];simp only[List.map_cons,List.map_nil,adZ]
theorem aio:ja [lineO,lineO] [] 1 [1,1] true=(true,[aB.mk 1 [1,1] true],0):=by
 unfold ja bg PE dJ;simp only[IQ]
 kernel_rfl
theorem aip:ja [lineO,lineO] [aB.mk 1 [1,1] true] 2 [1,2] false=(true,[aB.mk 1 [1,1] true,aB.mk 2 [1,2] true],0):=by
 unfold ja bg PE dJ;simp only[IQ]
 kernel_rfl
theorem aiq:ja [lineO,lineO] [aB.mk 1 [1,1] true,aB.mk 2 [1,2] true] 3 [0,1] false=(false,[aB.mk 1 [1,1] true,aB.mk 2 [1,2] true,aB.mk 3 [0,1] false],0):=by
 unfold ja bg PE dJ;simp only[IQ]
 kernel_rfl
theorem air:ja [lineO,lineO] [aB.mk 1 [1,1] true,aB.mk 2 [1,2] true,aB.mk 3 [0,1] false] 3 [0,2] false=(false,[aB.mk 1 [1,1] true,aB.mk 2 [1,2] true,aB.mk 3 [0,1] false],5):=by
 unfold ja bg PE dJ;simp only[IQ]
 kernel_rfl
def exT:wF:=wF.mk [] [] [] [] [] [] [] 0 [iQ.mk 1 0 [au.mk 0 0 20 20] []] [] [] [] []
def exD:dz:=dz.mk 1 [yB.mk [aC.mk 5 5 7 7 0 3 2 0 false] []]
def exN:List ByteArray:=[⟨#[97]⟩,⟨#[98]⟩]
theorem afD:afB exT exD exN=[2,5,0,1]:=by kernel_rfl
theorem ahH {n:Nat} (hn:100<=n):afA n exT exD:=by
 refine⟨fun l hl=>?_,by decide,⟨?_,by decide,fun t ht=>?_⟩,by decide,fun p hp=>?_⟩
 ·simp only[exT,mem_cons,List.not_mem_nil,or_false]at hl;subst hl;exact⟨by decide,by decide⟩
 ·show 0 < n;omega
 ·simp[exT]at ht
 ·simp only[exD,mem_cons,List.not_mem_nil,or_false]at hp;subst hp;decide
theorem abN {n:Nat} (hn:2000000<=n):pu n exT [lineO,lineO] exD exN=some [0,2]:=by
 have hr:([lineO,lineO].all vQ&&decide ([lineO,lineO].length<=12))=true:=by simp[acQ]
 unfold pu;rw[Tv (by omega) _ (by simp;omega) (by simp),hr,abL (ahH (by omega)) hn (by decide),afD];obtain⟨m,rfl⟩:∃ m,n=m+20:=⟨n - 20,by omega⟩;show _=_
 kernel_rfl
theorem acR {n:Nat} (hn:2000000<=n) (b:Bool) (rest:List ByteArray) (h:(b,rest)=(true,[⟨#[97]⟩])∨(b,rest)=(false,[⟨#[97]⟩,⟨#[98]⟩])):wS n (p8.mk [] [] [] [aZ.mk ⟨#[97]⟩ [] [] 0 0 0 true 0 0 0 ⟨#[]⟩ ⟨#[]⟩ [] 0 0 0 0 0 0 0,aZ.mk ⟨#[98]⟩ [] [] 0 0 0 false 0 0 0 ⟨#[]⟩ ⟨#[]⟩ [] 0 0 0 0 0 0 0] [] [] [] 0) rest=some b:=by
 obtain⟨m,rfl⟩:∃ m,n=m+20:=⟨n - 20,by omega⟩;rcases h with h |h<;>(injection h with h1 h2;subst h1;subst h2;show _=_;kernel_rfl)
theorem agG {n:Nat} (hn:2000000<=n):IE n=some true:=by
 have c:∀ base:List aB,base.length<=3->(∀ k∈base,k.values.length<=2)->J7 base:=fun base h1 h2=>⟨by omega,fun k hk=>by have:=h2 k hk;omega⟩;have v2:∀ a b:Int,sub ([a,b]:List Int) 0 2=[a,b]:=fun _ _=>rfl;have d1:=Df (n:=n) (by omega) [lineO,lineO] (base:=[]) (c _ (by simp) (by simp)) 1 (values:=[1,1]) (by simp) true;have d2:=Df (n:=n) (by omega) [lineO,lineO] (base:=[aB.mk 1 [1,1] true]) (c _ (by simp) (by simp)) 2 (values:=[1,2]) (by simp) false;have d3:=Df (n:=n) (by omega) [lineO,lineO] (base:=[aB.mk 1 [1,1] true,aB.mk 2 [1,2] true]) (c _ (by simp) (by simp)) 3 (values:=[0,1]) (by simp) false;have d4:=Df (n:=n) (by omega) [lineO,lineO] (base:=[aB.mk 1 [1,1] true,aB.mk 2 [1,2] true,aB.mk 3 [0,1] false]) (c _ (by simp) (by simp)) 3 (values:=[0,2]) (by simp) false;rw[aio]at d1;rw[aip]at d2;rw[aiq]at d3;rw[air]at d4;have e2:∀ (a b:aN),sub ([a,b]:List aN) 0 2=[a,b]:=fun _ _=>rfl;have hv:=abN hn;unfold exT exD exN at hv;have m1:=acR hn true [⟨#[97]⟩] (Or.inl rfl);have m2:=acR hn false [⟨#[97]⟩,⟨#[98]⟩] (Or.inr rfl);unfold IE;rw[agD];have b1:∀ a b:ByteArray,sub ([a,b]:List ByteArray) 0 2=[a,b]:=fun _ _=>rfl;have b0:∀ a:ByteArray,sub ([a]:List ByteArray) 0 1=[a]:=fun _=>rfl;have b2:∀ a:aC,sub ([a]:List aC) 0 1=[a]:=fun _=>rfl;have b3:∀ a:au,sub ([a]:List au) 0 1=[a]:=fun _=>rfl;have b4:∀ a:iQ,sub ([a]:List iQ) 0 1=[a]:=fun _=>rfl;have b5:∀ a:yB,sub ([a]:List yB) 0 1=[a]:=fun _=>rfl;have b6:∀ a b:aZ,sub ([a,b]:List aZ) 0 2=[a,b]:=fun _ _=>rfl;have q:nH n [0,2] [0,2]=some true:=by
  obtain⟨m,rfl⟩:∃ m,n=m+20:=⟨n - 20,by omega⟩;show _=_
  kernel_rfl
 simp only[bind_some,e2,b0,b1,b2,b3,b4,b5,b6,v2,aA,length_cons,length_nil,Nat.zero_add,Nat.reduceAdd,cond_true,hv,d1,bA,d2,d3,d4,q,m1,m2];rfl
def H6 (f:Int) (g:Bool):Bool:=bif f==1 then true else bif f==2 then false else g
theorem afE (M:Mx) (base:List aB) (w:List Int) (g:Bool):(base.any fun d=>!(d.grant==g)&&lQ M w d)=byG M base w (!g):=by
 unfold byG;congr 1;funext d;cases d.grant<;>cases g<;>cases lQ M w d<;>rfl
inductive DecC (os:List aN) (base:List aB) (id:Int) (w:List Int) (g:Bool):Prop
 |arg (h1:(bg os base w).2.2=1) (h:ja os base id w g=(false,base,1))
 |clash (h1:(bg os base w).2.2=0) (h2:(bg os base w).1=3) (h:ja os base id w g=(false,base,25))
 |twice (h1:(bg os base w).2.2=0) (h2:(bg os base w).1=0∨(bg os base w).1=1∨(bg os base w).1=2) (h3:(base.any fun d=>d.id==id)=true) (h:ja os base id w g=(false,base,5))
 |fine (h1:(bg os base w).2.2=0) (h2:(bg os base w).1=0∨(bg os base w).1=1∨(bg os base w).1=2) (h3:(base.any fun d=>d.id==id)=false) (h:ja os base id w g=(H6 (bg os base w).1 g,base++[aB.mk id w (H6 (bg os base w).1 g)],0))
theorem X6 (os:List aN) (base:List aB) (id:Int) (w:List Int) (g:Bool):DecC os base id w g:=by
 cases hc:(dJ os base).2&&lV (dJ os base).1 w with
 |false=>
  have hF:bg os base w=(0,[],1):=by unfold bg;rw[hc];rfl
  refine .arg (by rw[hF]) ?_;unfold ja;rw[hF];rfl
 |true=>
  have hF:bg os base w=(A8 (dJ os base).1 base w,Db (dJ os base).1 base w,0):=by unfold bg;rw[hc];rfl
  have hA:∀ k,PE os base (aB.mk id w k)=afo (dJ os base).1 base (aB.mk id w k):=fun k=>by
   unfold PE;show (bif (dJ os base).2&&lV (dJ os base).1 w then _ else _)=_;rw[hc];rfl
  generalize dJ os base=r at hF hA;have hB:∀ k,afo r.1 base (aB.mk id w k)=bif base.any (fun d=>d.id==id)then ([],5)else bif byG r.1 base w (!k)then ([],25)else (base++[aB.mk id w k],0):=fun k=>by
   unfold afo;rw[show (base.any fun d=>!(d.grant==(aB.mk id w k).grant)&&lQ r.1 (aB.mk id w k).values d)=byG r.1 base w (!k)from afE r.1 base w k]
  have main:∀ f:Int,(bg os base w).1=f->(f=0∨f=1∨f=2)->byG r.1 base w (!(H6 f g))=false->DecC os base id w g:=by
   intro f hf h3 hk;have hD:ja os base id w g=bif base.any (fun d=>d.id==id)then (false,base,5)else (H6 f g,base++[aB.mk id w (H6 f g)],0):=by
    have e0:((bg os base w).2.2 != 0)=false:=(by rw[hF];rfl);have e3:((bg os base w).1==3)=false:=(by rw[hf,beq_eq_false_iff_ne];omega);have eg:(bif (bg os base w).1==1 then true else bif (bg os base w).1==2 then false else g)=H6 f g:=(by rw[hf];rfl);unfold ja;rw[e0,e3,eg,hA,hB,hk];cases base.any (fun d=>d.id==id)<;>rfl
   have h1:(bg os base w).2.2=0:=(by rw[hF]);cases h4:base.any (fun d=>d.id==id)with
   |true=>rw[h4]at hD;exact .twice h1 (hf ▸ h3) h4 hD
   |false=>rw[h4]at hD;exact .fine h1 (hf ▸ h3) h4 (by rw[hf];exact hD)
  have hw:(bg os base w).1=A8 r.1 base w:=by rw[hF]
  unfold A8 at hw;cases hT:byG r.1 base w true with
  |true=>
   cases hN:byG r.1 base w false with
   |true=>
    rw[hT,hN]at hw;refine .clash (by rw[hF]) hw ?_;have e0:((bg os base w).2.2 != 0)=false:=(by rw[hF];rfl);unfold ja;rw[e0,hw];rfl
   |false=>
    rw[hT,hN]at hw;exact main 1 hw (by omega) hN
  |false=>
   cases hN:byG r.1 base w false with
   |true=>
    rw[hT,hN]at hw;exact main 2 hw (by omega) hT
   |false=>
    rw[hT,hN]at hw;refine main 0 hw (by omega) ?_;cases g
    ·exact hT
    ·exact hN
def afF (os:List aN) (base:List aB):Bool:=!(os.any fun o=>decide (o.pairs.length>20))&&(!(base.any fun c=>decide (c.values.length>8))&&(decide (os.length<=5)&&decide (base.length<=14)))
theorem ZU {n:Nat} {os:List aN} {base:List aB} (h1:os.length<=1000000000000000000) (h2:base.length<=1000000000000000000) (hn:os.length < n) (hn2:base.length < n):wT n os base=some (afF os base):=by
 have a1:=IJ (l:=os) (step:=pE os) (fun o=>decide (o.pairs.length>20)) () false (fun i hi=>by
  have d:decide ((((os[i]).pairs.length:Nat):Int)>20)=decide ((os[i]).pairs.length>20):=by rw[decide_eq_decide];omega
  simp only[pE,dM hi,cond_true,bC hi,bind_some,d,Option.map_some,aff,ay (show i < 9223372036854775807 by omega)]) (by simp only[pE,dD,cond_false]) n hn
 have a2:=IJ (l:=base) (step:=pF base) (fun o=>decide (o.values.length>8)) () false (fun i hi=>by
  have d:decide ((((base[i]).values.length:Nat):Int)>8)=decide ((base[i]).values.length>8):=by rw[decide_eq_decide];omega
  simp only[pF,dM hi,cond_true,bC hi,bind_some,d,Option.map_some,aff,ay (show i < 9223372036854775807 by omega)]) (by simp only[pF,dD,cond_false]) n hn2
 have d1:decide (((os.length:Nat):Int)<=5)=decide (os.length<=5):=by rw[decide_eq_decide];omega
 have d2:decide (((base.length:Nat):Int)<=14)=decide (base.length<=14):=by rw[decide_eq_decide];omega
 unfold wT afF;rw[a1,a2,d1,d2];cases os.any fun o=>decide (o.pairs.length>20)with
 |true=>rfl
 |false=>
  cases base.any fun o=>decide (o.values.length>8)with
  |true=>rfl
  |false=>cases decide (os.length<=5)<;>rfl
theorem ad1 {os:List aN} {base:List aB} (h:afF os base=true):J7 base∧os.length<=5∧base.length<=14:=by
 simp only[afF,and_eq_true,Bool.not_eq_true',decide_eq_true_eq,any_eq_false]at h;obtain⟨h1,h2,h3,h4⟩:=h;refine⟨⟨by omega,fun c hc=>?_⟩,h3,h4⟩;have:=h2 c hc;omega
theorem ZV {X:SX} {n:Nat} {c:CT X.ι} {cs:List (CT X.ι)} {ss:List VS} (hs:zo (vsF n) (c::cs)=some ss) (q:HL X.toSE (c::cs)) (h:Js ss (HL.tvs X.toSE (c::cs) q)):∃ s ss',vsF n c=some s∧zo (vsF n) cs=some ss'∧WU s (CT.tv X.toSE c q.1)∧Js ss' (HL.tvs X.toSE cs q.2):=by
 simp only[zo]at hs;rw[ai]at hs;obtain⟨a,h1,hs⟩:=hs;rw[ai]at hs;obtain⟨b,h2,hs⟩:=hs;injection hs with hs;subst hs;exact⟨a,b,h1,h2,h.1,h.2⟩
theorem ahI {row:List CS} {α:Type} {l:List α} {f:α->List Tree} (h:Fit (.sl row) (.sl (l.map f))):l.length<=maxLen∧l.length*aau row<=reachBytes∧∀ x∈l,FitL row (f x):=by
 simp only[Fit]at h;obtain⟨rows,e,⟨h1,h2⟩,h3⟩:=h;injection e with e;subst e;rw[List.length_map]at h1 h2;exact⟨h1,h2,fun x hx=>h3 _ (mem_map.2 ⟨x,hx,rfl⟩)⟩
theorem afG {X:SX} {n:Nat} {e:CT X.ι} {s:VS} {l:List (CT.T X.toSE e)} (hm:agk X.dec e=none) (hs:vsF (n+1) (.sl e)=some s) (h:WU s (CT.tv X.toSE (.sl e) l)):∃ r,csF n e=some r∧l.length*aau r<=reachBytes:=by
 simp only[vsF,csF,hm]at hs;cases hc:csF n e with
 |none=>rw[hc]at hs;simp at hs
 |some r=>
  rw[hc]at hs;simp only[bind_some,Option.some.injEq]at hs;subst hs;obtain⟨y,e1,e2⟩:=h;rw[CT.tv]at e1;injection e1 with e1;subst e1;exact⟨r,rfl,(ahI e2).2.1⟩
theorem afH {X:SX} {n:Nat} {e:CT X.ι} {s:VS} {l:List (CT.T X.toSE e)} {b:Nat} (hm:agk X.dec e=none) (hb:(csF n e).map aau=some b) (h0:0 < b) (hs:vsF (n+1) (.sl e)=some s) (h:WU s (CT.tv X.toSE (.sl e) l)):l.length<=1000000000000000000:=by
 obtain⟨r,h1,h2⟩:=afG hm hs h;rw[h1,Option.map_some]at hb;injection hb with hb;rw[hb]at h2;have:reachBytes=140737488351232:=rfl;have h3:l.length*1<=l.length*b:=Nat.mul_le_mul (Nat.le_refl _) h0;omega
theorem UL {n:Nat} {a:List Int} (h:a.length<=1000) (hn:1001<=n):nH n a a=some true:=by
 have e:(((a.length:Int)) != ((a.length:Int)))=false:=by simp
 unfold nH;rw[e,bS (step:=pz a a) (fun i=>(i:Int)) (s:=(0:Int)) a.length (.inl ()) rfl (fun i hi=>by
  have n0:(a[i] != a[i])=false:=by simp
  simp only[pz,dM hi,cond_true,bC hi,bind_some,n0,cond_false,ay (show i < 9223372036854775807 by omega)]) (by simp only[pz,dD,cond_false]) n (by omega)]
 rfl
theorem H7 {os:List aN} {M:Mx} (h:j3 os=some M):M=os.map mG∧os.length<=12∧os.all vQ=true:=by
 unfold j3 at h;split at h
 ·rename_i h1;injection h with h;exact⟨h.symm,h1.1,h1.2⟩
 ·cases h
theorem afI (o:aN):(mG o).length=o.values.toNat:=by simp[mG]
theorem ZW {o:aN} (h:vQ o=true):1<=o.values∧o.values<=12:=by
 simp only[vQ,mF,and_eq_true,decide_eq_true_eq]at h;omega
theorem J9 {os:List aN} {M:Mx} (h:j3 os=some M) {v:List Int} (hv:lV M v=true) {i:Nat} (hi:i < os.length):∃ x:Nat,v[i]? =some (x:Int)∧x < (os[i]).values.toNat∧x < 12:=by
 obtain⟨h1,_,h3⟩:=H7 h;subst h1;have hi2:i < (os.map mG).length:=by simpa using hi
 obtain⟨x,e1,e2⟩:=abC hv hi2;have e3:((os.map mG)[i]'hi2).length=(os[i]).values.toNat:=by rw[List.getElem_map,afI]
 have:=ZW (all_eq_true.1 h3 _ (getElem_mem hi));exact⟨x,e1,by omega,by omega⟩
theorem acS {os:List aN} {M:Mx} (h:j3 os=some M) {a b:List Int} {i:Nat} (hi:i < os.length) {x y:Nat} (hx:a[i]? =some (x:Int)) (hy:b[i]? =some (y:Int)) (hx2:x < (os[i]).values.toNat) (hy2:y < (os[i]).values.toNat):FJ M a b i=geO os[i] x y:=by
 obtain⟨h1,_,_⟩:=H7 h;subst h1;have hM:(os.map mG)[i]? =some (mG os[i]):=by simp[hi]
 simp only[FJ,hM,hx,hy,Int.toNat_natCast];simp[mG,hx2,hy2]
theorem Tx {n:Nat} {os:List aN} {M:Mx} (h:j3 os=some M) {a b:List Int} (ha:lV M a=true) (hb:lV M b=true) (hn:1000<=n):mq n os a b=some true:=by
 obtain⟨h1,h2,h3⟩:=H7 h;have la:a.length=os.length:=by
  simp only[lV,and_eq_true,decide_eq_true_eq]at ha;rw[ha.1,h1];simp
 have lb:b.length=os.length:=by
  simp only[lV,and_eq_true,decide_eq_true_eq]at hb;rw[hb.1,h1];simp
 have e1:(os.all vQ&&decide (os.length<=12))=true:=by rw[h3];simpa using h2
 have n0:∀ z:Int,(z != z)=false:=fun z=>by simp
 unfold mq;rw[Tv (by omega) os (by omega) (by omega),e1,la,lb];simp only[bind_some,Bool.not_true,cond_false,n0];rw[bS (step:=lJ os a b) (fun i=>(i:Int)) (s:=(0:Int)) os.length (.inl ()) rfl (fun i hi=>by
  obtain⟨x,x1,x2,x3⟩:=J9 h ha hi;obtain⟨y,y1,y2,y3⟩:=J9 h hb hi;have d1:decide (min (x:Int) (y:Int) < 0)=false:=by simp only[decide_eq_false_iff_not];omega
  have d2:decide (max (x:Int) (y:Int)>=(os[i]).values)=false:=by simp only[decide_eq_false_iff_not];omega
  simp only[lJ,dM hi,cond_true,bC hi,bind_some,JQ,x1,y1,d1,cond_false,d2,ay (show i < 9223372036854775807 by omega)]) (by simp only[lJ,dD,cond_false]) n (by omega)]
 rfl
theorem abO {n:Nat} {o:aN} (hk:vQ o=true) {x y:Nat} (hx:x < o.values.toNat) (hy:y < o.values.toNat) (hn:1000<=n):qW n o x y=some (geO o x y):=by
 have hv:=ZW hk;unfold qW;rw[sV (by omega)];unfold vQ at hk;rw[hk];have hg:(eqL (eD (geO o)).l.length 144&&fK 0 (eD (geO o)).l.length (List.replicate 144 false).length)=true:=by rw[lN];exact iW _ (fun _ _=>false)
 have d1:decide (min (x:Int) (y:Int)>=0)=true:=by simp only[decide_eq_true_eq];omega
 have d2:decide (max (x:Int) (y:Int) < o.values)=true:=by simp only[decide_eq_true_eq];omega
 have hp:jV (List.replicate 144 false) 0 (eD (geO o)).l=tb (geO o):=mE _ (by simp);simp only[bind_some,cond_true,hg,d1,d2,dL (show x < 12 by omega),dL (show y < 12 by omega),hp,A7 (geO o) (show x < 12 by omega) (show y < 12 by omega)]
theorem ad2 {n:Nat} {os:List aN} {M:Mx} (h:j3 os=some M) {a b:List Int} (ha:lV M a=true) (hb:lV M b=true) (hn:1000<=n):uw n os a b=some (wV M a b):=by
 obtain⟨h1,h2,h3⟩:=H7 h;have lM:M.length=os.length:=by rw[h1];simp
 have hz:eqL 0 ([]:List Int).length=true:=rfl;unfold uw;rw[Tx h ha hb hn];simp only[bind_some,Bool.not_true,cond_false,hz,cond_true];rw[bS (step:=nI n os a b) (fun i=>((i:Int),((List.range i).filter fun i=>!(FJ M a b i)).map fun i:Nat=>(i:Int))) (s:=((0:Int),([]:List Int))) os.length (wV M a b) rfl (fun i hi=>by
  obtain⟨x,x1,x2,x3⟩:=J9 h ha hi;obtain⟨y,y1,y2,y3⟩:=J9 h hb hi;have hs1:sub ([(i:Int)]:List Int) 0 1=[(i:Int)]:=rfl;generalize hL:((List.range i).filter fun i=>!(FJ M a b i)).map (fun i:Nat=>(i:Int))=L;have hlen:L.length<=i:=by
   rw[<- hL,List.length_map];exact Nat.le_trans (List.length_filter_le _ _) (by simp)
  have hap:bG L.length L.length 1 1 8=true:=bZ (by omega) (by simp only[maxLen];omega);have hN:((List.range (i+1)).filter fun i=>!(FJ M a b i)).map (fun i:Nat=>(i:Int))=L++(if FJ M a b i=true then []else [(i:Int)]):=by
   rw[List.range_succ,List.filter_append,List.map_append,hL];cases h:FJ M a b i<;>simp[h]
  rw[hN,acS h hi x1 y1 x2 y2];simp only[nI,dM hi,cond_true,bC hi,bind_some,JQ,x1,y1,abO (all_eq_true.1 h3 _ (getElem_mem hi)) x2 y2 hn,ay (show i < 9223372036854775807 by omega)];cases geO os[i] x y with
  |true=>simp only[Bool.not_true,cond_false,aA,cond_true,bind_some,if_true,append_nil]
  |false=>simp only[Bool.not_false,cond_true,hs1,length_singleton,hap,fe,aA,bind_some];rfl) (by simp only[nI,dD,cond_false,aA,cond_true,wV,lM]) n (by omega)]
 simp only[bind_some,bA,aA,cond_true]
def leB (M:Mx) (a b:List Int):Bool:=(wV M a b).isEmpty
theorem ZX {α:Type} (l:List α):((((l.length:Nat):Int))==0)=l.isEmpty:=by
 cases l with
 |nil=>rfl
 |cons a l=>simp only[length_cons,List.isEmpty_cons,beq_eq_false_iff_ne];omega
theorem ZY {n:Nat} {os:List aN} {M:Mx} (h:j3 os=some M) {a b:List Int} (ha:lV M a=true) (hb:lV M b=true) (hn:1000<=n):kL n os a b=some (leB M a b):=by
 unfold kL;rw[Tx h ha hb hn,ad2 h ha hb hn];simp only[bind_some,cond_true,ZX,leB]
theorem agH {M:Mx} {a b:List Int}:leB M a b=true↔∀ i,i < M.length->FJ M a b i=true:=by
 unfold leB wV;rw[List.isEmpty_iff,List.map_eq_nil_iff,List.filter_eq_nil_iff];constructor
 ·intro h i hi;have:=h i (List.mem_range.2 hi);simpa using this
 ·intro h i hi;have:=h i (List.mem_range.1 hi);simp[this]
theorem afJ {o:aN} {x y z:Nat} (h1:geO o x y=true) (h2:geO o y z=true):geO o x z=true:=by
 unfold geO at*;simp only[Bool.or_eq_true,and_eq_true,decide_eq_true_eq,L6]at*;rcases h1 with h1 |⟨rfl,h1⟩
 ·rcases h2 with h2 |⟨rfl,h2⟩
  ·exact Or.inl (h1.trans h2)
  ·exact Or.inl h1
 ·exact h2
theorem ad3 {os:List aN} {M:Mx} (h:j3 os=some M) {a b c:List Int} (ha:lV M a=true) (hb:lV M b=true) (hc:lV M c=true) (h1:leB M a b=true) (h2:leB M b c=true):leB M a c=true:=by
 have lM:M.length=os.length:=by rw[(H7 h).1];simp
 rw[agH]at*;intro i hi;have hi2:i < os.length:=by omega
 obtain⟨x,x1,x2,_⟩:=J9 h ha hi2;obtain⟨y,y1,y2,_⟩:=J9 h hb hi2;obtain⟨z,z1,z2,_⟩:=J9 h hc hi2;have g1:=h1 i hi;have g2:=h2 i hi;rw[acS h hi2 x1 y1 x2 y2]at g1;rw[acS h hi2 y1 z1 y2 z2]at g2;rw[acS h hi2 x1 z1 x2 z2];exact afJ g1 g2
theorem acT (M:Mx) (w:List Int) (c:aB):lQ M w c=bif c.grant then leB M c.values w else leB M w c.values:=by
 unfold lQ NS leB;cases c.grant<;>rfl
theorem IU {M:Mx} {base:List aB} {w:List Int} {g:Bool}:byG M base w g=true↔∃ c∈base,c.grant=g∧(bif g then leB M c.values w else leB M w c.values)=true:=by
 unfold byG;rw[List.any_eq_true];constructor
 ·rintro⟨c,h1,h2⟩;simp only[and_eq_true,decide_eq_true_eq]at h2;refine⟨c,h1,h2.2.symm,?_⟩;have:=h2.1;rw[acT,<- h2.2]at this;exact this
 ·rintro⟨c,h1,h2,h3⟩;refine⟨c,h1,?_⟩;simp only[and_eq_true,decide_eq_true_eq];refine⟨?_,h2.symm⟩;rw[acT,h2];exact h3
def Cons (M:Mx) (base:List aB):Prop:=∀ c∈base,∀ d∈base,c.grant=true->d.grant=false->leB M c.values d.values=false
theorem UM {n:Nat} {os:List aN} {base:List aB} {M:Mx} (h:dJ os base=(M,true)) (hr:j3 os=some M) (hg:goodB M base=true) (hc:Cons M base) (hb:base.length < 1000) (hn:1000<=n):jA n os base=some (-1,-1,true):=by
 have hM:=HY hr;unfold jA;rw[L9 (by omega) os base (by omega) (by omega),h];simp only[bind_some,bA,aA,cond_true,Bool.not_true,cond_false];rw[bS (step:=gW n base (M,true)) (fun i=>(i:Int)) (s:=(0:Int)) base.length (.inl ()) rfl (fun i hi=>by
  simp only[gW,dM hi,cond_true,bC hi,bind_some,bA,ay (show i < 9223372036854775807 by omega)];cases hgr:(base[i]).grant with
  |false=>simp only[Bool.not_false,cond_true,fV]
  |true=>
   rw[u6 (fun d=>!d.grant&&leB M (base[i]).values d.values) (fun d hd=>by
    show gV n d M base[i]=_;unfold gV;rw[NR (XZ hr) (yP hg _ (getElem_mem hi)) (yP hg _ hd) (by omega) (by omega)];simp only[bind_some,ZX,leB];cases d.grant<;>rfl) (by omega) (by omega)]
   have hany:(base.any fun d=>!d.grant&&leB M (base[i]).values d.values)=false:=by
    rw[any_eq_false];intro d hd;cases hdg:d.grant with
    |true=>simp
    |false=>simp[hc _ (getElem_mem hi) d hd hgr hdg]
   simp only[Bool.not_true,cond_false,bind_some,Xv,hany,fV]) (by simp only[gW,dD,cond_false]) n (by omega)]
 rfl
theorem UN {n:Nat} {a:List Int} (h:a.length<=1000) (hn:1001<=n):LU n a a=some true:=by
 have e:(((a.length:Int)) != ((a.length:Int)))=false:=by simp
 unfold LU;rw[e,bS (step:=AU a a) (fun i=>(i:Int)) (s:=(0:Int)) a.length (.inl ()) rfl (fun i hi=>by
  have n0:(a[i] != a[i])=false:=by simp
  simp only[AU,dM hi,cond_true,bC hi,bind_some,n0,cond_false,ay (show i < 9223372036854775807 by omega)]) (by simp only[AU,dD,cond_false]) n (by omega)]
 rfl
theorem UO {n:Nat} {a:List aB} (h:J7 a) (hn:1001<=n):Ht n a a=some true:=by
 have e:(((a.length:Int)) != ((a.length:Int)))=false:=by simp
 obtain⟨h1,h2⟩:=h;unfold Ht;rw[e,bS (step:=AX n a a) (fun i=>(i:Int)) (s:=(0:Int)) a.length (.inl ()) rfl (fun i hi=>by
  have n0:((a[i]).id != (a[i]).id)=false:=by simp
  have n1:(!((a[i]).grant==(a[i]).grant))=false:=by simp
  simp only[AX,dM hi,cond_true,bC hi,bind_some,n0,n1,cond_false,UN (n:=n) (a:=(a[i]).values) (by have:=h2 _ (getElem_mem hi);omega) hn,Bool.not_true,ay (show i < 9223372036854775807 by omega)]) (by simp only[AX,dD,cond_false]) n (by omega)]
 rfl
theorem ad4 {M:Mx} {base:List aB} {c:aB} (h:goodB M base=true) (hid:(base.any fun d=>d.id==c.id)=false) (hv:lV M c.values=true):goodB M (base++[c])=true:=by
 simp only[goodB,all_eq_true,List.mem_range,length_append,length_singleton]at h ⊢;intro i hi;by_cases hl:i < base.length
 ·have:=h i hl;simp only[HV,List.getElem?_append_left hl,List.take_append_of_le_length (Nat.le_of_lt hl)]at this ⊢;exact this
 ·have:i=base.length:=by omega
  subst this;have e:(base++[c])[base.length]? =some c:=by simp
  simp only[HV,e,List.take_left,hv,Bool.and_true,Bool.not_eq_true'];rw[any_eq_false]at hid ⊢;intro d hd h2;have:=hid d hd;simp only[decide_eq_true_eq]at h2;simp only[beq_iff_eq]at this;exact this h2.symm
theorem Z0 {os:List aN} {M:Mx} {base:List aB} (hr:j3 os=some M) (hg:goodB M base=true) (hl:base.length<=2000):dJ os base=(M,true):=by
 unfold dJ;rw[hr];simp only;rw[if_pos hg];congr 1;simpa using hl
theorem Wp {os:List aN} {M:Mx} {base:List aB} {w:List Int} (hc:dJ os base=(M,true)) (h:(bg os base w).2.2=0):lV M w=true∧(bg os base w).1=A8 M base w:=by
 unfold bg at h ⊢;rw[hc]at h ⊢;simp only[Bool.true_and]at h ⊢;cases hv:lV M w with
 |false=>rw[hv]at h;simp at h
 |true=>exact⟨rfl,rfl⟩
theorem abP {M:Mx} {base:List aB} {w:List Int} {g:Bool} (h:A8 M base w=0∨A8 M base w=1∨A8 M base w=2):byG M base w (!(H6 (A8 M base w) g))=false:=by
 unfold A8 at h ⊢;cases hT:byG M base w true with
 |true=>
  cases hN:byG M base w false with
  |true=>rw[hT,hN]at h;simp at h
  |false=>exact hN
 |false=>
  cases hN:byG M base w false with
  |true=>exact hT
  |false=>cases g<;>assumption
structure agI (M:Mx) (base:List aB) (i:Nat):Prop where
 len:base.length<=i
 vals:∀ c∈base,c.values.length<=8
 good:goodB M base=true
 cons:Cons M base
theorem afK {n:Nat} {os:List aN} {M:Mx} (hr:j3 os=some M) {l:List LB} {i:Nat} (hi:i < l.length) {base:List aB} (hg:goodB M base=true) (hb:base.length < 1000) (hw:lV M (l[i]).values=true) (G:Bool) (next:List aB) (hG:byG M base (l[i]).values (!G)=false) (hn:1000<=n):
 iter (gK n os l base (i:Int) (G,next,0)) n (0:Int)=some (.inl ()):=by
 refine bS (step:=gK n os l base (i:Int) (G,next,0)) (fun k=>(k:Int)) (s:=(0:Int)) base.length (.inl ()) rfl (fun k hk=>?_) (by simp only[gK,dD,cond_false]) n (by omega);have hm:=getElem_mem hk;have hv:=yP hg _ hm;have b1:G=false->(base[k]).grant=true->leB M (base[k]).values (l[i]).values=false:=by
  intro h1 h2;cases h3:leB M (base[k]).values (l[i]).values with
  |false=>rfl
  |true=>
   have:byG M base (l[i]).values true=true:=IU.2 ⟨_,hm,h2,h3⟩;rw[h1]at hG;rw[Bool.not_false,this]at hG;cases hG
 have b2:G=true->(base[k]).grant=false->leB M (l[i]).values (base[k]).values=false:=by
  intro h1 h2;cases h3:leB M (l[i]).values (base[k]).values with
  |false=>rfl
  |true=>
   have:byG M base (l[i]).values false=true:=IU.2 ⟨_,hm,h2,h3⟩;rw[h1]at hG;rw[Bool.not_true,this]at hG;cases hG
 simp only[gK,dM hk,cond_true,bC hk,bC hi,bind_some,ZY hr hv hw hn,ZY hr hw hv hn,ay (show k < 9223372036854775807 by omega)];cases G with
 |true=>
  cases hgr:(base[k]).grant with
  |true=>rfl
  |false=>rw[b2 rfl hgr];rfl
 |false=>
  cases hgr:(base[k]).grant with
  |true=>rw[b1 rfl hgr];rfl
  |false=>rfl
theorem abQ {n:Nat} {os:List aN} {M:Mx} (hr:j3 os=some M) {l:List LB} (hl:l.length<=12) (hv:∀ a∈l,a.values.length<=8) (hn:2000<=n) {i:Nat} (hi:i < l.length) {base:List aB} (I:agI M base i):
 ∃ next,dO n os l (base,(i:Int))=some (.inl (next,((i+1:Nat):Int)))∧agI M next (i+1):=by
 obtain⟨I1,I2,I3,I4⟩:=I;have sm:J7 base:=⟨by omega,fun c hc=>by have:=I2 c hc;omega⟩;have ck:=Z0 hr I3 (by omega);have va:=hv _ (getElem_mem hi);have n0:∀ z:Int,(z != z)=false:=fun z=>by simp
 have n1:∀ z:Int,(z==z)=true:=fun z=>by simp
 have dec:=Df (n:=n) (by omega) os sm (l[i]).id (values:=(l[i]).values) (by omega) (l[i]).officer;have same:=UO (n:=n) sm (by omega);rcases X6 os base (l[i]).id (l[i]).values (l[i]).officer with ⟨p1,p⟩ |⟨p1,p2,p⟩ |⟨p1,p2,p3,p⟩ |⟨p1,p2,p3,p⟩
 ·refine⟨base,?_,⟨by omega,I2,I3,I4⟩⟩;rw[p]at dec;have e1:((1:Int)==25)=false:=rfl;have e2:((1:Int) != 0)=true:=rfl;simp only[dO,dM hi,cond_true,bC hi,bind_some,dec,bA,aA,e1,e2,cond_false,same,Bool.not_true,fV,ay (show i < 9223372036854775807 by omega)]
 ·exfalso;obtain⟨q1,q2⟩:=Wp ck p1;rw[p2]at q2;unfold A8 at q2;cases hT:byG M base (l[i]).values true with
  |false=>rw[hT]at q2;revert q2;cases byG M base (l[i]).values false<;>simp
  |true=>
   cases hN:byG M base (l[i]).values false with
   |false=>rw[hT,hN]at q2;simp at q2
   |true=>
    obtain⟨c,c1,c2,c3⟩:=IU.1 hT;obtain⟨d,d1,d2,d3⟩:=IU.1 hN;have:=ad3 hr (yP I3 c c1) q1 (yP I3 d d1) c3 d3;rw[I4 c c1 d d1 c2 d2]at this;cases this
 ·refine⟨base,?_,⟨by omega,I2,I3,I4⟩⟩;rw[p]at dec;have e1:((5:Int)==25)=false:=rfl;have e2:((5:Int) != 0)=true:=rfl;simp only[dO,dM hi,cond_true,bC hi,bind_some,dec,bA,aA,e1,e2,cond_false,same,Bool.not_true,fV,ay (show i < 9223372036854775807 by omega)]
 ·obtain⟨q1,q2⟩:=Wp ck p1;rw[q2]at p2 p;have fr:=abP (g:=(l[i]).officer) p2;rw[p]at dec;generalize H6 (A8 M base (l[i]).values) (l[i]).officer=G at fr dec;have hid:(base.any fun d=>d.id==(aB.mk (l[i]).id (l[i]).values G).id)=false:=p3;have g2:=ad4 (c:=aB.mk (l[i]).id (l[i]).values G) I3 hid q1;have c2:Cons M (base++[aB.mk (l[i]).id (l[i]).values G]):=by
   intro c hc d hd h1 h2;rw[List.mem_append,List.mem_singleton]at hc hd;rcases hc with hc |rfl
   ·rcases hd with hd |rfl
    ·exact I4 c hc d hd h1 h2
    ·cases h3:leB M c.values (l[i]).values with
     |false=>rfl
     |true=>
      have:byG M base (l[i]).values true=true:=IU.2 ⟨c,hc,h1,h3⟩;simp only at h2;rw[h2,Bool.not_false,this]at fr;cases fr
   ·rcases hd with hd |rfl
    ·cases h3:leB M (l[i]).values d.values with
     |false=>rfl
     |true=>
      have:byG M base (l[i]).values false=true:=IU.2 ⟨d,hd,h2,h3⟩;simp only at h1;rw[h1,Bool.not_true,this]at fr;cases fr
    ·rw[h1]at h2;cases h2
  have ln:(base++[aB.mk (l[i]).id (l[i]).values G]).length=base.length+1:=by simp
  have ck2:=Z0 hr g2 (by omega);have con:=UM (n:=n) ck2 hr g2 c2 (by omega) (by omega);have rt:pG n os (base++[aB.mk (l[i]).id (l[i]).values G])=some true:=by
   unfold pG;rw[L9 (by omega) os _ (by omega) (by omega),ck2];rfl
  refine⟨base++[aB.mk (l[i]).id (l[i]).values G],?_,⟨by omega,fun c hc=>?_,g2,c2⟩⟩
  ·have s2:=afK (n:=n) hr hi I3 (by omega) q1 G (base++[aB.mk (l[i]).id (l[i]).values G]) fr (by omega);have tk:sub (base++[aB.mk (l[i]).id (l[i]).values G]) 0 (((base.length:Int):Int).toNat)=base:=(by rw[Lh,Int.toNat_natCast,List.take_left]);have sl:sH 0 (base.length:Int) (base++[aB.mk (l[i]).id (l[i]).values G]).length=true:=xJ (by omega) (by omega) (by rw[ln];omega);have at1:at? (base++[aB.mk (l[i]).id (l[i]).values G]) (base.length:Int)=some (aB.mk (l[i]).id (l[i]).values G):=(by rw[JQ];simp);have wl:i64.wrap ((base.length:Int)+1)=(((base++[aB.mk (l[i]).id (l[i]).values G]).length:Nat):Int):=(by rw[ln];exact ay (by omega));have sn:=UL (n:=n) (a:=(l[i]).values) (by omega) (by omega);have gg:(!(G==G))=false:=(by simp);have e1:((0:Int)==25)=false:=rfl;have e2:((0:Int) != 0)=false:=rfl;simp only[dO,dM hi,cond_true,bC hi,bind_some,dec,bA,aA,e1,e2,cond_false,s2,fV,con,Bool.not_true,wl,n0,rt,sl,tk,same,at1,gg,sn,ay (show i < 9223372036854775807 by omega)]
  ·rw[List.mem_append,List.mem_singleton]at hc;rcases hc with hc |rfl
   ·exact I2 c hc
   ·exact va
def agJ (l:List LB):Bool:=!(l.any fun a=>decide (a.values.length>8))&&decide (l.length<=12)
theorem abR {n:Nat} {l:List LB} (h1:l.length<=1000000000000000000) (hn:l.length < n):AR n l=some (agJ l):=by
 have a1:=IJ (l:=l) (step:=qV l) (fun a=>decide (a.values.length>8)) () false (fun i hi=>by
  have d:decide ((((l[i]).values.length:Nat):Int)>8)=decide ((l[i]).values.length>8):=by rw[decide_eq_decide];omega
  simp only[qV,dM hi,cond_true,bC hi,bind_some,d,Option.map_some,aff,ay (show i < 9223372036854775807 by omega)]) (by simp only[qV,dD,cond_false]) n hn
 have d1:decide (((l.length:Nat):Int)<=12)=decide (l.length<=12):=by rw[decide_eq_decide];omega
 unfold AR agJ;rw[a1,d1];cases l.any fun a=>decide (a.values.length>8)<;>rfl
theorem Ka {n:Nat} (os:List aN) (l:List LB) (h1:os.length<=1000000000000000000) (h2:l.length<=1000000000000000000) (hn:2000000+os.length+l.length<=n):lK n os l=some true:=by
 unfold lK;rw[agG (by omega),ZU (base:=[]) h1 (by simp) (by omega) (by simp;omega)];simp only[bind_some];cases hf:afF os []with
 |false=>rfl
 |true=>
  obtain⟨_,ho,_⟩:=ad1 hf;rw[abR h2 (by omega)];simp only[Bool.not_true,cond_false,bind_some];cases hk:agJ l with
  |false=>rfl
  |true=>
   simp only[agJ,and_eq_true,Bool.not_eq_true',decide_eq_true_eq,any_eq_false]at hk;obtain⟨k1,k2⟩:=hk;rw[Tv (by omega) os (by omega) (by omega)];simp only[Bool.not_true,cond_false,bind_some];cases hR:os.all vQ&&decide (os.length<=12)with
   |false=>rfl
   |true=>
    have hr:j3 os=some (os.map mG):=by
     unfold j3;rw[if_pos ⟨by omega,by rw[and_eq_true]at hR;exact hR.1⟩]
    have key:∃ o,iter (dO n os l) n (([]:List aB),(0:Int))=some o∧o=Sum.inl ():=by
     have I0:agI (os.map mG) [] 0:=⟨Nat.le_refl _,fun c hc=>(by cases hc),rfl,fun c hc=>(by cases hc)⟩;refine Te (fun i (v:List aB×Int)=>v.2=(i:Int)∧agI (os.map mG) v.1 i) l.length (fun o=>o=Sum.inl ()) (fun i v hi hv=>?_) (fun v hv=>?_) n (by omega) _ ⟨rfl,I0⟩
     ·obtain⟨base,z⟩:=v;obtain⟨z1,z2⟩:=hv;simp only at z1 z2;subst z1;obtain⟨next,s1,s2⟩:=abQ (n:=n) hr (l:=l) (by omega) (fun a ha=>by have:=k1 a ha;omega) (by omega) hi z2;exact⟨_,s1,rfl,s2⟩
     ·obtain⟨base,z⟩:=v;obtain⟨z1,z2⟩:=hv;simp only at z1;subst z1;exact⟨.inl (),by simp only[dO,dD,cond_false],rfl⟩
    obtain⟨o,o1,rfl⟩:=key;rw[o1];rfl
theorem Md (os:List aN) (l:List LB) (h1:os.length<=1000000000000000000) (h2:l.length<=1000000000000000000):∃ k,lK k os l=some true:=⟨_,Ka os l h1 h2 (Nat.le_refl _)⟩
theorem Wq {n:Nat} {ss:List VS} {q:HL xx.toSE [.sl (.st SI.Order),.sl (.st SI.Ask)]} (hs:zo (vsF (X:=xx) (n+8)) [.sl (.st SI.Order),.sl (.st SI.Ask)]=some ss) (hq:Js ss (HL.tvs xx.toSE _ q)):List.length (α:=aN) q.1<=1000000000000000000∧List.length (α:=LB) q.2.1<=1000000000000000000:=by
 obtain⟨_,_,h1,a1,h2,b1⟩:=ZV hs q hq;obtain⟨_,_,h3,_,h4,_⟩:=ZV a1 q.2 b1;exact⟨afH (X:=xx) (n:=n+7) (e:= .st SI.Order) (b:=32) (by kernel_rfl) (by kernel_rfl) (by omega) h1 h2,afH (X:=xx) (n:=n+7) (e:= .st SI.Ask) (b:=40) (by kernel_rfl) (by kernel_rfl) (by omega) h3 h4⟩
end Go.Proofs
