/-
  Printed by wip/gen: that functions of the program compute this.
-/
import Derived.Test.YtplkangbgmlgdaaGreatDoorTC1
open Go.IntKind (i64)
open List (length_nil map_append)
namespace Go.Proofs
open Go.Gb Go.RowKit
noncomputable section
theorem ai3 {cd:Code} {Q:Exit->St->Prop} {A:List aj} {d i:Int} {r:aj} {pre:List bZ} {c:bZ} (hp:pre.length+1<=500000)
 (hq:Ev Tryz.prog Tryz.f41.ntmps cd Q (if c.x0=r.x0 then hsM (iY A d i (kJ pre)) r pre c else hsM (iY A d i (kJ (pre++[c]))) r (pre++[c]) ⟨r.x0,r.x1,[]⟩)):
 Ev Tryz.prog Tryz.f41.ntmps (cA hsJ) (Xm (Ev Tryz.prog Tryz.f41.ntmps cd Q) Q) (hsM (iY A d i (kJ pre)) r pre c):=by
 have hp':pre.length<=500000:=by omega
 show Ev _ _ (Code.seq (cA (cA hsJ)) (Code.seq WL (cB (cB (cA hsJ))))) _ _;refine jq ?_;refine fK (ops:=cO (cA (cA hsJ))) (σ2:=hsM (acZ A d i ((pre.length+1:Nat):Int) (kJ pre)) r pre c) pY (by kernel_rfl) ale trivial ?_ ?_
 ·refine iw (fun p hp'=>?_) (fun _ _ h=>h) rfl (NK (E:=[(8,tn ((pre.length+1:Nat):Int)),(7,.ptr 1002 0 0)]) (fun p hp' k hk=>?_) hp')
  ·simp only[acZ,iY,eT,aI,aP,or_false]at hp';rcases hp' with rfl |rfl |rfl |rfl |rfl |rfl |rfl<;>exact⟨rfl,rfl⟩
  ·simp only[aI,aP,or_false]at hp';rcases hp' with rfl |rfl
   ·simp[refs]at hk
   ·simp[refs]at hk;omega
 refine jq ?_;refine Kv (ops:=cO WL) (σ2:=hsM ((30,bo (c.x0 != r.x0))::iY A d i (kJ pre)) r pre c) pY mixed (by kernel_rfl) alg alf ⟨by rw[aap hp'];exact⟨by omega,by omega⟩,aaq hp'⟩ ?_ ?_
 ·refine iw (fun p hp'=>?_) (fun _ _ h=>h) rfl (NK (E:=[(30,bo (c.x0 != r.x0)),(7,.ptr 1002 0 0)]) (fun p hp' k hk=>?_) hp')
  ·simp only[iY,eT,aI,aP,or_false]at hp';rcases hp' with rfl |rfl |rfl |rfl |rfl |rfl |rfl<;>exact⟨rfl,rfl⟩
  ·simp only[aI,aP,or_false]at hp';rcases hp' with rfl |rfl
   ·simp[refs]at hk
   ·simp[refs]at hk;omega
 show Ev _ _ (Code.cond (.tmp 30) WM (cB (cB (cB (cA hsJ))))) _ _;refine Es (c.x0 != r.x0) (fun _ _=>rfl) rfl ?_;refine EH (σ2:=hsM (iY A d i (kJ pre)) r pre c) ?_ ?_
 ·refine iw (fun p hp'=>?_) (fun _ _ h=>h) rfl (P7 hp');simp only[iY,eT,aI,aP,or_false]at hp';rcases hp' with rfl |rfl |rfl |rfl |rfl |rfl<;>exact⟨rfl,rfl⟩
 by_cases e:c.x0=r.x0
 ·rw[aJ e]at hq;rw[show (c.x0 != r.x0)=false by simp[e]];exact LB hq
 rw[aD e]at hq;rw[show (c.x0 != r.x0)=true by simp[e]];show Ev _ _ (Code.region _ (cO WM) false) _ _;have hpl:(pre++[c]).length=pre.length+1:=by simp
 refine fK (ops:=cO WM) (σ2:=(⟨iY A d i (kJ (pre++[c])),[(1000,some ⟨3,gM 2000 (pre++[c])++[qW r]⟩),(1002,some (bx r))],[]⟩:GSt).st (hsF (pre++[c]))) pY (by kernel_rfl) alh
  ⟨trivial,by rw[aZ,oP];rfl,rfl,rfl,by omega,?_⟩ ?_ (ai2 (by omega) hq)
 ·have:(500000:Nat) < maxLen:=by decide
  omega
 refine Jb (fun k=>if k=nid 7 then 1000 else if k=1001 then 2000+pre.length else k) (fun k=>if k=1000 then nid 7 else if k=2000+pre.length then 1001 else k) (fun k=>k≠1000∧k≠2000+pre.length)
  (fun k hk=>?_) (fun j hj=>by rw[aD (by omega),aD (by omega)]) (fun p hp'=>?_) (fun j o' hj=>?_) rfl (agE (by omega))
 ·by_cases e1:k=nid 7
  ·rw[aJ e1,aJ rfl,e1]
  ·rw[aD e1];by_cases e2:k=1001
   ·rw[aJ e2,aD (by omega),aJ rfl,e2]
   ·rw[aD e2,aD hk.1,aD hk.2]
 ·simp only[iY,eT,aI,aP,or_false]at hp';rcases hp' with rfl |rfl |rfl |rfl |rfl |rfl
  ·exact⟨rfl,fun k hk=>by have:=aO.1 (show k∈[1002]from hk);omega,rfl⟩
  ·exact⟨rfl,fun k hk=>absurd (show k∈([]:List Nat)from hk) (aP),rfl⟩
  ·refine⟨rfl,fun k hk=>by have:=aO.1 (show k∈[nid 7]from hk);simp only[nid]at this;omega,?_⟩;show AV.own 1000 0 (gM 2000 pre++[qb 1001 c]++[qW r]).length=AV.own 1000 0 ((pre++[c]).length+1);simp only[aZ,oP,bH,length_nil,Nat.zero_add]
  ·exact⟨rfl,fun k hk=>absurd (show k∈([]:List Nat)from hk) (aP),rfl⟩
  ·exact⟨rfl,fun k hk=>absurd (show k∈([]:List Nat)from hk) (aP),rfl⟩
  ·exact⟨rfl,fun k hk=>absurd (show k∈([]:List Nat)from hk) (aP),rfl⟩
 ·simp only[GSt.st,lk]at hj;by_cases e0:1000=j
  ·rw[aJ e0]at hj;injection hj with hj;subst e0 hj;refine⟨nid 7,⟨3,gM 2000 pre++[qb 1001 c]++[qW r]⟩,rfl,⟨by simp[nid],by simp only[nid];omega⟩,rfl,?_,fun q hq k hk=>?_⟩
   ·simp only[Lv];congr 1;rw[map_append,map_append,VB];congr 1;congr 1
    conv=>lhs;rw[<- List.map_id (gM 2000 pre)]
    exact List.map_congr_left fun q hq=>(kY q fun k hk=>by
     have:=jC _ _ q hq k hk;rw[aD (by simp only[nid];omega),aD (by omega)]).symm
   ·rcases aX.1 hq with hq |hq
    ·rcases aX.1 hq with hq |hq
     ·have:=jC _ _ q hq k hk;omega
     ·rw[aO]at hq;subst hq;simp[dG,refs]at hk;omega
    ·rw[aO]at hq;subst hq;simp[dG,refs]at hk
  ·rw[aD e0]at hj;by_cases e2:1002=j
   ·rw[aJ e2]at hj;injection hj with hj;subst e2 hj;refine⟨1002,bx r,rfl,by omega,rfl,rfl,fun q hq k hk=>?_⟩;simp only[bx,aO]at hq;subst hq;simp[dG,refs]at hk
   ·rw[aD e2]at hj;obtain⟨h1,h2,s,h3,rfl⟩:=Ec hj;have hrn:∀ f:Nat->Nat,(⟨2,gY s.column⟩:bA)=Lv f ⟨2,gY s.column⟩:=fun f=>by
     simp only[Lv];congr 1
     conv=>lhs;rw[<- List.map_id (gY _)]
     exact List.map_congr_left fun q hq=>(kY q fun k hk=>(pU _ q hq k hk).elim).symm
    by_cases e3:j=2000+pre.length
    ·have hs:s=c:=by
      rw[e3,Nat.add_sub_cancel_left,eZ (aU _),Nat.sub_self]at h3;injection h3 with h3;exact h3.symm
     subst hs;exact⟨1001,_,rfl,by omega,by rw[aD (by simp[nid]),aJ rfl,e3],hrn _,fun q hq k hk=>(pU _ q hq k hk).elim⟩
    ·have hjl:j - 2000 < pre.length:=(by rw[hpl]at h2;omega);rw[List.getElem?_append_left hjl]at h3;have hjn:j < 600000:=(by rw[hpl]at h2;omega);refine⟨j,⟨2,gY s.column⟩,?_,⟨by omega,e3⟩,by rw[aD (by simp only[nid];omega),aD (by omega)],hrn _,fun q hq k hk=>(pU _ q hq k hk).elim⟩;simp only[GSt.st,lk];rw[aD (by simp only[nid];omega),aD e0,aD (by simp only[nid];omega),aD e0,aD (by omega),aD e2];show hsF pre j=_;unfold hsF;rw[aJ h1,h3];rfl
theorem ac0 {A:List aj} {d i:Int}:RZ A d i []=(aan A d i).st fun _=>none:=rfl
theorem Ah {A:List aj} {d i:Int} {pre:List bZ} {c:bZ}:RZ A d i (pre++[c])=Q8 A d i pre c:=by
 unfold RZ;simp
theorem VE {A:List aj} {d i:Int}:Old ((aan A d i).st fun _=>none):=
 CF (ng (E:=[]) (fun p hp'=>by cases hp') (by simp[refs])) (fun p hp'=>by cases hp') (fun k o h=>by cases h)
theorem ai4 {A:List aj} {d i:Int} {out:AV} {O:List (Nat×Option bA)} {F:Nat->Option bA}:
 Ap Tryz.prog (oz tab) (cO (cA hsB)) (fun _=>an0) F (List.range (cO (cA hsB)).size) ⟨eT A d i out,O,[]⟩=
  some (⟨(13,bo (decide (i < (A.length:Int))))::eT A d i out,O,[(13,none)]⟩,[]):=by kernel_rfl
theorem akM {A:List aj} {d i:Int} {out:AV} {O:List (Nat×Option bA)} {F:Nat->Option bA}:
 Ap Tryz.prog (oz tab) (cO (cB (cB (cB hsB)))) (fun _=>an0) F (List.range (cO (cB (cB (cB hsB)))).size) ⟨eT A d i out,O,[]⟩=
  some (⟨(12,tn (i64.wrap (i+1)))::(71,tn (i64.wrap (i+1)))::eT A d i out,O,[(12,none),(71,none)]⟩,[]):=by kernel_rfl
theorem aar {Q:Exit->St->Prop} {A:List aj} {d:Int} {k:Nat} {pre:List bZ} {c:bZ} (hk:k < 600000) (hp:pre.length<=500000) (hq:Q .normal (Q8 A d ((k+1:Nat):Int) pre c)):
 Ev Tryz.prog Tryz.f41.ntmps (cB (cB (cB hsB))) Q (Q8 A d (k:Int) pre c):=by
 show Ev _ _ (Code.region _ (cO (cB (cB (cB hsB)))) false) _ _;refine fK (ops:=cO (cB (cB (cB hsB)))) pY (by kernel_rfl) akM trivial ?_ hq;refine iw (fun p hp'=>?_) (fun _ _ h=>h) rfl (rZ hp);simp only[RY,eT,aI,aP,or_false]at hp';rcases hp' with rfl |rfl |rfl |rfl |rfl
 ·exact⟨rfl,rfl⟩
 ·exact⟨rfl,rfl⟩
 ·exact⟨rfl,rfl⟩
 ·exact⟨rfl,rfl⟩
 ·refine⟨rfl,?_⟩;show tn (i64.wrap ((k:Int)+1))=tn ((k+1:Nat):Int);rw[aN (by omega)]
theorem ai5 {Q:Exit->St->Prop} {A:List aj} {d:Int} {k:Nat} {r:aj} {pre:List bZ} {c:bZ} (hr:A[k]? =some r) (hp:pre.length<=500000)
 (hq:Ev Tryz.prog Tryz.f41.ntmps hsJ Q (hsM (iY A d (k:Int) (kJ pre)) r pre c)):Ev Tryz.prog Tryz.f41.ntmps hsI Q (Q8 A d (k:Int) pre c):=by
 show Ev _ _ (Code.seq (cA hsI) hsJ) _ _;refine jq ?_;refine fK (ops:=cO (cA hsI)) pY (by kernel_rfl) (aj9 (r:=r)) ⟨by omega,by rw[Int.toNat_natCast,List.getElem?_map,hr];rfl⟩ ?_ hq;refine Jb (fun k=>if k=nid 2 then 1002 else k) (fun k=>if k=1002 then nid 2 else k) (fun k=>k≠1002) (fun k hk=>?_) (fun j hj=>by rw[aD (by omega)]) (fun p hp'=>?_) (fun j o' hj=>?_) rfl (P7 hp)
 ·by_cases e:k=nid 2
  ·rw[aJ e,aJ rfl,e]
  ·rw[aD e,aD hk]
 ·simp only[iY,eT,aI,aP,or_false]at hp';rcases hp' with rfl |rfl |rfl |rfl |rfl |rfl
  ·exact⟨rfl,fun k hk=>by have:=aO.1 (show k∈[nid 2]from hk);simp only[nid]at this;omega,rfl⟩
  ·exact⟨rfl,fun k hk=>absurd (show k∈([]:List Nat)from hk) (aP),rfl⟩
  ·exact⟨rfl,fun k hk=>by have:=aO.1 (show k∈[1000]from hk);omega,rfl⟩
  ·exact⟨rfl,fun k hk=>absurd (show k∈([]:List Nat)from hk) (aP),rfl⟩
  ·exact⟨rfl,fun k hk=>absurd (show k∈([]:List Nat)from hk) (aP),rfl⟩
  ·exact⟨rfl,fun k hk=>absurd (show k∈([]:List Nat)from hk) (aP),rfl⟩
 ·have hfix:∀ (sz:Nat) (rows:List (List AV)),(∀ q∈rows,∀ k∈dG q,k < 600000∧k≠1002)->(⟨sz,rows⟩:bA)=Lv (fun k=>if k=nid 2 then 1002 else k) ⟨sz,rows⟩∧∀ q∈rows,∀ k∈dG q,k≠1002:=by
   intro sz rows h;refine⟨?_,fun q hq k hk=>(h q hq k hk).2⟩;simp only[Lv];congr 1
   conv=>lhs;rw[<- List.map_id rows]
   exact List.map_congr_left fun q hq=>(kY q fun k hk=>aD (by have:=(h q hq k hk).1;simp only[nid];omega)).symm
  simp only[GSt.st,lk]at hj;by_cases e0:1000=j
  ·rw[aJ e0]at hj;injection hj with hj;subst e0 hj;obtain⟨g1,g2⟩:=hfix 3 (gM 2000 pre++[qb 1001 c]) (fun q hq k hk=>by
    rcases aX.1 hq with hq |hq
    ·have:=jC _ _ q hq k hk;omega
    ·rw[aO]at hq;subst hq;simp[dG,refs]at hk;omega)
   exact⟨1000,_,rfl,by omega,rfl,g1,g2⟩
  ·rw[aD e0]at hj;by_cases e1:1001=j
   ·rw[aJ e1]at hj;injection hj with hj;subst e1 hj;obtain⟨g1,g2⟩:=hfix 2 (gY c.column) (fun q hq k hk=>(pU _ q hq k hk).elim);exact⟨1001,_,rfl,by omega,rfl,g1,g2⟩
   ·rw[aD e1]at hj;by_cases e2:1002=j
    ·rw[aJ e2]at hj;injection hj with hj;subst e2 hj;refine⟨nid 2,bx r,rfl,by simp[nid],rfl,rfl,fun q hq k hk=>?_⟩;simp only[bx,aO]at hq;subst hq;simp[dG,refs]at hk
    ·rw[aD e2]at hj;obtain⟨h1,h2,s,h3,rfl⟩:=Ec hj;obtain⟨g1,g2⟩:=hfix 2 (gY s.column) (fun q hq k hk=>(pU _ q hq k hk).elim);refine⟨j,_,?_,fun e=>e2 e.symm,aD (by simp only[nid];omega),g1,g2⟩;simp only[GSt.st,lk];rw[aD (by simp only[nid];omega),aD (by simp only[nid];omega),aD e0,aD e1];exact hj
theorem ai6 {Q:Exit->St->Prop} {A:List aj} {d:Int} {k:Nat} {r:aj} (hr:A[k]? =some r)
 (hq:Ev Tryz.prog Tryz.f41.ntmps hsJ Q ((⟨iY A d (k:Int) .nilsl,[(1002,some (bx r))],[]⟩:GSt).st fun _=>none)):Ev Tryz.prog Tryz.f41.ntmps hsI Q ((aan A d (k:Int)).st fun _=>none):=by
 show Ev _ _ (Code.seq (cA hsI) hsJ) _ _;refine jq ?_;refine fK (ops:=cO (cA hsI)) pY (by kernel_rfl) (aj9 (r:=r)) ⟨by omega,by rw[Int.toNat_natCast,List.getElem?_map,hr];rfl⟩ ?_ hq;refine Jb (fun k=>if k=nid 2 then 1002 else k) (fun k=>if k=1002 then nid 2 else k) (fun k=>k≠1002) (fun k hk=>?_) (fun j hj=>by rw[aD (by omega)]) (fun p hp'=>?_) (fun j o' hj=>?_) rfl (NN (E:=[(7,.ptr 1002 0 0)]) fun p hp' k hk=>?_)
 ·by_cases e:k=nid 2
  ·rw[aJ e,aJ rfl,e]
  ·rw[aD e,aD hk]
 ·simp only[iY,eT,aI,aP,or_false]at hp';rcases hp' with rfl |rfl |rfl |rfl |rfl |rfl
  ·exact⟨rfl,fun k hk=>by have:=aO.1 (show k∈[nid 2]from hk);simp only[nid]at this;omega,rfl⟩
  ·exact⟨rfl,fun k hk=>absurd (show k∈([]:List Nat)from hk) (aP),rfl⟩
  ·exact⟨rfl,fun k hk=>absurd (show k∈([]:List Nat)from hk) (aP),rfl⟩
  ·exact⟨rfl,fun k hk=>absurd (show k∈([]:List Nat)from hk) (aP),rfl⟩
  ·exact⟨rfl,fun k hk=>absurd (show k∈([]:List Nat)from hk) (aP),rfl⟩
  ·exact⟨rfl,fun k hk=>absurd (show k∈([]:List Nat)from hk) (aP),rfl⟩
 ·simp only[GSt.st,lk]at hj;by_cases e2:1002=j
  ·rw[aJ e2]at hj;injection hj with hj;subst e2 hj;refine⟨nid 2,bx r,rfl,by simp[nid],rfl,rfl,fun q hq k hk=>?_⟩;simp only[bx,aO]at hq;subst hq;simp[dG,refs]at hk
  ·rw[aD e2]at hj;cases hj
 ·rw[aO]at hp';subst hp';simp[refs]at hk;omega
theorem VF (d:Int) (r:aj):iX d [] r=[if Cz d r < CB d r then⟨r.x0,r.x1,[]++[⟨Cz d r,CB d r⟩]⟩else⟨r.x0,r.x1,[]⟩]:=by
 unfold iX;by_cases h:Cz d r < CB d r
 ·rw[aJ h,aJ h];rfl
 ·rw[aD h,aD h];rfl
theorem VG (d:Int) (pre:List bZ) (c:bZ) (r:aj):iX d (pre++[c]) r=
 if c.x0=r.x0 then pre++[if Cz d r < CB d r then⟨c.x0,c.x1,c.column++[⟨Cz d r,CB d r⟩]⟩else c]
 else (pre++[c])++[if Cz d r < CB d r then⟨r.x0,r.x1,[]++[⟨Cz d r,CB d r⟩]⟩else⟨r.x0,r.x1,[]⟩]:=by
 unfold iX;by_cases e:c.x0=r.x0
 ·by_cases h:Cz d r < CB d r
  ·simp[e,h]
  ·simp[e,h]
 ·by_cases h:Cz d r < CB d r
  ·simp[e,h]
  ·simp[e,h]
def VH (k:Nat) (l:List bZ):Prop:=l.length<=k∧∀ s∈l,s.column.length<=k
theorem VI {k:Nat} {l:List bZ} (h:VH k l) (d:Int) (r:aj):VH (k+1) (iX d l r):=by
 rcases List.eq_nil_or_concat l with rfl |⟨pre,c,rfl⟩
 ·rw[VF];refine⟨by simp,fun s hs=>?_⟩;rw[aO]at hs;subst hs;split<;>simp
 ·rw[List.concat_eq_append]at h ⊢;rw[VG];obtain⟨h1,h2⟩:=h;simp only[aZ,bH,length_nil]at h1;have hc:=h2 c (by simp);split
  ·refine⟨by simp;omega,fun s hs=>?_⟩;rcases aX.1 hs with hs |hs
   ·have:=h2 s (by simp[hs]);omega
   ·rw[aO]at hs;subst hs;split
    ·simp;omega
    ·omega
  ·refine⟨by simp;omega,fun s hs=>?_⟩;rcases aX.1 hs with hs |hs
   ·have:=h2 s hs;omega
   ·rw[aO]at hs;subst hs;split<;>simp
theorem ai7 {Q:Exit->St->Prop} {K:St->Prop} {A:List aj} {d:Int} {k:Nat} {r:aj} {l:List bZ} (hA:A.length < 500000) (hr:A[k]? =some r) (hl:VH k l) (hK:K (RZ A d ((k+1:Nat):Int) (iX d l r))):
 Ev Tryz.prog Tryz.f41.ntmps hsB (Xm K Q) (RZ A d (k:Int) l):=by
 have hk:k < A.length:=(gH.1 hr).1;have hdec:decide ((k:Int) < (A.length:Int))=true:=decide_eq_true (by omega);show Ev _ _ (Code.seq (cA hsB) (Code.seq (cA (cB hsB)) (Code.seq (Code.block (match cA (cB (cB hsB))with | .block i _=>i |_=>0) hsI) (cB (cB (cB hsB)))))) _ _;rcases List.eq_nil_or_concat l with rfl |⟨pre,c,rfl⟩
 ·rw[ac0];rw[VF]at hK;refine jq ?_;refine fK (ops:=cO (cA hsB)) (σ2:=(⟨(13,bo true)::eT A d (k:Int) .nilsl,[],[]⟩:GSt).st fun _=>none) pY (by kernel_rfl) ai4 trivial ?_ ?_
  ·refine iw (fun p hp'=>?_) (fun _ _ h=>h) rfl (CF (ng (E:=[(13,bo true)]) (fun p hp' k hk=>by rw[aO]at hp';subst hp';simp[refs]at hk) (by simp[refs])) (fun p hp'=>by cases hp') (fun k o h=>by cases h));simp only[eT,aI,aP,or_false]at hp';rcases hp' with rfl |rfl |rfl |rfl |rfl |rfl
   ·refine⟨rfl,?_⟩;show bo (decide ((k:Int) < (A.length:Int)))=bo true;rw[hdec]
   all_goals exact⟨rfl,rfl⟩
  refine jq ?_;show Ev _ _ (Code.cond (.tmp 13) (cA (cA (cB hsB))) (cB (cA (cB hsB)))) _ _;refine Es true (fun _ _=>rfl) rfl (LB ?_);refine jq (LC ?_);refine EH (σ2:=(aan A d (k:Int)).st fun _=>none) ?_ (ai6 hr ?_)
  ·refine iw (fun p hp'=>?_) (fun _ _ h=>h) rfl VE;simp only[aan,eT,aI,aP,or_false]at hp';rcases hp' with rfl |rfl |rfl |rfl |rfl<;>exact⟨rfl,rfl⟩
  show Ev _ _ (Code.seq (cA hsJ) (cB hsJ)) _ _;refine jq (ahC (VD (by simp) (by simp) ?_));refine aar (by omega) (by simp) ?_;show K _;rw[<- Ah];exact hK
 ·rw[List.concat_eq_append]at hl hK ⊢;obtain⟨h1,h2⟩:=hl;simp only[aZ,bH,length_nil]at h1;have hc:=h2 c (by simp);rw[Ah];rw[VG]at hK;refine jq ?_;refine fK (ops:=cO (cA hsB)) (σ2:=(⟨(13,bo true)::eT A d (k:Int) (kJ pre),(RY A d (k:Int) pre c).obj,[]⟩:GSt).st (hsF pre)) pY (by kernel_rfl) ai4 trivial ?_ ?_
  ·refine iw (fun p hp'=>?_) (fun _ _ h=>h) rfl ?_
   ·simp only[eT,aI,aP,or_false]at hp';rcases hp' with rfl |rfl |rfl |rfl |rfl |rfl
    ·refine⟨rfl,?_⟩;show bo (decide ((k:Int) < (A.length:Int)))=bo true;rw[hdec]
    all_goals exact⟨rfl,rfl⟩
   ·have h:=rZ (A:=A) (d:=d) (i:=(k:Int)) (pre:=pre) (c:=c) (by omega);refine⟨fun t j hj=>?_,h.obj⟩;simp only[GSt.st,lk]at hj;by_cases e:13=t
    ·rw[aJ e]at hj;simp[refs]at hj
    ·rw[aD e]at hj;exact h.env t j hj
  refine jq ?_;show Ev _ _ (Code.cond (.tmp 13) (cA (cA (cB hsB))) (cB (cA (cB hsB)))) _ _;refine Es true (fun _ _=>rfl) rfl (LB ?_);refine jq (LC ?_);refine EH (σ2:=Q8 A d (k:Int) pre c) ?_ (ai5 hr (by omega) ?_)
  ·refine iw (fun p hp'=>?_) (fun _ _ h=>h) rfl (rZ (by omega));simp only[RY,eT,aI,aP,or_false]at hp';rcases hp' with rfl |rfl |rfl |rfl |rfl<;>exact⟨rfl,rfl⟩
  show Ev _ _ (Code.seq (cA hsJ) (cB hsJ)) _ _;refine jq (ai3 (by omega) ?_);by_cases e:c.x0=r.x0
  ·rw[aJ e]at hK ⊢;refine VD (by omega) (by omega) (aar (by omega) (by omega) ?_);show K _;rw[<- Ah];exact hK
  ·rw[aD e]at hK ⊢;refine VD (by simp;omega) (by simp) (aar (by omega) (by simp;omega) ?_);show K _;rw[<- Ah];exact hK
theorem ahD {A:List aj} {d i:Int} {l:List bZ} {E:List (Nat×AV)} (hE:∀ p∈E,p.1∉[1,5,10,11,12]∧p.2=bo false) (hl:l.length<=500000):
 ∃ L F,RZ A d i l=(⟨eT A d i (match l.getLast? with |none=> .nilsl |some _=> .own 1000 0 l.length),L,[]⟩:GSt).st F∧
   Gb.Told ((⟨E++eT A d i (match l.getLast? with |none=> .nilsl |some _=> .own 1000 0 l.length),L,[]⟩:GSt).st F) (RZ A d i l)∧
   Old ((⟨E++eT A d i (match l.getLast? with |none=> .nilsl |some _=> .own 1000 0 l.length),L,[]⟩:GSt).st F):=by
 have hlk:∀ (E:List (Nat×AV)),(∀ p∈E,p.1∉[1,5,10,11,12]∧p.2=bo false)->∀ (out:AV) (t:Nat),t∈[1,5,10,11,12]->lk (E++eT A d i out) t=lk (eT A d i out) t:=by
  intro E hE out t ht
  induction E with
  |nil=>rfl
  |cons p E ih=>
   simp only[List.cons_append,lk];rw[aD (fun e:p.1=t=>(hE p (by simp)).1 (by rw[e];exact ht))];exact ih fun q hq=>hE q (by simp[hq])
 have hen:∀ (out:AV),∀ p∈eT A d i out,p.1∈[1,5,10,11,12]∧(lk (eT A d i out) p.1).getD .undef=p.2:=by
  intro out p hp;simp only[eT,aI,aP,or_false]at hp;rcases hp with rfl |rfl |rfl |rfl |rfl<;>exact⟨by simp,rfl⟩
 have hEr:∀ p∈E,∀ k∈refs p.2,k < 1000000:=fun p hp k hk=>by rw[(hE p hp).2]at hk;simp[refs]at hk
 rcases List.eq_nil_or_concat l with rfl |⟨pre,c,rfl⟩
 ·refine⟨[],fun _=>none,rfl,?_,?_⟩
  ·refine iw (L2:=aan A d i) (fun p hp=>⟨rfl,?_⟩) (fun _ _ h=>h) rfl VE;obtain⟨h1,h2⟩:=hen .nilsl p hp;show (lk (E++eT A d i .nilsl) p.1).getD .undef=p.2;rw[hlk E hE _ _ h1];exact h2
  ·exact CF (ng hEr (by simp[refs])) (fun p hp'=>by cases hp') (fun k o h=>by cases h)
 ·rw[List.concat_eq_append]at hl ⊢;have hpl:(pre++[c]).length=pre.length+1:=by simp
  have hp:pre.length<=500000:=by omega
  refine⟨[(1000,some ⟨3,gM 2000 pre++[qb 1001 c]⟩),(1001,some ⟨2,gY c.column⟩)],hsF pre,?_,?_,?_⟩
  ·rw[Ah];simp only[List.getLast?_append,List.getLast?_singleton,Option.some_or,hpl];rfl
  ·rw[Ah];simp only[List.getLast?_append,List.getLast?_singleton,Option.some_or,hpl];refine iw (fun p hp=>⟨rfl,?_⟩) (fun _ _ h=>h) rfl (rZ (by omega));obtain⟨h1,h2⟩:=hen (kJ pre) p hp;show (lk (E++eT A d i (kJ pre)) p.1).getD .undef=p.2;rw[hlk E hE _ _ h1];exact h2
  ·simp only[List.getLast?_append,List.getLast?_singleton,Option.some_or,hpl];have h:=rZ (A:=A) (d:=d) (i:=i) (pre:=pre) (c:=c) (by omega);exact⟨(CF (O:=[]) (ok:=[]) (F:=fun _=>none) (ng hEr (by simp[refs])) (fun p hp'=>by cases hp') (fun k o h=>by cases h)).env,h.obj⟩
theorem ajZ {Q:Exit->St->Prop} {A:List aj} {d:Int} (hA:A.length < 500000) (hQ:Q (.exit 0) (RZ A d (A.length:Int) (A.foldl (iX d) []))):Ev Tryz.prog Tryz.f41.ntmps (.loop hsB) Q (RZ A d 0 []):=by
 refine ajk (fun n σ=>∃ k,k<=A.length∧n+k=A.length+1∧VH k ((A.take k).foldl (iX d) [])∧σ=RZ A d (k:Int) ((A.take k).foldl (iX d) [])) ?_ ?_ (A.length+1) ⟨0,by omega,by omega,⟨by simp,by simp⟩,rfl⟩
 ·rintro σ ⟨k,h1,h2,_⟩;omega
 ·rintro n σ ⟨k,h1,h2,h3,rfl⟩;rcases Nat.lt_or_ge k A.length with hk |hk
  ·have hr:A[k]? =some A[k]:=gG hk;have e:(A.take (k+1)).foldl (iX d) []=iX d ((A.take k).foldl (iX d) []) A[k]:=(by rw[List.take_add_one,hr,List.foldl_append];rfl);refine ai7 hA hr h3 ⟨k+1,by omega,by omega,?_,?_⟩
   ·rw[e];exact VI h3 d _
   ·rw[e]
  ·have hkA:k=A.length:=(by omega);subst hkA;rw[List.take_length]at h3 ⊢;generalize hl:A.foldl (iX d) []=l at hQ h3;obtain⟨L,F,e1,e2,e3⟩:=ahD (A:=A) (d:=d) (i:=(A.length:Int)) (l:=l) (E:=[(13,bo false)]) (fun p hp=>by rw[aO]at hp;subst hp;exact⟨by simp,rfl⟩) (by have:=h3.1;omega);have hsub:Ev Tryz.prog Tryz.f41.ntmps hsB (Xm (fun σ=>∃ k,k<=A.length∧n+k=A.length+1∧VH k ((A.take k).foldl (iX d) [])∧σ=RZ A d (k:Int) ((A.take k).foldl (iX d) [])) Q) ((⟨eT A d (A.length:Int) (match l.getLast? with |none=> .nilsl |some _=> .own 1000 0 l.length),L,[]⟩:GSt).st F):=by
    show Ev _ _ (Code.seq (cA hsB) (Code.seq (Code.cond (.tmp 13) (cA (cA (cB hsB))) (.exit 0)) (cB (cB hsB)))) _ _;refine jq ?_;refine fK (ops:=cO (cA hsB)) pY (by kernel_rfl) ai4 trivial (σ2:=(⟨[(13,bo false)]++eT A d (A.length:Int) (match l.getLast? with |none=> .nilsl |some _=> .own 1000 0 l.length),L,[]⟩:GSt).st F) ?_ ?_
    ·refine iw (fun p hp'=>?_) (fun _ _ h=>h) rfl e3;have hdec:decide ((A.length:Int) < (A.length:Int))=false:=(by simp);simp only[eT,List.cons_append,cu,aI,aP,or_false]at hp';rcases hp' with rfl |rfl |rfl |rfl |rfl |rfl
     ·refine⟨rfl,?_⟩;show bo (decide ((A.length:Int) < (A.length:Int)))=bo false;rw[hdec]
     all_goals exact⟨rfl,rfl⟩
    refine jq ?_;refine Es false (fun _ _=>rfl) rfl (EH e2 (af6 ?_));exact hQ
   rw[e1];exact hsub
theorem aln {E:List (Nat×AV)} {O:List (Nat×Option bA)} {F:Nat->Option bA}:Ap Tryz.prog (oz tab) (cO (cA hsC)) (fun _=>an0) F (List.range (cO (cA hsC)).size) ⟨E,O,[]⟩=some (⟨(4,.nilsl)::E,O,[(4,none)]⟩,[]):=by kernel_rfl
theorem alo {E:List (Nat×AV)} {O:List (Nat×Option bA)} {F:Nat->Option bA}:Ap Tryz.prog (oz tab) (cO (cA (cB hsC))) (fun _=>an0) F (List.range (cO (cA (cB hsC))).size) ⟨E,O,[]⟩=some (⟨(5,.nilsl)::E,O,[(5,none)]⟩,[]):=by kernel_rfl
noncomputable def alp (n:Int):Nat->Ann
 | 1=>⟨.num n,[],[],false⟩
 |_=>an0
theorem alq {A:List aj} {E:List (Nat×AV)} {O:List (Nat×Option bA)} {F:Nat->Option bA}:
 Ap Tryz.prog (oz tab) (cO (cA (cA (cB (cB hsC))))) (alp (A.length:Int)) F (List.range (cO (cA (cA (cB (cB hsC))))).size) ⟨(0,.t (.sl (A.map kg)))::E,O,[]⟩=
  some (⟨(12,tn 0)::(11,tn (A.length:Int))::(10,.t (.sl (A.map kg)))::(0,.t (.sl (A.map kg)))::E,O,[(12,none),(11,none),(10,none)]⟩,[(A.length:Int)=((A.map kg).length:Int)]):=by kernel_rfl
theorem ai8 {A:List aj} {d i:Int} {out:AV} {O:List (Nat×Option bA)} {F:Nat->Option bA}:
 Ap Tryz.prog (oz tab) (cO (cA (cB (cB (cB hsC))))) (fun _=>an0) F (List.range (cO (cA (cB (cB (cB hsC))))).size) ⟨eT A d i out,O,[]⟩=
  some (⟨(4,out)::(72,out)::eT A d i out,O,[(4,none),(72,none)]⟩,[]):=by kernel_rfl
theorem ai9 {get:Nat->Option bA}:∀ (l:List bZ) (k:Nat),1000 < k->(∀ j s,l[j]? =some s->get (k+j)=some ⟨2,gY s.column⟩)->ExpRows get (some 1000) [] (gM k l) (l.map Mr)
 |[],_,_,_=>trivial
 |s::l,k,hk,h=>by
  refine⟨⟨rfl,rfl,⟨by simp;omega,by simp[kept],⟨2,gY s.column⟩,s.column.map Dh,by simpa using h 0 s rfl,?_,by simp,rfl⟩,trivial⟩,ai9 l (k+1) (by omega) fun j s' hj=>?_⟩
  ·simp only[List.drop_zero];exact List.take_of_length_le (by simp[aW])
  ·have:=h (j+1) s' (by simpa using hj)
   rwa [show k+(j+1)=k+1+j by omega]at this
theorem ExpRows.app {get:Nat->Option bA} {fk:Option Nat} {q:List AV} {t:List Tree} (hq:ExpL get fk [] q t):∀ {R:List (List AV)} {S:List (List Tree)},ExpRows get fk [] R S->ExpRows get fk [] (R++[q]) (S++[t])
 |[],[],_=>⟨hq,trivial⟩
 |_::_,_::_,h=>⟨h.1,ExpRows.app hq h.2⟩
 |[],_::_,h=>h.elim
 |_::_,[],h=>h.elim
theorem akN {A:List aj} {d i:Int} {l:List bZ} (hl:l.length<=500000):
 Ev Tryz.prog Tryz.f41.ntmps (cB (cB (cB hsC))) (akf (oz tab) Tryz.f41.results.toList (.one (.fresh 3 (l.map Mr))) []) (RZ A d i l):=by
 show Ev _ _ (Code.seq (cA (cB (cB (cB hsC)))) Code.ret) _ _;refine jq ?_;rcases List.eq_nil_or_concat l with rfl |⟨pre,c,rfl⟩
 ·rw[ac0];refine fK (ops:=cO (cA (cB (cB (cB hsC))))) (σ2:=(⟨(4,.nilsl)::eT A d i .nilsl,[],[]⟩:GSt).st fun _=>none) pY (by kernel_rfl) ai8 trivial ?_ (ad1 ⟨[.nilsl],none,rfl,rfl,fun j p hj=>by simp at hj⟩);refine iw (fun p hp'=>?_) (fun _ _ h=>h) rfl (CF (ng (E:=[(4,.nilsl)]) (fun p hp' k hk=>by rw[aO]at hp';subst hp';simp[refs]at hk) (by simp[refs])) (fun p hp'=>by cases hp') (fun k o h=>by cases h));simp only[eT,aI,aP,or_false]at hp';rcases hp' with rfl |rfl |rfl |rfl |rfl |rfl<;>exact⟨rfl,rfl⟩
 ·rw[List.concat_eq_append]at hl ⊢;simp only[aZ,bH,length_nil]at hl;rw[Ah];refine fK (ops:=cO (cA (cB (cB (cB hsC))))) (σ2:=(⟨(4,kJ pre)::eT A d i (kJ pre),(RY A d i pre c).obj,[]⟩:GSt).st (hsF pre)) pY (by kernel_rfl) ai8 trivial ?_ (ad1 ⟨[kJ pre],some 1000,rfl,?_,fun j p hj=>by simp at hj⟩)
  ·refine iw (fun p hp'=>?_) (fun _ _ h=>h) rfl ?_
   ·simp only[eT,aI,aP,or_false]at hp';rcases hp' with rfl |rfl |rfl |rfl |rfl |rfl<;>exact⟨rfl,rfl⟩
   ·have h:=rZ (A:=A) (d:=d) (i:=i) (pre:=pre) (c:=c) (by omega);refine⟨fun t j hj=>?_,h.obj⟩;simp only[GSt.st,lk]at hj;by_cases e:4=t
    ·rw[aJ e]at hj;simp[refs]at hj;omega
    ·rw[aD e]at hj;exact h.env t j hj
  ·refine⟨rfl,by simp[kept],rfl,⟨3,gM 2000 pre++[qb 1001 c]⟩,rfl,rfl,?_,by simp⟩;rw[List.take_of_length_le (by simp[oP]),map_append];have hq:ExpL ((⟨(4,kJ pre)::eT A d i (kJ pre),(RY A d i pre c).obj,[]⟩:GSt).st (hsF pre)).obj (some 1000) [] (qb 1001 c) (Mr c):=
    ⟨rfl,rfl,⟨by simp,by simp[kept],⟨2,gY c.column⟩,c.column.map Dh,rfl,by rw[List.drop_zero];exact List.take_of_length_le (by simp[aW]),by simp,rfl⟩,trivial⟩
   refine ExpRows.app hq (ai9 pre 2000 (by omega) fun j s hj=>?_);simp only[GSt.st,RY,lk];rw[aD (by omega),aD (by omega)];show hsF pre (2000+j)=_;unfold hsF;rw[aJ (by omega),Nat.add_sub_cancel_left,hj];rfl
theorem Q9 (d:Int):∀ (A:List aj) (k:Nat) (l:List bZ),VH k l->VH (k+A.length) (A.foldl (iX d) l)
 |[],_,_,h=>h
 |r::A,k,l,h=>by
  have:=Q9 d A (k+1) _ (VI h d r);simp only[List.foldl_cons,bH]
  rwa [show k+(A.length+1)=k+1+A.length by omega]
theorem aja {A:List aj} {d:Int} (hA:A.length < 500000):
 Ev Tryz.prog Tryz.f41.ntmps hsC (akf (oz tab) Tryz.f41.results.toList (.one (.fresh 3 ((A.foldl (iX d) []).map Mr))) []) ((⟨[(0,.t (.sl (A.map kg))),(1,tn d)],[],[]⟩:GSt).st fun _=>none):=by
 have old:∀ E:List (Nat×AV),(∀ p∈E,∀ k∈refs p.2,k < 1000000)->Old ((⟨E,[],[]⟩:GSt).st fun _=>none):=fun E hE=>CF hE (fun p hp'=>by cases hp') (fun k o h=>by cases h);have hfit:=Q9 d A 0 [] ⟨by simp,by simp⟩;show Ev _ _ (Code.seq (cA hsC) (Code.seq (cA (cB hsC)) (Code.seq (Code.seq (cA (cA (cB (cB hsC)))) (Code.block 0 (Code.loop hsB))) (cB (cB (cB hsC)))))) _ _;refine jq ?_;refine fK (ops:=cO (cA hsC)) (σ2:=(⟨[(0,.t (.sl (A.map kg))),(1,tn d)],[],[]⟩:GSt).st fun _=>none) pY (by kernel_rfl) aln trivial ?_ ?_
 ·refine iw (fun p hp'=>?_) (fun _ _ h=>h) rfl (old _ fun p hp' k hk=>?_)
  ·simp only[aI,aP,or_false]at hp';rcases hp' with rfl |rfl<;>exact⟨rfl,rfl⟩
  ·simp only[aI,aP,or_false]at hp';rcases hp' with rfl |rfl<;>simp[refs]at hk
 refine jq ?_;refine fK (ops:=cO (cA (cB hsC))) (σ2:=(⟨[(0,.t (.sl (A.map kg))),(1,tn d),(5,.nilsl)],[],[]⟩:GSt).st fun _=>none) pY (by kernel_rfl) alo trivial ?_ ?_
 ·refine iw (fun p hp'=>?_) (fun _ _ h=>h) rfl (old _ fun p hp' k hk=>?_)
  ·simp only[aI,aP,or_false]at hp';rcases hp' with rfl |rfl |rfl<;>exact⟨rfl,rfl⟩
  ·simp only[aI,aP,or_false]at hp';rcases hp' with rfl |rfl |rfl<;>simp[refs]at hk
 refine jq (jq ?_);refine fK (ops:=cO (cA (cA (cB (cB hsC))))) (σ2:=(aan A d 0).st fun _=>none) pY (by kernel_rfl) alq (by simp[jl]) ?_ ?_
 ·refine iw (fun p hp'=>?_) (fun _ _ h=>h) rfl VE;simp only[aan,eT,aI,aP,or_false]at hp';rcases hp' with rfl |rfl |rfl |rfl |rfl<;>exact⟨rfl,rfl⟩
 refine LC (ajZ hA ?_);exact akN (by have:=hfit.1;omega)
theorem afo:aS 41 Vz:=by
 have hb:Tryz.f41.body=some hsC:=by kernel_rfl
 have hn : (Tryz.f41.name == "runtime.NumGoroutine") = false := by kernel_rfl
 refine cok (wK Tryz.func41 hb hn) (fun a r e=>?_) rfl;simp only[Vz,Hf]at e;split at e
 ·rename_i hA;injection e with e;subst e;exact Xq (args:=[.t (.sl (List.map kg a.1)),tn a.2.1]) (os:=[]) (os':=[]) pY Tryz.func41 hb hn (by show 2<=Tryz.f41.ntmps;decide +kernel) (fun k hk=>by simp[dG,refs]at hk) (by simp) rfl (aja hA)
 ·cases e
def ac1 (n:Nat):Sig xx:=⟨[.d (.sl (.st SI.ospan)),.d (.sl (.st SI.ospan))],[.fresh (.st SI.ospan)],fun a=>Ji n a.1 a.2.1,none⟩
def ac2:Hn SI:=(.s .z (.s .z (.s (.s .z (.b (.l ⟨[(5,(.o 1320)),(13,(.v af))],[(1320,.l (.st SI.ospan))],[1,11,12],[],1321,[(5,(.st SI.ospan))]⟩ 0 ⟨[(5,(.o 1320))],[(1320,.l (.st SI.ospan))],[],[],1321,[]⟩ (.s .z (.s .z (.s (.b (.s .z (.s .z (.b (.l ⟨[(5,(.o 1833)),(19,(.v af))],[(1833,.l (.st SI.ospan))],[1,7,11,12,13,17,18],[1513],1834,[]⟩ 2 ⟨[(5,(.o 1833))],[(1833,.l (.st SI.ospan))],[1,11,12,13],[],1834,[]⟩ (.s .z (.s .z (.s (.j ⟨[(5,(.o 1898))],[(1898,.l (.st SI.ospan))],[1,7,11,12,13,17,18,19],[1513],1899,[]⟩ .z) .z)))))))) .z)))))) .z)))
theorem ac3 (n:Nat):aS 75 (ac1 n) :=cq aH Tryz.func75 ac2 n
def VJ (n:Nat):Sig xx:=⟨[.d (.st SI.slab),.mref .bool,.mref af,.mref af,.mref af,.mref .bool,.mref (.sl (.st SI.ospan))],[.mr .bool,.mr af,.mr af,.mr af,.mr .bool,.mr (.sl (.st SI.ospan))],fun a=>EQ n a.1 a.2.1 a.2.2.1 a.2.2.2.1 a.2.2.2.2.1 a.2.2.2.2.2.1 a.2.2.2.2.2.2.1,none⟩
def VK:Hn SI:=(.s .z (.b (.s (.j ⟨[(14,(.v .bool))],[],[1,2,5,6,7],[0,1,2,3,4,5,1000],1064,[]⟩ .z) .z)))
theorem VL (n:Nat):aS 74 (VJ n) :=cq (aB (ac3 n) aH) Tryz.func74 VK n
def ac4 (n:Nat):Sig xx:=⟨[.d (.sl (.st SI.slab)),.d af,.d af],[.d (.sl (.st SI.ospan))],fun a=>Dm n a.1 a.2.1 a.2.2.1,none⟩
def ac5:Hn SI:=(.s .z (.s .z (.s .z (.s .z (.s (.s .z (.b (.l ⟨[(20,(.v af))],[(1000,.c 1 [[(.v af)]]),(1064,.c 1 [[(.v af)]]),(1384,.c 1 [[(.v af)]]),(1448,.c 1 [[(.v .bool)]]),(1512,.c 1 [[(.v .bool)]]),(1768,.c 1 [[(.v (.sl (.st SI.ospan)))]])],[4,5,7,8,10,11,18,19],[],2152,[]⟩ 0 ⟨[],[(1000,.c 1 [[(.v af)]]),(1064,.c 1 [[(.v af)]]),(1384,.c 1 [[(.v af)]]),(1448,.c 1 [[(.v .bool)]]),(1768,.c 1 [[(.v (.sl (.st SI.ospan)))]])],[4,5,7,8,10],[],2152,[]⟩ .z))) (.s (.s (.j ⟨[(35,(.v .bool))],[],[10],[1768],2152,[]⟩ .z) .z) .z))))))
theorem ac6 (n:Nat):aS 44 (ac4 n) :=cq (aB (VL n) aH) Tryz.func44 ac5 n
def P8 (n:Nat):Sig xx:=⟨[.d (.sl (.st SI.ospan)),.d (.sl (.st SI.ospan))],[.d .bool],fun a=>tC n a.1 a.2.1,none⟩
def P9:Hn SI:=(.s .z (.s .z (.s (.s .z (.b (.lx ⟨[(13,(.v af))],[],[0,1,12],[],1576,[]⟩ 0 ⟨[],[],[],[],1576,[]⟩ .z))) .z)))
theorem Qa (n:Nat):aS 45 (P8 n) :=cq aH Tryz.func45 P9 n
def ac7 (n:Nat):Sig xx:=⟨[.d (.sl ay),.d af],[.fresh ay,.d af],fun a=>Jj n a.1 a.2.1,none⟩
def ac8:Hn SI:=(.s .z (.s .z (.s (.f [3]) (.s .z (.s (.s .z (.b (.l ⟨[(7,(.o 1896)),(27,(.v af))],[(1896,.l af)],[1,6,25,26],[],1897,[(7,af)]⟩ 0 ⟨[(7,(.o 1896))],[(1896,.l af)],[1,6],[],1897,[]⟩ .z))) (.s .z (.s (.f [2]) (.s .z (.s .z (.s .z (.s (.s .z (.b (.l ⟨[(10,(.o 2473)),(11,(.v (.sl (.st SI.ospan)))),(12,(.v af)),(13,(.v af))],[(2473,.l ay)],[1,6,7],[],2474,[(10,ay)]⟩ 2 ⟨[(10,(.o 2473))],[(2473,.l ay)],[],[],2474,[]⟩ (.s .z (.s (.j ⟨[(10,(.o 2730)),(11,(.v (.sl (.st SI.ospan)))),(12,(.v af))],[(2730,.l ay)],[1,6,7,13],[],2731,[]⟩ (.b (.s .z (.s (.s (.j ⟨[(80,(.v .bool))],[],[1,6,7,10,11,12,13,14],[2473],3306,[]⟩ .z) (.s (.s (.s .z (.b (.l ⟨[(15,(.v af))],[(2473,.l ay)],[1,6,7,10,11,12,13],[],3434,[]⟩ 4 ⟨[],[(2473,.l ay)],[1,6,7,10,11,12,13],[],3434,[]⟩ .z))) .z) .z)) (.s .z (.s .z (.b (.l ⟨[(10,(.o 3818)),(101,(.v af))],[(3818,.l ay)],[1,6,7,11,12,13,99,100],[],3819,[]⟩ 6 ⟨[(10,(.o 3818))],[(3818,.l ay)],[1,6,7,11,12,13],[],3819,[]⟩ .z)))))))) .z))))) .z)))))))))))
theorem ac9 (n:Nat):aS 21 (ac7 n) :=cq (aB (afn n) (aB afo (aB (wE n) (aB (pM n) (aB (ac6 n) (aB (Qa n) aH)))))) Tryz.func21 ac8 n
def afp (n:Nat):Sig xx:=⟨[.d (.sl ay)],[.d ay,.d .bool],fun a=>MH n a.1,none⟩
def afq:Hn SI:=(.s .z (.s (.s .z (.b (.l ⟨[(3,(.v .bool)),(8,(.v af))],[(1000,.c 4 [[(.v af),(.v af),(.v af),(.v af)]])],[2,6,7],[],1320,[]⟩ 0 ⟨[(3,(.v .bool))],[(1000,.c 4 [[(.v af),(.v af),(.v af),(.v af)]])],[2],[],1320,[]⟩ (.s .z (.s .z (.s (.j ⟨[(3,(.v .bool))],[(1000,.c 4 [[(.v af),(.v af),(.v af),(.v af)]])],[2,6,7,8],[],1384,[]⟩ .z) .z)))))) .z))
theorem afr (n:Nat):aS 46 (afp n) :=cq (aB DY aH) Tryz.func46 afq n
def ada (n:Nat):Sig xx:=⟨[.d (.sl ay)],[.d ay,.d .bool],fun a=>Dn n a.1,none⟩
def adb:Hn SI:=(.s .z (.s (.s (.j ⟨[(11,(.v .bool))],[],[0,2],[1000],1128,[]⟩ .z) .z) .z))
theorem ade (n:Nat):aS 22 (ada n) :=cq (aB (Ag n) (aB (afr n) aH)) Tryz.func22 adb n
def NP (n:Nat):Sig xx:=⟨[.d (.st SI.Town),.d af,.d af],[.fresh dO],fun a=>ji n a.1 a.2.1 a.2.2.1,none⟩
def NQ:Hn SI:=(.s .z (.s .z (.s (.s .z (.b (.l ⟨[(7,(.o 1576)),(15,(.v af))],[(1576,.l dO)],[13,14],[1384],1577,[(7,dO)]⟩ 0 ⟨[(7,(.o 1576))],[(1576,.l dO)],[],[],1577,[]⟩ (.s .z (.s .z (.s (.j ⟨[(7,(.o 1641))],[(1641,.l dO)],[13,14,15],[1384],1642,[]⟩ .z) .z)))))) .z)))
theorem uF (n:Nat):aS 12 (NP n) :=cq (aB (Eb n) aH) Tryz.func12 NQ n
def IE (n:Nat):Sig xx:=⟨[.d (.sl dO),.clo [dO] .bool],[.d af],fun a=>rF n a.1 a.2.1,none⟩
def IG:Hn SI:=(.s .z (.s (.s .z (.b (.lx ⟨[(8,(.v af))],[],[0,1,7],[],1256,[]⟩ 0 ⟨[],[],[],[],1256,[]⟩ .z))) .z))
theorem II (n:Nat):aS 130 (IE n) :=cq aH Tryz.func130 IG n
def Ed (n:Nat):Sig xx:=⟨[.d (.sl dO),.clo [dO] .bool],[.d .bool],fun a=>jQ n a.1 a.2.1,none⟩
theorem Ee (n:Nat):aS 105 (Ed n) :=cq (aB (II n) aH) Tryz.func105 .z n
def VN:Sig xx:=⟨[.d af,.d af,.d af],[.d .bool],fun a=>kC a.1 a.2.1 a.2.2.1,none⟩
theorem IJ:aS 77 VN :=cq aH Tryz.func77 .z 0
def WN:Sig xx:=⟨[.d dO],[.d .bool],fun a=>Bo a.1,none⟩
theorem WO:aS 107 WN :=cq (aB IJ aH) Tryz.func107 .z 0
def Qb:Sig xx:=⟨[.d dO],[.d .bool],fun a=>tL a.1,none⟩
theorem Qc:aS 106 Qb :=cq (aB WO aH) Tryz.func106 .z 0
def WQ (n:Nat):Sig xx:=⟨[.d ay,.d (.sl dO)],[.d .bool],fun a=>Bp n a.1 a.2.1,none⟩
theorem WR (n:Nat):aS 76 (WQ n) :=cq (aB DY (aB (Ee n) (aB Qc aH))) Tryz.func76 .z n
def Qd:Sig xx:=⟨[.d af,.d af],[.d af],fun a=>tN a.1 a.2.1,none⟩
def Qe:Hn SI:=(.s .z (.s .z (.s (.j ⟨[(5,(.v af))],[],[],[],1320,[]⟩ .z) .z)))
theorem Qf:aS 108 Qd :=cq aH Tryz.func108 Qe 0
def aas (n:Nat):Sig xx:=⟨[.d ay,.d (.sl dO),.d af],[.d ay,.d .bool],fun a=>KF n a.1 a.2.1 a.2.2.1,none⟩
def aat:Hn SI:=(.s .z (.s .z (.s (.s .z (.b (.lx ⟨[(15,(.v af))],[(1256,.c 4 [[(.v af),(.v af),(.v af),(.v af)]])],[2,3,6,8,13,14],[1000,1064],1576,[]⟩ 0 ⟨[],[(1256,.c 4 [[(.v af),(.v af),(.v af),(.v af)]])],[6,8],[1064],1576,[]⟩ (.s .z (.s .z (.s (.jx ⟨[],[(1256,.c 4 [[(.v af),(.v af),(.v af),(.v af)]])],[2,3,6,8,13,14,15],[1000,1064],1640,[]⟩ .z) .z)))))) .z)))
theorem aau (n:Nat):aS 78 (aas n) :=cq (aB Qf aH) Tryz.func78 aat n
def aav (n:Nat):Sig xx:=⟨[.d ay,.d (.sl dO),.d af],[.fresh ay,.d af],fun a=>ER n a.1 a.2.1 a.2.2.1,none⟩
theorem aaw (n:Nat):aS 47 (aav n) :=cq (aB (WR n) (aB IJ (aB (aau n) aH))) Tryz.func47 .z n
def R3:Sig xx:=⟨[.d ay,.d ay],[.d ay,.d .bool],fun a=>qE a.1 a.2.1,none⟩
theorem FV:aS 48 R3 :=cq aH Tryz.func48 .z 0
def VO (n:Nat):Sig xx:=⟨[.d (.sl ay),.d ay],[.fresh ay],fun a=>yM n a.1 a.2.1,none⟩
def VP:Hn SI:=(.s .z (.s .z (.s (.s .z (.b (.l ⟨[(5,(.o 1384)),(14,(.v af))],[(1384,.l ay)],[3,12,13],[1000],1385,[(5,ay)]⟩ 0 ⟨[(5,(.o 1384))],[(1384,.l ay)],[],[],1385,[]⟩ (.s .z (.s .z (.s (.j ⟨[(5,(.o 1449))],[(1449,.l ay)],[3,12,13,14],[1000],1450,[]⟩ (.b (.s .z (.s .z (.s .z (.s .z (.b (.l ⟨[(5,(.o 4905)),(68,(.v af))],[(4905,.l ay)],[3,12,13,14,66,67],[1000,4713],4906,[]⟩ 2 ⟨[(5,(.o 4905))],[(4905,.l ay)],[3,12,13,14],[1000],4906,[]⟩ (.s .z (.s .z (.s (.j ⟨[(5,(.o 4970))],[(4970,.l ay)],[3,12,13,14,66,67,68],[1000,4713],4971,[]⟩ (.b (.s .z (.s (.j ⟨[(83,(.v .bool))],[],[3,5,11,12,13,14,66,67,68],[1000,4713,4905,5098],5226,[]⟩ .z) .z)))) .z))))))))))) .z)))))) .z)))
theorem VQ (n:Nat):aS 49 (VO n) :=cq (aB FV aH) Tryz.func49 VP n
def Lf:Sig xx:=⟨[.d ay,.d ay],[.d .bool],fun a=>lG a.1 a.2.1,none⟩
theorem Lg:aS 79 Lf :=cq aH Tryz.func79 .z 0
def vJ (n:Nat):Sig xx:=⟨[.mut ay,.d af,.d af,.clo [ay,ay] af],[.mu ay],fun a=>xN n a.1 a.2.1 a.2.2.1 a.2.2.2.1,none⟩
def vK:Hn SI:=(.s .z (.b (.l ⟨[(8,(.v af))],[(0,.l ay)],[0,1,2,3],[],1192,[]⟩ 0 ⟨[],[(0,.l ay)],[],[],1192,[]⟩ (.s .z (.s (.b (.s .z (.b (.l ⟨[(9,(.v af))],[(0,.l ay)],[0,1,2,3,8],[],1512,[]⟩ 2 ⟨[],[(0,.l ay)],[0,1,2,3,8],[],1512,[]⟩ (.s (.s (.j ⟨[(34,(.v .bool))],[],[0,1,2,3,8,9],[0],1512,[]⟩ .z) .z) .z))))) .z)))))
theorem vL (n:Nat):aS 144 (vJ n) :=cq aH Tryz.func144 vK n
def AP (n:Nat):Sig xx:=⟨[.mut ay,.d af,.d af,.d af,.clo [ay,ay] af],[.mu ay],fun a=>Dp n a.1 a.2.1 a.2.2.1 a.2.2.2.1 a.2.2.2.2.1,none⟩
def AQ:Hn SI:=(.s .z (.b (.lx ⟨[(10,(.v af))],[(0,.l ay)],[0,2,3,4],[],1128,[]⟩ 0 ⟨[],[(0,.l ay)],[],[],1128,[]⟩ (.b (.s .z (.s .z (.s (.j ⟨[(11,(.v af))],[],[0,2,3,4,10],[0],1576,[]⟩ (.s (.j ⟨[(40,(.v .bool))],[],[0,2,3,4,10,11],[0],1576,[]⟩ .z) .z)) .z)))))))
theorem AR (n:Nat):aS 167 (AP n) :=cq aH Tryz.func167 AQ n
def AU (n:Nat):Sig xx:=⟨[.mut ay,.d af,.d af,.clo [ay,ay] af],[.mu ay],fun a=>Dq n a.1 a.2.1 a.2.2.1 a.2.2.2.1,none⟩
def AX:Hn SI:=(.s .z (.s .z (.s .z (.s (.s .z (.b (.l ⟨[(11,(.v af))],[(0,.l ay)],[0,3,8,9,10],[],1704,[]⟩ 0 ⟨[],[(0,.l ay)],[0,3,8,9,10],[],1704,[]⟩ .z))) (.s .z (.b (.l ⟨[(12,(.v af))],[(0,.l ay)],[0,3,8,9],[],1896,[]⟩ 2 ⟨[],[(0,.l ay)],[],[],1896,[]⟩ .z)))))))
theorem AY (n:Nat):aS 145 (AU n) :=cq (aB (AR n) aH) Tryz.func145 AX n
def vM (n:Nat):Sig xx:=⟨[.mut ay,.d af,.d af,.clo [ay,ay] af],[.mu ay],fun a=>xO n a.1 a.2.1 a.2.2.1 a.2.2.2.1,none⟩
def vN:Hn SI:=(.s .z (.s .z (.s (.s .z (.s .z (.s .z (.b (.l ⟨[(11,(.v af))],[(0,.l ay),(1512,.c 1 [[(.v (.int .u64))]])],[0,1,8,9,10],[],2280,[]⟩ 0 ⟨[],[(0,.l ay)],[],[],2280,[]⟩ (.s .z (.s (.b (.s .z (.s (.j ⟨[(12,(.v af))],[],[0,1,8,9,10,11],[0,1512],3176,[]⟩ .z) .z))) .z))))))) .z)))
theorem vO (n:Nat):aS 146 (vM n) :=cq (aB qj (aB rJ aH)) Tryz.func146 vN n
def Ef:Sig xx:=⟨[.d (.sl ay),.d af,.d af,.mref af,.clo [ay,ay] af],[.d af,.d af,.mr af],fun a=>F3 a.1 a.2.1 a.2.2.1 a.2.2.2.1 a.2.2.2.2.1,none⟩
theorem Eg:aS 179 Ef :=cq aH Tryz.func179 .z 0
def Eh:Sig xx:=⟨[.d (.sl ay),.d af,.d af,.d af,.mref af,.clo [ay,ay] af],[.d af,.mr af],fun a=>F4 a.1 a.2.1 a.2.2.1 a.2.2.2.1 a.2.2.2.2.1 a.2.2.2.2.2.1,none⟩
theorem sj:aS 169 Eh :=cq (aB Eg aH) Tryz.func169 .z 0
def uN:Sig xx:=⟨[.d (.sl ay),.d af,.mref af,.clo [ay,ay] af],[.d af,.mr af],fun a=>wR a.1 a.2.1 a.2.2.1 a.2.2.2.1,none⟩
theorem uO:aS 168 uN :=cq (aB sj aH) Tryz.func168 .z 0
def xZ:Sig xx:=⟨[.d (.sl ay),.d af,.d af,.clo [ay,ay] af],[.d af,.d af],fun a=>zN a.1 a.2.1 a.2.2.1 a.2.2.2.1,none⟩
def yc:Hn SI:=(.s .z (.s .z (.s .z (.s .z (.s .z (.s .z (.s (.j ⟨[(13,(.v af))],[(1384,.c 1 [[(.v af)]])],[11],[],2600,[]⟩ (.s .z (.s (.s (.j ⟨[(12,(.v af)),(13,(.v af)),(14,(.v af))],[(1384,.c 1 [[(.v af)]])],[0,3,11],[],2728,[]⟩ .z) .z) .z))) .z)))))))
theorem yg:aS 147 xZ :=cq (aB uO (aB sj aH)) Tryz.func147 yc 0
def xw (n:Nat):Sig xx:=⟨[.mut ay,.d af,.d af,.clo [ay,ay] af],[.mu ay],fun a=>yN n a.1 a.2.1 a.2.2.1 a.2.2.2.1,none⟩
def xA:Hn SI:=(.s .z (.s .z (.b (.l ⟨[(8,(.v af)),(9,(.v af))],[(0,.l ay)],[0],[],1320,[]⟩ 0 ⟨[],[(0,.l ay)],[],[],1320,[]⟩ .z))))
theorem xB (n:Nat):aS 148 (xw n) :=cq aH Tryz.func148 xA n
def pV (n:Nat):Sig xx:=⟨[.mut ay,.d af,.d af,.clo [ay,ay] af],[.d .bool,.mu ay],fun a=>qF n a.1 a.2.1 a.2.2.1 a.2.2.2.1,none⟩
def pW:Hn SI:=(.s .z (.s .z (.s (.s .z (.b (.lx ⟨[(9,(.v af)),(10,(.v af))],[(0,.l ay)],[0,1,2,3],[],1320,[]⟩ 0 ⟨[],[(0,.l ay)],[],[],1320,[]⟩ (.s .z (.s (.jx ⟨[(9,(.v af))],[(0,.l ay)],[0,1,2,3,10],[],1448,[]⟩ (.b (.s (.b (.l ⟨[(9,(.v af))],[],[0,1,2,3,10],[0],1448,[]⟩ 2 ⟨[(9,(.v af))],[],[0,1,2,3,10],[0],1448,[]⟩ (.s (.s (.j ⟨[(36,(.v .bool))],[],[0,1,2,3,9,10],[0],1448,[]⟩ .z) .z) .z))) (.s .z (.s .z (.s .z (.s (.j ⟨[],[(0,.l ay)],[0,1,2,3,9,10],[],3048,[]⟩ (.s .z (.s (.s .z (.b (.l ⟨[(11,(.v af))],[(0,.l ay)],[0,1,2,3,9,10],[],3496,[]⟩ 4 ⟨[],[(0,.l ay)],[0,1,2,3,9,10],[],3496,[]⟩ .z))) .z))) (.s .z (.s (.s .z (.b (.l ⟨[(12,(.v af))],[(0,.l ay)],[0,1,2,3,9,10],[],3496,[]⟩ 6 ⟨[],[(0,.l ay)],[0,1,2,3,9,10],[],3496,[]⟩ .z))) .z))))))))) .z))))) .z)))
theorem pX (n:Nat):aS 149 (pV n) :=cq aH Tryz.func149 pW n
def uP (n:Nat):Sig xx:=⟨[.mut ay,.d af,.d af,.d af,.clo [ay,ay] af],[.d af,.mu ay],fun a=>wS n a.1 a.2.1 a.2.2.1 a.2.2.2.1 a.2.2.2.2.1,none⟩
def uQ:Hn SI:=(.s .z (.s .z (.s .z (.s (.b (.l ⟨[(11,(.v af)),(12,(.v af))],[(0,.l ay)],[0,1,4],[],2472,[]⟩ 0 ⟨[(11,(.v af))],[(0,.l ay)],[],[],2472,[]⟩ (.b (.s (.b (.l ⟨[(11,(.v af))],[],[0,1,4,12],[0],2472,[]⟩ 2 ⟨[(11,(.v af))],[],[0,1,4,12],[0],2472,[]⟩ (.s (.s (.j ⟨[(47,(.v .bool))],[],[0,1,4,11,12],[0],2472,[]⟩ .z) .z) .z))) (.s (.b (.l ⟨[(12,(.v af))],[],[0,1,4,11],[0],2472,[]⟩ 4 ⟨[(12,(.v af))],[],[0,1,4,11],[0],2472,[]⟩ (.s (.s (.j ⟨[(65,(.v .bool))],[],[0,1,4,11,12],[0],2472,[]⟩ .z) .z) .z))) .z))))) .z))))
theorem uR (n:Nat):aS 150 (uP n) :=cq aH Tryz.func150 uQ n
def Ai (n:Nat):Sig xx:=⟨[.mut ay,.d af,.d af,.d af,.clo [ay,ay] af],[.d af,.d .bool,.mu ay],fun a=>Cf n a.1 a.2.1 a.2.2.1 a.2.2.2.1 a.2.2.2.2.1,none⟩
def Aj:Hn SI:=(.s .z (.s .z (.s .z (.s (.b (.l ⟨[(12,(.v af))],[],[0,1,4,13],[0],2536,[]⟩ 0 ⟨[(12,(.v af))],[],[0,1,4,13],[0],2536,[]⟩ (.s (.s (.j ⟨[(47,(.v .bool))],[],[0,1,4,12,13],[0],2536,[]⟩ .z) .z) .z))) (.s (.b (.l ⟨[(13,(.v af))],[],[0,1,4,12],[0],2536,[]⟩ 2 ⟨[(13,(.v af))],[],[0,1,4,12],[0],2536,[]⟩ (.s (.s (.j ⟨[(66,(.v .bool))],[],[0,1,4,12,13],[0],2536,[]⟩ .z) .z) .z))) (.s .z (.s .z (.s .z (.s .z (.s (.b (.l ⟨[(12,(.v af)),(13,(.v af))],[(0,.l ay)],[0,1,4],[],4136,[]⟩ 4 ⟨[(13,(.v af))],[(0,.l ay)],[0,1],[],4136,[]⟩ (.b (.s (.b (.l ⟨[(12,(.v af))],[],[0,1,4,13],[0],4136,[]⟩ 6 ⟨[(12,(.v af))],[],[0,1,4,13],[0],4136,[]⟩ (.s (.s (.j ⟨[(120,(.v .bool))],[],[0,1,4,12,13],[0],4136,[]⟩ .z) .z) .z))) (.s (.b (.l ⟨[(13,(.v af))],[],[0,1,4,12],[0],4136,[]⟩ 8 ⟨[(13,(.v af))],[],[0,1,4,12],[0],4136,[]⟩ (.s (.s (.j ⟨[(139,(.v .bool))],[],[0,1,4,12,13],[0],4136,[]⟩ .z) .z) .z))) .z))))) .z))))))))))
theorem Ak (n:Nat):aS 151 (Ai n) :=cq aH Tryz.func151 Aj n
def CG:Hn SI:=(.s .z (.s .z (.b (.lx ⟨[(1,(.v af)),(2,(.v af)),(3,(.v af)),(10,(.v .bool)),(11,(.v .bool))],[(0,.l ay)],[0,4],[],1128,[]⟩ 999999 ⟨[],[],[],[],1128,[]⟩ (.b (.s .z (.s .z (.s .z (.s (.j ⟨[(3,(.v af))],[(0,.l ay)],[0,1,2,4,10,11,12],[],1640,[]⟩ .z) (.s .z (.s (.j ⟨[(13,(.v af)),(14,(.v af))],[(0,.l ay)],[0,1,2,3,4,10,11,12],[],2280,[]⟩ .z) (.s (.jx ⟨[],[(0,.l ay)],[0,1,2,3,4,10,11,12,13],[],2280,[]⟩ (.s (.j ⟨[(75,(.v .bool))],[],[0,1,2,3,4,10,11,12,13],[0],2280,[]⟩ .z) .z)) (.s (.s (.j ⟨[(97,(.v .bool))],[],[0,1,2,3,4,10,11,12,13],[0],2280,[]⟩ .z) .z) .z)))))))))))))
theorem AZ (n:Nat) (rc:((List aj))->(Int)->(Int)->(Int)->((aj×aj×Unit)->Option Int)->Option (List aj)) (hr:aS 131 (jV rc)):aS 131 (jV (iV n rc)) :=cq (aB (vL n) (aB (AY n) (aB (vO n) (aB yg (aB (xB n) (aB (pX n) (aB (uR n) (aB (Ak n) (aB hr aH))))))))) Tryz.func131 CG n
theorem qc (n:Nat):∀ m,aS 131 (jV (eO n m))
 | 0=>cok (wK Tryz.func131 (by kernel_rfl:Tryz.f131.body=some (Tryz.f131.body.getD .skip)) (by kernel_rfl)) (fun _ _ h=>(by cases h)) rfl
 |m+1=>AZ n _ (qc n m)
def CJ (n:Nat):Sig xx:=⟨[.mut ay,.d af,.d af,.d af,.clo [ay,ay] af],[.mu ay],fun a=>mO n a.1 a.2.1 a.2.2.1 a.2.2.2.1 a.2.2.2.2.1,none⟩
theorem CK (n:Nat):aS 131 (CJ n):=qc n n
def Lh (n:Nat):Sig xx:=⟨[.mut ay,.clo [ay,ay] af],[.mu ay],fun a=>pE n a.1 a.2.1,none⟩
theorem Li (n:Nat):aS 109 (Lh n) :=cq (aB Fx (aB (CK n) aH)) Tryz.func109 .z n
def IK:Sig xx:=⟨[.d ay,.d ay],[.d af],fun a=>mQ a.1 a.2.1,none⟩
theorem IL:aS 110 IK :=cq (aB og aH) Tryz.func110 .z 0
def NR (n:Nat):Sig xx:=⟨[.d (.sl ay),.d af,.d af],[.fresh ay],fun a=>q9 n a.1 a.2.1 a.2.2.1,none⟩
def NS:Hn SI:=(.s .z (.s .z (.s (.s .z (.b (.l ⟨[(7,(.o 1320)),(15,(.v af))],[(1320,.l ay)],[1,2,13,14],[],1321,[(7,ay)]⟩ 0 ⟨[(7,(.o 1320))],[(1320,.l ay)],[],[],1321,[]⟩ (.s .z (.s .z (.s (.j ⟨[(7,(.o 1385))],[(1385,.l ay)],[1,2,13,14,15],[],1386,[]⟩ (.b (.s .z (.s (.j ⟨[(28,(.v .bool))],[],[1,2,7,9,13,14,15],[1320,1513],1641,[]⟩ .z) .z)))) .z)))))) (.s .z (.s .z (.s (.s .z (.b (.l ⟨[(10,(.v af)),(44,(.v af))],[(1320,.l ay)],[7,42,43],[],1705,[]⟩ 2 ⟨[(10,(.v af))],[(1320,.l ay)],[7],[],1705,[]⟩ (.s .z (.s .z (.s (.j ⟨[(10,(.v af))],[(1320,.l ay)],[7,42,43,44],[],1769,[]⟩ (.b (.s .z (.s (.s (.j ⟨[(60,(.v .bool))],[],[7,10,12,42,43,44],[1320,1897],2025,[]⟩ .z) .z) .z)))) .z)))))) .z))))))
theorem NT (n:Nat):aS 80 (NR n) :=cq (aB (Li n) (aB IL aH)) Tryz.func80 NS n
def CO (n:Nat):Sig xx:=⟨[.d (.sl ay),.d (.sl ay),.clo [ay,ay] .bool],[.d .bool],fun a=>jw n a.1 a.2.1 a.2.2.1,none⟩
def CP:Hn SI:=(.s .z (.s .z (.s (.s .z (.b (.lx ⟨[(17,(.v af))],[],[1,2,15,16],[],1576,[]⟩ 0 ⟨[],[],[],[],1576,[]⟩ .z))) .z)))
theorem CQ (n:Nat):aS 81 (CO n) :=cq aH Tryz.func81 CP n
def R4 (n:Nat):Sig xx:=⟨[.d (.sl ay)],[.fresh ay],fun a=>vX n a.1,none⟩
def R5:Hn SI:=(.s .z (.s .z (.s (.s .z (.b (.l ⟨[(3,(.o 1320)),(14,(.v af))],[(1320,.l af)],[0,12,13],[],1321,[(3,af)]⟩ 0 ⟨[(3,(.o 1320))],[(1320,.l af)],[0],[],1321,[]⟩ .z))) (.s .z (.s .z (.s .z (.s .z (.s (.s .z (.b (.l ⟨[(6,(.o 2153)),(7,(.o 2154)),(34,(.v af))],[(2153,.l ay),(2154,.l ay)],[0,3,8,33],[1320],2155,[(6,ay),(7,ay)]⟩ 2 ⟨[(6,(.o 2153))],[(2153,.l ay)],[],[],2154,[]⟩ (.s .z (.s .z (.s (.b (.s .z (.s .z (.s (.j ⟨[(6,(.o 3115))],[(3115,.l ay)],[0,3,8,10,33,34],[1320,2987],3116,[]⟩ (.s (.j ⟨[(56,(.v .bool))],[],[0,3,6,8,9,10,33,34],[1320,2153,2987],3115,[]⟩ .z) (.s (.s .z (.b (.l ⟨[(11,(.v af))],[(2153,.l ay)],[0,3,6,8,9,10,33,34],[1320,2987],3499,[]⟩ 4 ⟨[],[(2153,.l ay)],[0,3,6,8,10,33,34],[1320,2987],3499,[]⟩ .z))) .z))) .z)))) .z)))))) .z))))))))
theorem R6 (n:Nat):aS 50 (R4 n) :=cq (aB (wE n) (aB (pM n) (aB (NT n) (aB (CQ n) (aB Lg aH))))) Tryz.func50 R5 n
def R7 (n:Nat):Sig xx:=⟨[.d (.sl ay),.d ay,.d (.sl dO),.d (.sl (.st SI.Easement)),.d af],[.fresh ay,.d af],fun a=>nH n a.1 a.2.1 a.2.2.1 a.2.2.2.1 a.2.2.2.2.1,none⟩
def R8:Hn SI:=(.s .z (.s .z (.s .z (.s .z (.s (.s .z (.b (.l ⟨[(14,(.o 2216)),(37,(.v af))],[(2216,.l ay)],[3,4,12,35,36],[1576],2217,[(14,ay)]⟩ 0 ⟨[(14,(.o 2216))],[(2216,.l ay)],[3,4],[],2217,[]⟩ (.s .z (.s .z (.s (.b (.s .z (.s .z (.b (.l ⟨[(14,(.o 2729)),(43,(.v af))],[(2729,.l ay)],[3,4,12,16,35,36,37,41,42],[1576,2409],2730,[]⟩ 2 ⟨[(14,(.o 2729))],[(2729,.l ay)],[3,4,12,35,36,37],[1576],2730,[]⟩ (.s .z (.s .z (.s (.j ⟨[(14,(.o 2794))],[(2794,.l ay)],[3,4,12,16,35,36,37,41,42,43],[1576,2409],2795,[]⟩ .z) .z)))))))) .z)))))) (.s (.s .z (.b (.l ⟨[(14,(.o 2409)),(62,(.v af))],[(2409,.l ay)],[4,60,61],[],2410,[]⟩ 4 ⟨[(14,(.o 2409))],[(2409,.l ay)],[],[],2410,[]⟩ (.s .z (.s .z (.s (.j ⟨[(14,(.o 2474))],[(2474,.l ay)],[4,60,61,62],[],2475,[]⟩ (.b (.s .z (.s .z (.s .z (.b (.l ⟨[(14,(.o 3242)),(73,(.v af))],[(3242,.l ay)],[4,60,61,62,71,72],[],3243,[]⟩ 6 ⟨[(14,(.o 3242))],[(3242,.l ay)],[4,60,61,62],[],3243,[]⟩ .z))))))) .z)))))) .z))))))
theorem R9 (n:Nat):aS 23 (R7 n) :=cq (aB (aaw n) (aB FV (aB (VQ n) (aB (R6 n) aH)))) Tryz.func23 R8 n
def Qg (n:Nat):Sig xx:=⟨[.d (.st SI.Town),.d af,.d af,.d af],[.fresh (.sl ay),.d af],fun a=>envelope_Rooms n a.1 a.2.1 a.2.2.1 a.2.2.2.1,none⟩
def Qh:Hn SI:=(.s .z (.s .z (.s (.b (.s .z (.s .z (.s (.j ⟨[(36,(.v .bool))],[],[1,2,3,4,10],[1000,1640],2024,[]⟩ .z) .z)))) (.s .z (.s (.jx ⟨[(12,(.o 2088))],[(2088,.l ay)],[1,2,3,4,10],[1000,1640],2089,[(12,ay)]⟩ .z) (.s .z (.s (.s .z (.b (.l ⟨[(16,(.o 2409)),(69,(.v af))],[(2409,.l (.st SI.Easement))],[1,2,3,4,10,12,67,68],[1000,1640,2088],2410,[(16,(.st SI.Easement))]⟩ 1 ⟨[(16,(.o 2409))],[(2409,.l (.st SI.Easement))],[1,2,3,4,10,12],[1000,1640,2088],2410,[]⟩ (.s .z (.s .z (.s (.j ⟨[(16,(.o 2474))],[(2474,.l (.st SI.Easement))],[1,2,3,4,10,12,67,68,69],[1000,1640,2088],2475,[]⟩ (.b (.s .z (.s (.j ⟨[(81,(.v .bool))],[],[1,2,3,4,10,12,16,18,67,68,69],[1000,1640,2088,2409,2602],2730,[]⟩ .z) .z)))) .z)))))) (.s .z (.s .z (.s .z (.s (.s .z (.b (.lx ⟨[(22,(.o 3498)),(98,(.v af))],[(3498,.l (.sl ay))],[12,16,19,21,97],[2088,2409,2794,3178],3499,[(22,(.sl ay))]⟩ 3 ⟨[(22,(.o 3498))],[(3498,.l (.sl ay))],[],[],3499,[]⟩ .z))) .z)))))))))))
theorem Ei (n:Nat):aS 7 (Qg n) :=cq (aB (YC n) (aB (Ag n) (aB (qp n) (aB (ac9 n) (aB (ade n) (aB (uF n) (aB (R9 n) aH))))))) Tryz.func7 Qh n
def afs (n:Nat):Sig xx:=⟨[.d (.sl ay),.d (.sl ay)],[.d .bool],fun a=>lS n a.1 a.2.1,none⟩
def aft:Hn SI:=(.s .z (.s .z (.s (.s .z (.b (.lx ⟨[(5,(.v af))],[],[0,1],[],1448,[]⟩ 0 ⟨[],[],[],[],1448,[]⟩ .z))) .z)))
theorem Al (n:Nat):aS 18 (afs n) :=cq aH Tryz.func18 aft n
def IQ (n:Nat):Sig xx:=⟨[.d (.sl (.sl ay)),.clo [(.sl ay)] .bool],[.d af],fun a=>rG n a.1 a.2.1,none⟩
def IU:Hn SI:=(.s .z (.s (.s .z (.b (.lx ⟨[(8,(.v af))],[],[0,1,7],[],1256,[]⟩ 0 ⟨[],[],[],[],1256,[]⟩ .z))) .z))
theorem IV (n:Nat):aS 66 (IQ n) :=cq aH Tryz.func66 IU n
def Ej (n:Nat):Sig xx:=⟨[.d (.sl (.sl ay)),.clo [(.sl ay)] .bool],[.d .bool],fun a=>jR n a.1 a.2.1,none⟩
theorem El (n:Nat):aS 34 (Ej n) :=cq (aB (IV n) aH) Tryz.func34 .z n
def JP (n:Nat):Sig xx:=⟨[.d (.sl ay)],[.d .bool],fun a=>jg n a.1,none⟩
theorem JQ (n:Nat):aS 35 (JP n) :=cq (aB (Ag n) aH) Tryz.func35 .z n
def Qi (n:Nat):Sig xx:=⟨[.d (.sl (.sl ay))],[.fresh (.st SI.Slab),.d af],fun a=>fO n a.1,none⟩
def Qj:Hn SI:=(.s .z (.s (.s (.j ⟨[(14,(.v .bool))],[],[0],[],1128,[]⟩ .z) .z) (.s .z (.s (.s .z (.b (.l ⟨[(4,(.o 1384)),(17,(.v af))],[(1384,.l (.st SI.Slab))],[15,16],[],1385,[(4,(.st SI.Slab))]⟩ 0 ⟨[(4,(.o 1384))],[(1384,.l (.st SI.Slab))],[],[],1385,[]⟩ (.s .z (.s .z (.s (.j ⟨[(4,(.o 1449))],[(1449,.l (.st SI.Slab))],[15,16,17],[],1450,[]⟩ (.b (.s .z (.s .z (.b (.s .z (.s .z (.s (.j ⟨[(39,(.v .bool))],[],[4,5,6,7,15,16,17],[1384],2217,[]⟩ .z) .z)))))))) .z)))))) .z))))
theorem Em (n:Nat):aS 14 (Qi n) :=cq (aB (El n) (aB (JQ n) (aB (FU n) (aB FR aH)))) Tryz.func14 Qj n
def adf (n:Nat):Sig xx:=⟨[],[.d .bool],fun _=>Jk n,none⟩
def adg:Hn SI:=(.s .z (.s .z (.s (.f [5]) (.s .z (.s .z (.s (.j ⟨[(5,(.v .bool))],[],[1,2,3],[1128],2216,[]⟩ .z) .z))))))
theorem adh (n:Nat):aS 4 (adf n) :=cq (aB WG (aB (Ei n) (aB (Al n) (aB (Em n) (aB (qp n) (aB (uF n) aH)))))) Tryz.func4 adg n
def ahE (n:Nat):Sig xx:=⟨[.d (.st SI.Town)],[.d .bool],fun a=>Sw n a.1,none⟩
def ahF:Hn SI:=(.s .z (.s .z (.s (.s (.j ⟨[(48,(.v .bool))],[],[1,3],[1000,1256],1384,[]⟩ .z) .z) (.s (.s .z (.b (.lx ⟨[(4,(.v af))],[],[1,3],[1000,1256],1448,[]⟩ 0 ⟨[],[],[1],[1000],1448,[]⟩ (.s .z (.s (.b (.s (.j ⟨[(73,(.v .bool))],[],[1,3,4],[1000,1256],1768,[]⟩ .z) .z)) .z))))) (.s (.s .z (.b (.lx ⟨[(5,(.v af))],[],[1],[1000],1512,[]⟩ 2 ⟨[],[],[1],[1000],1512,[]⟩ .z))) (.s (.s .z (.b (.lx ⟨[(6,(.v af))],[],[1],[1000],1576,[]⟩ 4 ⟨[],[],[],[],1576,[]⟩ .z))) .z))))))
theorem ahG (n:Nat):aS 5 (ahE n) :=cq aH Tryz.func5 ahF n
def VU (n:Nat):Sig xx:=⟨[.d (.sl (.sl ay)),.d af],[.d .bool],fun a=>yO n a.1 a.2.1,none⟩
def VW:Hn SI:=(.s .z (.s (.s .z (.b (.lx ⟨[(5,(.v af))],[],[0,1],[],1128,[]⟩ 0 ⟨[],[],[0,1],[],1128,[]⟩ .z))) .z))
theorem VX (n:Nat):aS 6 (VU n) :=cq aH Tryz.func6 VW n
def afu:Sig xx:=⟨[.d (.st SI.Lot)],[.d (.st SI.Lot)],fun a=>MI a.1,none⟩
theorem afv:aS 51 afu :=cq aH Tryz.func51 .z 0
def afw (n:Nat):Sig xx:=⟨[.d (.sl (.st SI.Lot)),.d af],[.d (.st SI.Lot),.d .bool],fun a=>zO n a.1 a.2.1,none⟩
def afx:Hn SI:=(.s .z (.s (.s .z (.b (.lx ⟨[(6,(.v af))],[],[0,1,4],[1000],1192,[]⟩ 0 ⟨[],[],[4],[1000],1192,[]⟩ .z))) .z))
theorem Lj (n:Nat):aS 24 (afw n) :=cq (aB afv aH) Tryz.func24 afx n
def Sb:Sig xx:=⟨[.d ay],[.d .bool],fun a=>qG a.1,none⟩
theorem FW:aS 82 Sb :=cq aH Tryz.func82 .z 0
def aax (n:Nat):Sig xx:=⟨[.d (.sl af)],[.fresh af],fun a=>ES n a.1,none⟩
def aay:Hn SI:=(.s .z (.s .z (.s (.s .z (.b (.l ⟨[(3,(.o 1192)),(4,(.v af))],[(1192,.l af)],[0],[],1193,[(3,af)]⟩ 0 ⟨[(3,(.o 1192))],[(1192,.l af)],[],[],1193,[]⟩ (.s .z (.s (.j ⟨[(3,(.o 1449))],[(1449,.l af)],[0,4],[],1450,[]⟩ (.b (.s .z (.s (.b (.l ⟨[(5,(.v af))],[],[0,3,4],[1192],1641,[]⟩ 2 ⟨[(5,(.v af))],[],[0,3,4],[1192],1641,[]⟩ (.s (.s (.j ⟨[(28,(.v .bool))],[],[0,3,4,5],[1192],1641,[]⟩ .z) .z) .z))) (.s (.s (.j ⟨[(44,(.v .bool))],[],[0,3,4,5],[1192],1641,[]⟩ .z) .z) (.s .z (.s (.s .z (.b (.l ⟨[(6,(.v af))],[(1769,.l af)],[0,3,4,5],[],2153,[]⟩ 4 ⟨[],[(1769,.l af)],[0,3,4,5],[],2153,[]⟩ .z))) .z))))))) .z))))) .z)))
theorem aaz (n:Nat):aS 86 (aax n) :=cq aH Tryz.func86 aay n
def adi (n:Nat):Sig xx:=⟨[.d (.sl ay),.d (.sl ay)],[.fresh af],fun a=>Jl n a.1 a.2.1,none⟩
def adk:Hn SI:=(.s .z (.s .z (.s (.s .z (.b (.l ⟨[(5,(.o 1192)),(6,(.v af))],[(1192,.l af)],[0,1],[],1193,[(5,af)]⟩ 0 ⟨[(5,(.o 1192))],[(1192,.l af)],[1],[],1193,[]⟩ .z))) (.s (.s .z (.b (.l ⟨[(5,(.o 1257)),(7,(.v af))],[(1257,.l af)],[1],[],1258,[]⟩ 2 ⟨[(5,(.o 1257))],[(1257,.l af)],[],[],1258,[]⟩ .z))) .z))))
theorem adl (n:Nat):aS 58 (adi n) :=cq (aB (aaz n) aH) Tryz.func58 adk n
def aaA (n:Nat):Sig xx:=⟨[.d (.sl ay),.d af],[.fresh af],fun a=>rH n a.1 a.2.1,none⟩
def aaB:Hn SI:=(.s .z (.s .z (.s .z (.s (.s .z (.b (.l ⟨[(5,(.o 1256)),(6,(.o 1257)),(7,(.v af))],[(1256,.l af),(1257,.l af)],[0,1],[],1258,[(5,af),(6,af)]⟩ 0 ⟨[(5,(.o 1256)),(6,(.o 1257))],[(1256,.l af),(1257,.l af)],[],[],1258,[]⟩ (.s .z (.s (.j ⟨[(5,(.o 1514)),(6,(.o 1515))],[(1514,.l af),(1515,.l af)],[0,1,7],[],1516,[]⟩ (.b (.s (.s (.j ⟨[(32,(.v .bool))],[],[0,1,5,6,7],[1256,1257],1514,[]⟩ .z) .z) (.s .z (.s .z (.s .z (.s (.b (.l ⟨[(8,(.v af))],[(1834,.l af),(2090,.l af)],[0,1,5,6,7],[],2218,[]⟩ 2 ⟨[(8,(.v af))],[(1834,.l af),(2090,.l af)],[0,1,5,6,7],[],2218,[]⟩ (.s (.s (.j ⟨[(55,(.v .bool))],[],[0,1,5,6,7,8],[1834,2090],2218,[]⟩ .z) .z) .z))) .z))))))) .z))))) (.s .z (.s (.s .z (.b (.l ⟨[(9,(.o 1386)),(10,(.v af))],[(1386,.l af)],[5,6],[1256,1257],1387,[(9,af)]⟩ 4 ⟨[(9,(.o 1386))],[(1386,.l af)],[],[],1387,[]⟩ (.s .z (.s (.j ⟨[(9,(.o 1643))],[(1643,.l af)],[5,6,10],[1256,1257],1644,[]⟩ (.b (.s (.s (.j ⟨[(111,(.v .bool))],[],[5,6,9,10],[1256,1257,1386],1643,[]⟩ .z) .z) .z))) .z))))) .z))))))
theorem aaC (n:Nat):aS 60 (aaA n) :=cq aH Tryz.func60 aaB n
def WS (n:Nat):Sig xx:=⟨[.d (.sl af),.d (.sl af),.d af],[.fresh af],fun a=>Bt n a.1 a.2.1 a.2.2.1,none⟩
def WT:Hn SI:=(.s .z (.s .z (.s .z (.s .z (.s .z (.s (.b (.l ⟨[(7,(.o 1320)),(8,(.v af)),(9,(.v af)),(10,(.v .bool))],[(1320,.l af)],[0,1,2],[],1321,[(7,af)]⟩ 0 ⟨[(7,(.o 1320))],[(1320,.l af)],[],[],1321,[]⟩ (.s (.s (.j ⟨[(24,(.v .bool))],[],[0,1,2,7,8,9,10],[1320],1321,[]⟩ .z) .z) (.b (.s .z (.s (.j ⟨[(11,(.v af))],[],[0,1,2,7,8,9,10],[1320],1385,[]⟩ (.s (.j ⟨[(49,(.v .bool))],[],[0,1,2,7,8,9,10],[1320],1385,[]⟩ .z) .z)) (.s (.j ⟨[(8,(.v af))],[],[0,1,2,7,9,10,11],[1320],1385,[]⟩ (.s (.j ⟨[(69,(.v .bool))],[],[0,1,2,7,8,9,10,11],[1320],1385,[]⟩ .z) .z)) (.s (.j ⟨[(9,(.v af))],[],[0,1,2,7,8,10,11],[1320],1385,[]⟩ (.s (.j ⟨[(83,(.v .bool))],[],[0,1,2,7,8,9,10,11],[1320],1385,[]⟩ .z) .z)) (.s .z (.s .z (.s (.j ⟨[(14,(.v .bool))],[],[0,1,2,7,8,9,10,11,12,13],[1320],1897,[]⟩ .z) (.s (.j ⟨[(14,(.v .bool))],[],[0,1,2,7,8,9,10,11,12,13],[1320],1897,[]⟩ .z) (.s (.j ⟨[(14,(.v .bool))],[],[0,1,2,7,8,9,10,11],[1320],1897,[]⟩ .z) (.s (.j ⟨[(7,(.o 1897))],[(1897,.l af)],[0,1,2,8,9,14],[],1898,[]⟩ .z) .z)))))))))))))) .z))))))
theorem WU (n:Nat):aS 59 (WS n) :=cq aH Tryz.func59 WT n
def afy (n:Nat):Sig xx:=⟨[.d (.sl af),.d (.sl af)],[.d .bool],fun a=>Hg n a.1 a.2.1,none⟩
def afz:Hn SI:=(.s .z (.s .z (.s (.s .z (.b (.lx ⟨[(5,(.v af))],[],[0,1],[],1448,[]⟩ 0 ⟨[],[],[],[],1448,[]⟩ .z))) .z)))
theorem afA (n:Nat):aS 61 (afy n) :=cq aH Tryz.func61 afz n
def afB (n:Nat):Sig xx:=⟨[.d (.sl ay),.d (.sl ay),.d af],[.fresh ay],fun a=>qK n a.1 a.2.1 a.2.2.1,none⟩
def afC:Hn SI:=(.s .z (.s .z (.s .z (.s .z (.s .z (.s (.s .z (.b (.l ⟨[(7,(.o 1576)),(9,(.o 1577)),(10,(.v af)),(11,(.v af))],[(1576,.l ay),(1577,.l af)],[0,1,2,8],[1256],1578,[(7,ay),(9,af)]⟩ 0 ⟨[(7,(.o 1576))],[(1576,.l ay)],[],[],1577,[]⟩ (.s .z (.s (.j ⟨[(7,(.o 1898)),(9,(.o 1899)),(10,(.v af))],[(1898,.l ay),(1899,.l af)],[0,1,2,8,11],[1256],1900,[]⟩ (.b (.s .z (.s (.s (.j ⟨[(50,(.v .bool))],[],[0,1,2,7,8,9,10,11,12],[1256,1576,1577,2730],2858,[]⟩ .z) (.s (.s (.s .z (.b (.l ⟨[(13,(.v af))],[(1576,.l ay)],[0,1,2,7,8,9,10,11],[1256,1577],2986,[]⟩ 2 ⟨[],[(1576,.l ay)],[0,1,2,7,8,9,10,11],[1256,1577],2986,[]⟩ .z))) .z) .z)) (.s .z (.s .z (.s .z (.b (.l ⟨[(7,(.o 3242)),(14,(.v af))],[(3242,.l ay)],[0,1,2,8,9,10,11,12],[1256,2730],3243,[]⟩ 4 ⟨[(7,(.o 3242))],[(3242,.l ay)],[0,1,2,8,9,10,11],[1256,2730],3243,[]⟩ .z))))))))) .z))))) .z))))))
theorem Ll (n:Nat):aS 29 (afB n) :=cq (aB (adl n) (aB (aaC n) (aB (WU n) (aB (afA n) aH)))) Tryz.func29 afC n
def ajb (n:Nat):Sig xx:=⟨[.d (.sl ay)],[.fresh ay,.d af],fun a=>ZF n a.1,none⟩
def ajc:Hn SI:=(.s .z (.s (.s .z (.b (.lx ⟨[(4,(.v af))],[],[0],[],1192,[]⟩ 0 ⟨[],[],[0],[],1192,[]⟩ .z))) .z))
theorem ajd (n:Nat):aS 52 (ajb n) :=cq (aB FW (aB (Ll n) aH)) Tryz.func52 ajc n
def adm (n:Nat):Sig xx:=⟨[.d (.sl ay)],[.d .bool],fun a=>pF n a.1,none⟩
theorem xC (n:Nat):aS 25 (adm n) :=cq (aB (ajd n) (aB (Al n) aH)) Tryz.func25 .z n
def WV (n:Nat):Sig xx:=⟨[.d (.sl fC)],[.d .bool],fun a=>Bu n a.1,none⟩
def WW:Hn SI:=(.s .z (.s .z (.s (.s .z (.b (.lx ⟨[(4,(.v af))],[],[0,3],[],1320,[]⟩ 0 ⟨[],[],[],[],1320,[]⟩ (.s .z (.s (.b (.s .z (.s .z (.s .z (.s (.j ⟨[(76,(.v .bool))],[],[0,3,4],[],3048,[]⟩ .z) .z))))) .z))))) .z)))
theorem WX (n:Nat):aS 173 (WV n) :=cq aH Tryz.func173 WW n
def afD:Sig xx:=⟨[.d fC,.d fC],[.d .bool],fun a=>MJ a.1 a.2.1,none⟩
theorem afE:aS 174 afD :=cq aH Tryz.func174 .z 0
def afF:Sig xx:=⟨[.d fC,.d fC,.d fC,.d fC],[.d .bool],fun a=>MK a.1 a.2.1 a.2.2.1 a.2.2.2.1,none⟩
theorem afG:aS 175 afF :=cq aH Tryz.func175 .z 0
def adn (n:Nat):Sig xx:=⟨[.d (.sl fC)],[.d .bool],fun a=>Jo n a.1,none⟩
def ado:Hn SI:=(.s .z (.s .z (.s (.s (.j ⟨[(13,(.v .bool))],[],[0,3],[],1256,[]⟩ .z) .z) (.s (.s (.j ⟨[(27,(.v .bool))],[],[0,3],[],1256,[]⟩ .z) .z) (.s (.s .z (.b (.lx ⟨[(4,(.v af))],[],[0,3],[],1320,[]⟩ 0 ⟨[],[],[],[],1320,[]⟩ (.s .z (.s (.b (.s (.s (.j ⟨[(45,(.v .bool))],[],[0,3,4],[],1512,[]⟩ .z) .z) (.s .z (.b (.lx ⟨[(5,(.v af))],[],[0,3,4],[],1704,[]⟩ 2 ⟨[],[],[0,3,4],[],1704,[]⟩ (.s .z (.s (.b (.s (.j ⟨[(81,(.v .bool))],[],[0,3,4,5],[],1896,[]⟩ .z) .z)) .z))))))) .z))))) .z)))))
theorem adp (n:Nat):aS 156 (adn n) :=cq (aB (WX n) (aB afE (aB afG aH))) Tryz.func156 ado n
def aaD (n:Nat):Sig xx:=⟨[.d (.sl af)],[.fresh af],fun a=>zQ n a.1,none⟩
def aaE:Hn SI:=(.s .z (.s .z (.s (.s .z (.b (.l ⟨[(3,(.o 1192)),(4,(.v af))],[(1192,.l af)],[0],[],1193,[(3,af)]⟩ 0 ⟨[(3,(.o 1192))],[(1192,.l af)],[],[],1193,[]⟩ (.s .z (.s (.j ⟨[(3,(.o 1449))],[(1449,.l af)],[0,4],[],1450,[]⟩ (.b (.s .z (.s (.b (.l ⟨[(5,(.v af))],[],[0,3,4],[1192],1513,[]⟩ 2 ⟨[(5,(.v af))],[],[0,3,4],[1192],1513,[]⟩ (.s (.s (.j ⟨[(27,(.v .bool))],[],[0,3,4,5],[1192],1513,[]⟩ .z) .z) .z))) (.s (.s (.j ⟨[(44,(.v .bool))],[],[0,3,4,5],[1192],1513,[]⟩ .z) .z) .z))))) .z))))) .z)))
theorem NU (n:Nat):aS 157 (aaD n) :=cq aH Tryz.func157 aaE n
def afH (n:Nat):Sig xx:=⟨[.d (.sl fC),.d af],[.fresh af],fun a=>ML n a.1 a.2.1,none⟩
def afI:Hn SI:=(.s .z (.s .z (.s (.s .z (.b (.l ⟨[(5,(.o 1192)),(6,(.v af))],[(1192,.l af)],[0,1],[],1193,[(5,af)]⟩ 0 ⟨[(5,(.o 1192))],[(1192,.l af)],[],[],1193,[]⟩ (.s .z (.s (.j ⟨[(5,(.o 1449))],[(1449,.l af)],[0,1,6],[],1450,[]⟩ (.b (.s .z (.s .z (.s (.j ⟨[(49,(.v .bool))],[],[0,1,5,6,7],[1192,1705],2473,[]⟩ .z) .z))))) .z))))) .z)))
theorem afJ (n:Nat):aS 158 (afH n) :=cq (aB (NU n) aH) Tryz.func158 afI n
def aaF (n:Nat):Sig xx:=⟨[.d (.sl fC)],[.fresh ay,.d af],fun a=>ET n a.1,none⟩
def aaG:Hn SI:=(.s .z (.s .z (.s .z (.s (.s .z (.b (.l ⟨[(4,(.o 1448)),(5,(.v af))],[(1448,.l af)],[0],[],1449,[(4,af)]⟩ 0 ⟨[(4,(.o 1448))],[(1448,.l af)],[0],[],1449,[]⟩ .z))) (.s .z (.s .z (.s (.s .z (.b (.l ⟨[(7,(.o 1769)),(8,(.v af))],[(1769,.l ay)],[0,6],[1513],1770,[(7,ay)]⟩ 2 ⟨[(7,(.o 1769))],[(1769,.l ay)],[],[],1770,[]⟩ (.s .z (.s (.b (.s .z (.s .z (.b (.l ⟨[(7,(.o 2602)),(10,(.v af))],[(2602,.l ay)],[0,6,8,9],[1513,2410],2603,[]⟩ 4 ⟨[(7,(.o 2602))],[(2602,.l ay)],[0,6,8],[1513],2603,[]⟩ .z))))) .z))))) .z)))))))
theorem aaH (n:Nat):aS 141 (aaF n) :=cq (aB (adp n) (aB (NU n) (aB (afJ n) aH))) Tryz.func141 aaG n
def adq (n:Nat):Sig xx:=⟨[.d (.st SI.Zone)],[.fresh ay],fun a=>Jp n a.1,none⟩
theorem adr (n:Nat):aS 120 (adq n) :=cq (aB (aaH n) aH) Tryz.func120 .z n
end
end Go.Proofs
