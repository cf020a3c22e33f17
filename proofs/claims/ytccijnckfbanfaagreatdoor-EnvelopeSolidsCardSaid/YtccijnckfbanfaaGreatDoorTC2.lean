/-
  Printed by wip/gen: that functions of the program compute this.
-/
import Derived.Test.YtccijnckfbanfaaGreatDoorTC1
open Go.IntKind (i64)
open List (mem_cons mem_append mem_singleton length_append length_cons length_nil map_append)
namespace Go.Proofs
open Go.Gb Go.RowKit
noncomputable section
theorem afU {cd:Code} {Q:Exit->St->Prop} {A:List aj} {d i:Int} {r:aj} {pre:List aX} {c:aX} (hp:pre.length+1<=500000)
 (hq:Ev Tryz.prog Tryz.f64.ntmps cd Q (if c.x0=r.x0 then hsM (fZ A d i (jo pre)) r pre c else hsM (fZ A d i (jo (pre++[c]))) r (pre++[c]) ⟨r.x0,r.x1,[]⟩)):
 Ev Tryz.prog Tryz.f64.ntmps (cA hsJ) (Va (Ev Tryz.prog Tryz.f64.ntmps cd Q) Q) (hsM (fZ A d i (jo pre)) r pre c):=by
 have hp':pre.length<=500000:=by omega
 show Ev _ _ (Code.seq (cA (cA hsJ)) (Code.seq UW (cB (cB (cA hsJ))))) _ _;refine gQ ?_;refine dM (ops:=cO (cA (cA hsJ))) (σ2:=hsM (aar A d i ((pre.length+1:Nat):Int) (jo pre)) r pre c) lW (by kernel_rfl) aid trivial ?_ ?_
 ·refine eY (fun p hp'=>?_) (fun _ _ h=>h) rfl (Lg (E:=[(8,tn ((pre.length+1:Nat):Int)),(7,.ptr 1002 0 0)]) (fun p hp' k hk=>?_) hp')
  ·simp only[aar,fZ,cZ,mem_cons,List.not_mem_nil,or_false]at hp';rcases hp' with rfl |rfl |rfl |rfl |rfl |rfl |rfl<;>exact⟨rfl,rfl⟩
  ·simp only[mem_cons,List.not_mem_nil,or_false]at hp';rcases hp' with rfl |rfl
   ·simp[refs]at hk
   ·simp[refs]at hk;omega
 refine gQ ?_;refine IC (ops:=cO UW) (σ2:=hsM ((30,bo (c.x0 != r.x0))::fZ A d i (jo pre)) r pre c) lW mixed (by kernel_rfl) aif aie ⟨by rw[X9 hp'];exact⟨by omega,by omega⟩,Ya hp'⟩ ?_ ?_
 ·refine eY (fun p hp'=>?_) (fun _ _ h=>h) rfl (Lg (E:=[(30,bo (c.x0 != r.x0)),(7,.ptr 1002 0 0)]) (fun p hp' k hk=>?_) hp')
  ·simp only[fZ,cZ,mem_cons,List.not_mem_nil,or_false]at hp';rcases hp' with rfl |rfl |rfl |rfl |rfl |rfl |rfl<;>exact⟨rfl,rfl⟩
  ·simp only[mem_cons,List.not_mem_nil,or_false]at hp';rcases hp' with rfl |rfl
   ·simp[refs]at hk
   ·simp[refs]at hk;omega
 show Ev _ _ (Code.cond (.tmp 30) UX (cB (cB (cB (cA hsJ))))) _ _;refine Cj (c.x0 != r.x0) (fun _ _=>rfl) rfl ?_;refine CB (σ2:=hsM (fZ A d i (jo pre)) r pre c) ?_ ?_
 ·refine eY (fun p hp'=>?_) (fun _ _ h=>h) rfl (Nw hp');simp only[fZ,cZ,mem_cons,List.not_mem_nil,or_false]at hp';rcases hp' with rfl |rfl |rfl |rfl |rfl |rfl<;>exact⟨rfl,rfl⟩
 by_cases e:c.x0=r.x0
 ·rw[if_pos e]at hq;rw[show (c.x0 != r.x0)=false by simp[e]];exact JJ hq
 rw[if_neg e]at hq;rw[show (c.x0 != r.x0)=true by simp[e]];show Ev _ _ (Code.region _ (cO UX) false) _ _;have hpl:(pre++[c]).length=pre.length+1:=by simp
 refine dM (ops:=cO UX) (σ2:=(⟨fZ A d i (jo (pre++[c])),[(1000,some ⟨3,dW 2000 (pre++[c])++[oC r]⟩),(1002,some (bx r))],[]⟩:GSt).st (hsF (pre++[c]))) lW (by kernel_rfl) aii
  ⟨trivial,by rw[length_append,mD];rfl,rfl,rfl,by omega,?_⟩ ?_ (afT (by omega) hq)
 ·have:(500000:Nat) < maxLen:=by decide
  omega
 refine Gp (fun k=>if k=nid 7 then 1000 else if k=1001 then 2000+pre.length else k) (fun k=>if k=1000 then nid 7 else if k=2000+pre.length then 1001 else k) (fun k=>k≠1000∧k≠2000+pre.length)
  (fun k hk=>?_) (fun j hj=>by rw[if_neg (by omega),if_neg (by omega)]) (fun p hp'=>?_) (fun j o' hj=>?_) rfl (ac7 (by omega))
 ·by_cases e1:k=nid 7
  ·rw[if_pos e1,if_pos rfl,e1]
  ·rw[if_neg e1];by_cases e2:k=1001
   ·rw[if_pos e2,if_neg (by omega),if_pos rfl,e2]
   ·rw[if_neg e2,if_neg hk.1,if_neg hk.2]
 ·simp only[fZ,cZ,mem_cons,List.not_mem_nil,or_false]at hp';rcases hp' with rfl |rfl |rfl |rfl |rfl |rfl
  ·exact⟨rfl,fun k hk=>by have:=mem_singleton.1 (show k∈[1002]from hk);omega,rfl⟩
  ·exact⟨rfl,fun k hk=>absurd (show k∈([]:List Nat)from hk) (List.not_mem_nil),rfl⟩
  ·refine⟨rfl,fun k hk=>by have:=mem_singleton.1 (show k∈[nid 7]from hk);simp only[nid]at this;omega,?_⟩;show AV.own 1000 0 (dW 2000 pre++[nI 1001 c]++[oC r]).length=AV.own 1000 0 ((pre++[c]).length+1);simp only[length_append,mD,length_cons,length_nil,Nat.zero_add]
  ·exact⟨rfl,fun k hk=>absurd (show k∈([]:List Nat)from hk) (List.not_mem_nil),rfl⟩
  ·exact⟨rfl,fun k hk=>absurd (show k∈([]:List Nat)from hk) (List.not_mem_nil),rfl⟩
  ·exact⟨rfl,fun k hk=>absurd (show k∈([]:List Nat)from hk) (List.not_mem_nil),rfl⟩
 ·simp only[GSt.st,lk]at hj;by_cases e0:1000=j
  ·rw[if_pos e0]at hj;injection hj with hj;subst e0 hj;refine⟨nid 7,⟨3,dW 2000 pre++[nI 1001 c]++[oC r]⟩,rfl,⟨by simp[nid],by simp only[nid];omega⟩,rfl,?_,fun q hq k hk=>?_⟩
   ·simp only[tK];congr 1;rw[map_append,map_append,TK];congr 1;congr 1
    conv=>lhs;rw[<- List.map_id (dW 2000 pre)]
    exact List.map_congr_left fun q hq=>(jF q fun k hk=>by
     have:=gZ _ _ q hq k hk;rw[if_neg (by simp only[nid];omega),if_neg (by omega)]).symm
   ·rcases mem_append.1 hq with hq |hq
    ·rcases mem_append.1 hq with hq |hq
     ·have:=gZ _ _ q hq k hk;omega
     ·rw[mem_singleton]at hq;subst hq;simp[bg,refs]at hk;omega
    ·rw[mem_singleton]at hq;subst hq;simp[bg,refs]at hk
  ·rw[if_neg e0]at hj;by_cases e2:1002=j
   ·rw[if_pos e2]at hj;injection hj with hj;subst e2 hj;refine⟨1002,bx r,rfl,by omega,rfl,rfl,fun q hq k hk=>?_⟩;simp only[bx,mem_singleton]at hq;subst hq;simp[bg,refs]at hk
   ·rw[if_neg e2]at hj;obtain⟨h1,h2,s,h3,rfl⟩:=BQ hj;have hrn:∀ f:Nat->Nat,(⟨2,eD s.column⟩:aF)=tK f ⟨2,eD s.column⟩:=fun f=>by
     simp only[tK];congr 1
     conv=>lhs;rw[<- List.map_id (eD _)]
     exact List.map_congr_left fun q hq=>(jF q fun k hk=>(ny _ q hq k hk).elim).symm
    by_cases e3:j=2000+pre.length
    ·have hs:s=c:=by
      rw[e3,Nat.add_sub_cancel_left,List.getElem?_append_right (Nat.le_refl _),Nat.sub_self]at h3;injection h3 with h3;exact h3.symm
     subst hs;exact⟨1001,_,rfl,by omega,by rw[if_neg (by simp[nid]),if_pos rfl,e3],hrn _,fun q hq k hk=>(ny _ q hq k hk).elim⟩
    ·have hjl:j - 2000 < pre.length:=(by rw[hpl]at h2;omega);rw[List.getElem?_append_left hjl]at h3;have hjn:j < 600000:=(by rw[hpl]at h2;omega);refine⟨j,⟨2,eD s.column⟩,?_,⟨by omega,e3⟩,by rw[if_neg (by simp only[nid];omega),if_neg (by omega)],hrn _,fun q hq k hk=>(ny _ q hq k hk).elim⟩;simp only[GSt.st,lk];rw[if_neg (by simp only[nid];omega),if_neg e0,if_neg (by simp only[nid];omega),if_neg e0,if_neg (by omega),if_neg e2];show hsF pre j=_;unfold hsF;rw[if_pos h1,h3];rfl
theorem aas {A:List aj} {d i:Int}:PN A d i []=(X7 A d i).st fun _=>none:=rfl
theorem yj {A:List aj} {d i:Int} {pre:List aX} {c:aX}:PN A d i (pre++[c])=OT A d i pre c:=by
 unfold PN;simp
theorem TM {A:List aj} {d i:Int}:Old ((X7 A d i).st fun _=>none):=
 Ay (kM (E:=[]) (fun p hp'=>by cases hp') (by simp[refs])) (fun p hp'=>by cases hp') (fun k o h=>by cases h)
theorem afV {A:List aj} {d i:Int} {out:AV} {O:List (Nat×Option aF)} {F:Nat->Option aF}:
 yC Tryz.prog (kP tab) (cO (cA hsB)) (fun _=>an0) F (List.range (cO (cA hsB)).size) ⟨cZ A d i out,O,[]⟩=
  some (⟨(13,bo (decide (i < (A.length:Int))))::cZ A d i out,O,[(13,none)]⟩,[]):=by kernel_rfl
theorem ahN {A:List aj} {d i:Int} {out:AV} {O:List (Nat×Option aF)} {F:Nat->Option aF}:
 yC Tryz.prog (kP tab) (cO (cB (cB (cB hsB)))) (fun _=>an0) F (List.range (cO (cB (cB (cB hsB)))).size) ⟨cZ A d i out,O,[]⟩=
  some (⟨(12,tn (i64.wrap (i+1)))::(71,tn (i64.wrap (i+1)))::cZ A d i out,O,[(12,none),(71,none)]⟩,[]):=by kernel_rfl
theorem Yb {Q:Exit->St->Prop} {A:List aj} {d:Int} {k:Nat} {pre:List aX} {c:aX} (hk:k < 600000) (hp:pre.length<=500000) (hq:Q .normal (OT A d ((k+1:Nat):Int) pre c)):
 Ev Tryz.prog Tryz.f64.ntmps (cB (cB (cB hsB))) Q (OT A d (k:Int) pre c):=by
 show Ev _ _ (Code.region _ (cO (cB (cB (cB hsB)))) false) _ _;refine dM (ops:=cO (cB (cB (cB hsB)))) lW (by kernel_rfl) ahN trivial ?_ hq;refine eY (fun p hp'=>?_) (fun _ _ h=>h) rfl (pX hp);simp only[PL,cZ,mem_cons,List.not_mem_nil,or_false]at hp';rcases hp' with rfl |rfl |rfl |rfl |rfl
 ·exact⟨rfl,rfl⟩
 ·exact⟨rfl,rfl⟩
 ·exact⟨rfl,rfl⟩
 ·exact⟨rfl,rfl⟩
 ·refine⟨rfl,?_⟩;show tn (i64.wrap ((k:Int)+1))=tn ((k+1:Nat):Int);rw[ax (by omega)]
theorem afW {Q:Exit->St->Prop} {A:List aj} {d:Int} {k:Nat} {r:aj} {pre:List aX} {c:aX} (hr:A[k]? =some r) (hp:pre.length<=500000)
 (hq:Ev Tryz.prog Tryz.f64.ntmps hsJ Q (hsM (fZ A d (k:Int) (jo pre)) r pre c)):Ev Tryz.prog Tryz.f64.ntmps hsI Q (OT A d (k:Int) pre c):=by
 show Ev _ _ (Code.seq (cA hsI) hsJ) _ _;refine gQ ?_;refine dM (ops:=cO (cA hsI)) lW (by kernel_rfl) (aha (r:=r)) ⟨by omega,by rw[Int.toNat_natCast,List.getElem?_map,hr];rfl⟩ ?_ hq;refine Gp (fun k=>if k=nid 2 then 1002 else k) (fun k=>if k=1002 then nid 2 else k) (fun k=>k≠1002) (fun k hk=>?_) (fun j hj=>by rw[if_neg (by omega)]) (fun p hp'=>?_) (fun j o' hj=>?_) rfl (Nw hp)
 ·by_cases e:k=nid 2
  ·rw[if_pos e,if_pos rfl,e]
  ·rw[if_neg e,if_neg hk]
 ·simp only[fZ,cZ,mem_cons,List.not_mem_nil,or_false]at hp';rcases hp' with rfl |rfl |rfl |rfl |rfl |rfl
  ·exact⟨rfl,fun k hk=>by have:=mem_singleton.1 (show k∈[nid 2]from hk);simp only[nid]at this;omega,rfl⟩
  ·exact⟨rfl,fun k hk=>absurd (show k∈([]:List Nat)from hk) (List.not_mem_nil),rfl⟩
  ·exact⟨rfl,fun k hk=>by have:=mem_singleton.1 (show k∈[1000]from hk);omega,rfl⟩
  ·exact⟨rfl,fun k hk=>absurd (show k∈([]:List Nat)from hk) (List.not_mem_nil),rfl⟩
  ·exact⟨rfl,fun k hk=>absurd (show k∈([]:List Nat)from hk) (List.not_mem_nil),rfl⟩
  ·exact⟨rfl,fun k hk=>absurd (show k∈([]:List Nat)from hk) (List.not_mem_nil),rfl⟩
 ·have hfix:∀ (sz:Nat) (rows:List (List AV)),(∀ q∈rows,∀ k∈bg q,k < 600000∧k≠1002)->(⟨sz,rows⟩:aF)=tK (fun k=>if k=nid 2 then 1002 else k) ⟨sz,rows⟩∧∀ q∈rows,∀ k∈bg q,k≠1002:=by
   intro sz rows h;refine⟨?_,fun q hq k hk=>(h q hq k hk).2⟩;simp only[tK];congr 1
   conv=>lhs;rw[<- List.map_id rows]
   exact List.map_congr_left fun q hq=>(jF q fun k hk=>if_neg (by have:=(h q hq k hk).1;simp only[nid];omega)).symm
  simp only[GSt.st,lk]at hj;by_cases e0:1000=j
  ·rw[if_pos e0]at hj;injection hj with hj;subst e0 hj;obtain⟨g1,g2⟩:=hfix 3 (dW 2000 pre++[nI 1001 c]) (fun q hq k hk=>by
    rcases mem_append.1 hq with hq |hq
    ·have:=gZ _ _ q hq k hk;omega
    ·rw[mem_singleton]at hq;subst hq;simp[bg,refs]at hk;omega)
   exact⟨1000,_,rfl,by omega,rfl,g1,g2⟩
  ·rw[if_neg e0]at hj;by_cases e1:1001=j
   ·rw[if_pos e1]at hj;injection hj with hj;subst e1 hj;obtain⟨g1,g2⟩:=hfix 2 (eD c.column) (fun q hq k hk=>(ny _ q hq k hk).elim);exact⟨1001,_,rfl,by omega,rfl,g1,g2⟩
   ·rw[if_neg e1]at hj;by_cases e2:1002=j
    ·rw[if_pos e2]at hj;injection hj with hj;subst e2 hj;refine⟨nid 2,bx r,rfl,by simp[nid],rfl,rfl,fun q hq k hk=>?_⟩;simp only[bx,mem_singleton]at hq;subst hq;simp[bg,refs]at hk
    ·rw[if_neg e2]at hj;obtain⟨h1,h2,s,h3,rfl⟩:=BQ hj;obtain⟨g1,g2⟩:=hfix 2 (eD s.column) (fun q hq k hk=>(ny _ q hq k hk).elim);refine⟨j,_,?_,fun e=>e2 e.symm,if_neg (by simp only[nid];omega),g1,g2⟩;simp only[GSt.st,lk];rw[if_neg (by simp only[nid];omega),if_neg (by simp only[nid];omega),if_neg e0,if_neg e1];exact hj
theorem afX {Q:Exit->St->Prop} {A:List aj} {d:Int} {k:Nat} {r:aj} (hr:A[k]? =some r)
 (hq:Ev Tryz.prog Tryz.f64.ntmps hsJ Q ((⟨fZ A d (k:Int) .nilsl,[(1002,some (bx r))],[]⟩:GSt).st fun _=>none)):Ev Tryz.prog Tryz.f64.ntmps hsI Q ((X7 A d (k:Int)).st fun _=>none):=by
 show Ev _ _ (Code.seq (cA hsI) hsJ) _ _;refine gQ ?_;refine dM (ops:=cO (cA hsI)) lW (by kernel_rfl) (aha (r:=r)) ⟨by omega,by rw[Int.toNat_natCast,List.getElem?_map,hr];rfl⟩ ?_ hq;refine Gp (fun k=>if k=nid 2 then 1002 else k) (fun k=>if k=1002 then nid 2 else k) (fun k=>k≠1002) (fun k hk=>?_) (fun j hj=>by rw[if_neg (by omega)]) (fun p hp'=>?_) (fun j o' hj=>?_) rfl (Lh (E:=[(7,.ptr 1002 0 0)]) fun p hp' k hk=>?_)
 ·by_cases e:k=nid 2
  ·rw[if_pos e,if_pos rfl,e]
  ·rw[if_neg e,if_neg hk]
 ·simp only[fZ,cZ,mem_cons,List.not_mem_nil,or_false]at hp';rcases hp' with rfl |rfl |rfl |rfl |rfl |rfl
  ·exact⟨rfl,fun k hk=>by have:=mem_singleton.1 (show k∈[nid 2]from hk);simp only[nid]at this;omega,rfl⟩
  ·exact⟨rfl,fun k hk=>absurd (show k∈([]:List Nat)from hk) (List.not_mem_nil),rfl⟩
  ·exact⟨rfl,fun k hk=>absurd (show k∈([]:List Nat)from hk) (List.not_mem_nil),rfl⟩
  ·exact⟨rfl,fun k hk=>absurd (show k∈([]:List Nat)from hk) (List.not_mem_nil),rfl⟩
  ·exact⟨rfl,fun k hk=>absurd (show k∈([]:List Nat)from hk) (List.not_mem_nil),rfl⟩
  ·exact⟨rfl,fun k hk=>absurd (show k∈([]:List Nat)from hk) (List.not_mem_nil),rfl⟩
 ·simp only[GSt.st,lk]at hj;by_cases e2:1002=j
  ·rw[if_pos e2]at hj;injection hj with hj;subst e2 hj;refine⟨nid 2,bx r,rfl,by simp[nid],rfl,rfl,fun q hq k hk=>?_⟩;simp only[bx,mem_singleton]at hq;subst hq;simp[bg,refs]at hk
  ·rw[if_neg e2]at hj;cases hj
 ·rw[mem_singleton]at hp';subst hp';simp[refs]at hk;omega
theorem TN (d:Int) (r:aj):fQ d [] r=[if Av d r < Aw d r then⟨r.x0,r.x1,[]++[⟨Av d r,Aw d r⟩]⟩else⟨r.x0,r.x1,[]⟩]:=by
 unfold fQ;by_cases h:Av d r < Aw d r
 ·rw[if_pos h,if_pos h];rfl
 ·rw[if_neg h,if_neg h];rfl
theorem TP (d:Int) (pre:List aX) (c:aX) (r:aj):fQ d (pre++[c]) r=
 if c.x0=r.x0 then pre++[if Av d r < Aw d r then⟨c.x0,c.x1,c.column++[⟨Av d r,Aw d r⟩]⟩else c]
 else (pre++[c])++[if Av d r < Aw d r then⟨r.x0,r.x1,[]++[⟨Av d r,Aw d r⟩]⟩else⟨r.x0,r.x1,[]⟩]:=by
 unfold fQ;by_cases e:c.x0=r.x0
 ·by_cases h:Av d r < Aw d r
  ·simp[e,h]
  ·simp[e,h]
 ·by_cases h:Av d r < Aw d r
  ·simp[e,h]
  ·simp[e,h]
def TQ (k:Nat) (l:List aX):Prop:=l.length<=k∧∀ s∈l,s.column.length<=k
theorem TS {k:Nat} {l:List aX} (h:TQ k l) (d:Int) (r:aj):TQ (k+1) (fQ d l r):=by
 rcases List.eq_nil_or_concat l with rfl |⟨pre,c,rfl⟩
 ·rw[TN];refine⟨by simp,fun s hs=>?_⟩;rw[mem_singleton]at hs;subst hs;split<;>simp
 ·rw[List.concat_eq_append]at h ⊢;rw[TP];obtain⟨h1,h2⟩:=h;simp only[length_append,length_cons,length_nil]at h1;have hc:=h2 c (by simp);split
  ·refine⟨by simp;omega,fun s hs=>?_⟩;rcases mem_append.1 hs with hs |hs
   ·have:=h2 s (by simp[hs]);omega
   ·rw[mem_singleton]at hs;subst hs;split
    ·simp;omega
    ·omega
  ·refine⟨by simp;omega,fun s hs=>?_⟩;rcases mem_append.1 hs with hs |hs
   ·have:=h2 s hs;omega
   ·rw[mem_singleton]at hs;subst hs;split<;>simp
theorem afY {Q:Exit->St->Prop} {K:St->Prop} {A:List aj} {d:Int} {k:Nat} {r:aj} {l:List aX} (hA:A.length < 500000) (hr:A[k]? =some r) (hl:TQ k l) (hK:K (PN A d ((k+1:Nat):Int) (fQ d l r))):
 Ev Tryz.prog Tryz.f64.ntmps hsB (Va K Q) (PN A d (k:Int) l):=by
 have hk:k < A.length:=(List.getElem?_eq_some_iff.1 hr).1;have hdec:decide ((k:Int) < (A.length:Int))=true:=decide_eq_true (by omega);show Ev _ _ (Code.seq (cA hsB) (Code.seq (cA (cB hsB)) (Code.seq (Code.block (match cA (cB (cB hsB))with | .block i _=>i |_=>0) hsI) (cB (cB (cB hsB)))))) _ _;rcases List.eq_nil_or_concat l with rfl |⟨pre,c,rfl⟩
 ·rw[aas];rw[TN]at hK;refine gQ ?_;refine dM (ops:=cO (cA hsB)) (σ2:=(⟨(13,bo true)::cZ A d (k:Int) .nilsl,[],[]⟩:GSt).st fun _=>none) lW (by kernel_rfl) afV trivial ?_ ?_
  ·refine eY (fun p hp'=>?_) (fun _ _ h=>h) rfl (Ay (kM (E:=[(13,bo true)]) (fun p hp' k hk=>by rw[mem_singleton]at hp';subst hp';simp[refs]at hk) (by simp[refs])) (fun p hp'=>by cases hp') (fun k o h=>by cases h));simp only[cZ,mem_cons,List.not_mem_nil,or_false]at hp';rcases hp' with rfl |rfl |rfl |rfl |rfl |rfl
   ·refine⟨rfl,?_⟩;show bo (decide ((k:Int) < (A.length:Int)))=bo true;rw[hdec]
   all_goals exact⟨rfl,rfl⟩
  refine gQ ?_;show Ev _ _ (Code.cond (.tmp 13) (cA (cA (cB hsB))) (cB (cA (cB hsB)))) _ _;refine Cj true (fun _ _=>rfl) rfl (JJ ?_);refine gQ (JK ?_);refine CB (σ2:=(X7 A d (k:Int)).st fun _=>none) ?_ (afX hr ?_)
  ·refine eY (fun p hp'=>?_) (fun _ _ h=>h) rfl TM;simp only[X7,cZ,mem_cons,List.not_mem_nil,or_false]at hp';rcases hp' with rfl |rfl |rfl |rfl |rfl<;>exact⟨rfl,rfl⟩
  show Ev _ _ (Code.seq (cA hsJ) (cB hsJ)) _ _;refine gQ (aei (TL (by simp) (by simp) ?_));refine Yb (by omega) (by simp) ?_;show K _;rw[<- yj];exact hK
 ·rw[List.concat_eq_append]at hl hK ⊢;obtain⟨h1,h2⟩:=hl;simp only[length_append,length_cons,length_nil]at h1;have hc:=h2 c (by simp);rw[yj];rw[TP]at hK;refine gQ ?_;refine dM (ops:=cO (cA hsB)) (σ2:=(⟨(13,bo true)::cZ A d (k:Int) (jo pre),(PL A d (k:Int) pre c).obj,[]⟩:GSt).st (hsF pre)) lW (by kernel_rfl) afV trivial ?_ ?_
  ·refine eY (fun p hp'=>?_) (fun _ _ h=>h) rfl ?_
   ·simp only[cZ,mem_cons,List.not_mem_nil,or_false]at hp';rcases hp' with rfl |rfl |rfl |rfl |rfl |rfl
    ·refine⟨rfl,?_⟩;show bo (decide ((k:Int) < (A.length:Int)))=bo true;rw[hdec]
    all_goals exact⟨rfl,rfl⟩
   ·have h:=pX (A:=A) (d:=d) (i:=(k:Int)) (pre:=pre) (c:=c) (by omega);refine⟨fun t j hj=>?_,h.obj⟩;simp only[GSt.st,lk]at hj;by_cases e:13=t
    ·rw[if_pos e]at hj;simp[refs]at hj
    ·rw[if_neg e]at hj;exact h.env t j hj
  refine gQ ?_;show Ev _ _ (Code.cond (.tmp 13) (cA (cA (cB hsB))) (cB (cA (cB hsB)))) _ _;refine Cj true (fun _ _=>rfl) rfl (JJ ?_);refine gQ (JK ?_);refine CB (σ2:=OT A d (k:Int) pre c) ?_ (afW hr (by omega) ?_)
  ·refine eY (fun p hp'=>?_) (fun _ _ h=>h) rfl (pX (by omega));simp only[PL,cZ,mem_cons,List.not_mem_nil,or_false]at hp';rcases hp' with rfl |rfl |rfl |rfl |rfl<;>exact⟨rfl,rfl⟩
  show Ev _ _ (Code.seq (cA hsJ) (cB hsJ)) _ _;refine gQ (afU (by omega) ?_);by_cases e:c.x0=r.x0
  ·rw[if_pos e]at hK ⊢;refine TL (by omega) (by omega) (Yb (by omega) (by omega) ?_);show K _;rw[<- yj];exact hK
  ·rw[if_neg e]at hK ⊢;refine TL (by simp;omega) (by simp) (Yb (by omega) (by simp;omega) ?_);show K _;rw[<- yj];exact hK
theorem aej {A:List aj} {d i:Int} {l:List aX} {E:List (Nat×AV)} (hE:∀ p∈E,p.1∉[1,5,10,11,12]∧p.2=bo false) (hl:l.length<=500000):
 ∃ L F,PN A d i l=(⟨cZ A d i (match l.getLast? with |none=> .nilsl |some _=> .own 1000 0 l.length),L,[]⟩:GSt).st F∧
   Gb.Told ((⟨E++cZ A d i (match l.getLast? with |none=> .nilsl |some _=> .own 1000 0 l.length),L,[]⟩:GSt).st F) (PN A d i l)∧
   Old ((⟨E++cZ A d i (match l.getLast? with |none=> .nilsl |some _=> .own 1000 0 l.length),L,[]⟩:GSt).st F):=by
 have hlk:∀ (E:List (Nat×AV)),(∀ p∈E,p.1∉[1,5,10,11,12]∧p.2=bo false)->∀ (out:AV) (t:Nat),t∈[1,5,10,11,12]->lk (E++cZ A d i out) t=lk (cZ A d i out) t:=by
  intro E hE out t ht
  induction E with
  |nil=>rfl
  |cons p E ih=>
   simp only[List.cons_append,lk];rw[if_neg (fun e:p.1=t=>(hE p (by simp)).1 (by rw[e];exact ht))];exact ih fun q hq=>hE q (by simp[hq])
 have hen:∀ (out:AV),∀ p∈cZ A d i out,p.1∈[1,5,10,11,12]∧(lk (cZ A d i out) p.1).getD .undef=p.2:=by
  intro out p hp;simp only[cZ,mem_cons,List.not_mem_nil,or_false]at hp;rcases hp with rfl |rfl |rfl |rfl |rfl<;>exact⟨by simp,rfl⟩
 have hEr:∀ p∈E,∀ k∈refs p.2,k < 1000000:=fun p hp k hk=>by rw[(hE p hp).2]at hk;simp[refs]at hk
 rcases List.eq_nil_or_concat l with rfl |⟨pre,c,rfl⟩
 ·refine⟨[],fun _=>none,rfl,?_,?_⟩
  ·refine eY (L2:=X7 A d i) (fun p hp=>⟨rfl,?_⟩) (fun _ _ h=>h) rfl TM;obtain⟨h1,h2⟩:=hen .nilsl p hp;show (lk (E++cZ A d i .nilsl) p.1).getD .undef=p.2;rw[hlk E hE _ _ h1];exact h2
  ·exact Ay (kM hEr (by simp[refs])) (fun p hp'=>by cases hp') (fun k o h=>by cases h)
 ·rw[List.concat_eq_append]at hl ⊢;have hpl:(pre++[c]).length=pre.length+1:=by simp
  have hp:pre.length<=500000:=by omega
  refine⟨[(1000,some ⟨3,dW 2000 pre++[nI 1001 c]⟩),(1001,some ⟨2,eD c.column⟩)],hsF pre,?_,?_,?_⟩
  ·rw[yj];simp only[List.getLast?_append,List.getLast?_singleton,Option.some_or,hpl];rfl
  ·rw[yj];simp only[List.getLast?_append,List.getLast?_singleton,Option.some_or,hpl];refine eY (fun p hp=>⟨rfl,?_⟩) (fun _ _ h=>h) rfl (pX (by omega));obtain⟨h1,h2⟩:=hen (jo pre) p hp;show (lk (E++cZ A d i (jo pre)) p.1).getD .undef=p.2;rw[hlk E hE _ _ h1];exact h2
  ·simp only[List.getLast?_append,List.getLast?_singleton,Option.some_or,hpl];have h:=pX (A:=A) (d:=d) (i:=i) (pre:=pre) (c:=c) (by omega);exact⟨(Ay (O:=[]) (ok:=[]) (F:=fun _=>none) (kM hEr (by simp[refs])) (fun p hp'=>by cases hp') (fun k o h=>by cases h)).env,h.obj⟩
theorem agV {Q:Exit->St->Prop} {A:List aj} {d:Int} (hA:A.length < 500000) (hQ:Q (.exit 0) (PN A d (A.length:Int) (A.foldl (fQ d) []))):Ev Tryz.prog Tryz.f64.ntmps (.loop hsB) Q (PN A d 0 []):=by
 refine af8 (fun n σ=>∃ k,k<=A.length∧n+k=A.length+1∧TQ k ((A.take k).foldl (fQ d) [])∧σ=PN A d (k:Int) ((A.take k).foldl (fQ d) [])) ?_ ?_ (A.length+1) ⟨0,by omega,by omega,⟨by simp,by simp⟩,rfl⟩
 ·rintro σ ⟨k,h1,h2,_⟩;omega
 ·rintro n σ ⟨k,h1,h2,h3,rfl⟩;rcases Nat.lt_or_ge k A.length with hk |hk
  ·have hr:A[k]? =some A[k]:=List.getElem?_eq_getElem hk;have e:(A.take (k+1)).foldl (fQ d) []=fQ d ((A.take k).foldl (fQ d) []) A[k]:=(by rw[List.take_add_one,hr,List.foldl_append];rfl);refine afY hA hr h3 ⟨k+1,by omega,by omega,?_,?_⟩
   ·rw[e];exact TS h3 d _
   ·rw[e]
  ·have hkA:k=A.length:=(by omega);subst hkA;rw[List.take_length]at h3 ⊢;generalize hl:A.foldl (fQ d) []=l at hQ h3;obtain⟨L,F,e1,e2,e3⟩:=aej (A:=A) (d:=d) (i:=(A.length:Int)) (l:=l) (E:=[(13,bo false)]) (fun p hp=>by rw[mem_singleton]at hp;subst hp;exact⟨by simp,rfl⟩) (by have:=h3.1;omega);have hsub:Ev Tryz.prog Tryz.f64.ntmps hsB (Va (fun σ=>∃ k,k<=A.length∧n+k=A.length+1∧TQ k ((A.take k).foldl (fQ d) [])∧σ=PN A d (k:Int) ((A.take k).foldl (fQ d) [])) Q) ((⟨cZ A d (A.length:Int) (match l.getLast? with |none=> .nilsl |some _=> .own 1000 0 l.length),L,[]⟩:GSt).st F):=by
    show Ev _ _ (Code.seq (cA hsB) (Code.seq (Code.cond (.tmp 13) (cA (cA (cB hsB))) (.exit 0)) (cB (cB hsB)))) _ _;refine gQ ?_;refine dM (ops:=cO (cA hsB)) lW (by kernel_rfl) afV trivial (σ2:=(⟨[(13,bo false)]++cZ A d (A.length:Int) (match l.getLast? with |none=> .nilsl |some _=> .own 1000 0 l.length),L,[]⟩:GSt).st F) ?_ ?_
    ·refine eY (fun p hp'=>?_) (fun _ _ h=>h) rfl e3;have hdec:decide ((A.length:Int) < (A.length:Int))=false:=(by simp);simp only[cZ,List.cons_append,List.nil_append,mem_cons,List.not_mem_nil,or_false]at hp';rcases hp' with rfl |rfl |rfl |rfl |rfl |rfl
     ·refine⟨rfl,?_⟩;show bo (decide ((A.length:Int) < (A.length:Int)))=bo false;rw[hdec]
     all_goals exact⟨rfl,rfl⟩
    refine gQ ?_;refine Cj false (fun _ _=>rfl) rfl (CB e2 (acE ?_));exact hQ
   rw[e1];exact hsub
theorem ain {E:List (Nat×AV)} {O:List (Nat×Option aF)} {F:Nat->Option aF}:yC Tryz.prog (kP tab) (cO (cA hsC)) (fun _=>an0) F (List.range (cO (cA hsC)).size) ⟨E,O,[]⟩=some (⟨(4,.nilsl)::E,O,[(4,none)]⟩,[]):=by kernel_rfl
theorem aio {E:List (Nat×AV)} {O:List (Nat×Option aF)} {F:Nat->Option aF}:yC Tryz.prog (kP tab) (cO (cA (cB hsC))) (fun _=>an0) F (List.range (cO (cA (cB hsC))).size) ⟨E,O,[]⟩=some (⟨(5,.nilsl)::E,O,[(5,none)]⟩,[]):=by kernel_rfl
noncomputable def aip (n:Int):Nat->Ann
 | 1=>⟨.num n,[],[],false⟩
 |_=>an0
theorem aiq {A:List aj} {E:List (Nat×AV)} {O:List (Nat×Option aF)} {F:Nat->Option aF}:
 yC Tryz.prog (kP tab) (cO (cA (cA (cB (cB hsC))))) (aip (A.length:Int)) F (List.range (cO (cA (cA (cB (cB hsC))))).size) ⟨(0,.t (.sl (A.map ja)))::E,O,[]⟩=
  some (⟨(12,tn 0)::(11,tn (A.length:Int))::(10,.t (.sl (A.map ja)))::(0,.t (.sl (A.map ja)))::E,O,[(12,none),(11,none),(10,none)]⟩,[(A.length:Int)=((A.map ja).length:Int)]):=by kernel_rfl
theorem afZ {A:List aj} {d i:Int} {out:AV} {O:List (Nat×Option aF)} {F:Nat->Option aF}:
 yC Tryz.prog (kP tab) (cO (cA (cB (cB (cB hsC))))) (fun _=>an0) F (List.range (cO (cA (cB (cB (cB hsC))))).size) ⟨cZ A d i out,O,[]⟩=
  some (⟨(4,out)::(72,out)::cZ A d i out,O,[(4,none),(72,none)]⟩,[]):=by kernel_rfl
theorem af0 {get:Nat->Option aF}:∀ (l:List aX) (k:Nat),1000 < k->(∀ j s,l[j]? =some s->get (k+j)=some ⟨2,eD s.column⟩)->ExpRows get (some 1000) [] (dW k l) (l.map Kq)
 |[],_,_,_=>trivial
 |s::l,k,hk,h=>by
  refine⟨⟨rfl,rfl,⟨by simp;omega,by simp[kept],⟨2,eD s.column⟩,s.column.map Bh,by simpa using h 0 s rfl,?_,by simp,rfl⟩,trivial⟩,af0 l (k+1) (by omega) fun j s' hj=>?_⟩
  ·simp only[List.drop_zero];exact List.take_of_length_le (by simp[aD])
  ·have:=h (j+1) s' (by simpa using hj)
   rwa [show k+(j+1)=k+1+j by omega]at this
theorem ExpRows.app {get:Nat->Option aF} {fk:Option Nat} {q:List AV} {t:List Tree} (hq:ExpL get fk [] q t):∀ {R:List (List AV)} {S:List (List Tree)},ExpRows get fk [] R S->ExpRows get fk [] (R++[q]) (S++[t])
 |[],[],_=>⟨hq,trivial⟩
 |_::_,_::_,h=>⟨h.1,ExpRows.app hq h.2⟩
 |[],_::_,h=>h.elim
 |_::_,[],h=>h.elim
theorem ahO {A:List aj} {d i:Int} {l:List aX} (hl:l.length<=500000):
 Ev Tryz.prog Tryz.f64.ntmps (cB (cB (cB hsC))) (ahg (kP tab) Tryz.f64.results.toList (.one (.fresh 3 (l.map Kq))) []) (PN A d i l):=by
 show Ev _ _ (Code.seq (cA (cB (cB (cB hsC)))) Code.ret) _ _;refine gQ ?_;rcases List.eq_nil_or_concat l with rfl |⟨pre,c,rfl⟩
 ·rw[aas];refine dM (ops:=cO (cA (cB (cB (cB hsC))))) (σ2:=(⟨(4,.nilsl)::cZ A d i .nilsl,[],[]⟩:GSt).st fun _=>none) lW (by kernel_rfl) afZ trivial ?_ (aaY ⟨[.nilsl],none,rfl,rfl,fun j p hj=>by simp at hj⟩);refine eY (fun p hp'=>?_) (fun _ _ h=>h) rfl (Ay (kM (E:=[(4,.nilsl)]) (fun p hp' k hk=>by rw[mem_singleton]at hp';subst hp';simp[refs]at hk) (by simp[refs])) (fun p hp'=>by cases hp') (fun k o h=>by cases h));simp only[cZ,mem_cons,List.not_mem_nil,or_false]at hp';rcases hp' with rfl |rfl |rfl |rfl |rfl |rfl<;>exact⟨rfl,rfl⟩
 ·rw[List.concat_eq_append]at hl ⊢;simp only[length_append,length_cons,length_nil]at hl;rw[yj];refine dM (ops:=cO (cA (cB (cB (cB hsC))))) (σ2:=(⟨(4,jo pre)::cZ A d i (jo pre),(PL A d i pre c).obj,[]⟩:GSt).st (hsF pre)) lW (by kernel_rfl) afZ trivial ?_ (aaY ⟨[jo pre],some 1000,rfl,?_,fun j p hj=>by simp at hj⟩)
  ·refine eY (fun p hp'=>?_) (fun _ _ h=>h) rfl ?_
   ·simp only[cZ,mem_cons,List.not_mem_nil,or_false]at hp';rcases hp' with rfl |rfl |rfl |rfl |rfl |rfl<;>exact⟨rfl,rfl⟩
   ·have h:=pX (A:=A) (d:=d) (i:=i) (pre:=pre) (c:=c) (by omega);refine⟨fun t j hj=>?_,h.obj⟩;simp only[GSt.st,lk]at hj;by_cases e:4=t
    ·rw[if_pos e]at hj;simp[refs]at hj;omega
    ·rw[if_neg e]at hj;exact h.env t j hj
  ·refine⟨rfl,by simp[kept],rfl,⟨3,dW 2000 pre++[nI 1001 c]⟩,rfl,rfl,?_,by simp⟩;rw[List.take_of_length_le (by simp[mD]),map_append];have hq:ExpL ((⟨(4,jo pre)::cZ A d i (jo pre),(PL A d i pre c).obj,[]⟩:GSt).st (hsF pre)).obj (some 1000) [] (nI 1001 c) (Kq c):=
    ⟨rfl,rfl,⟨by simp,by simp[kept],⟨2,eD c.column⟩,c.column.map Bh,rfl,by rw[List.drop_zero];exact List.take_of_length_le (by simp[aD]),by simp,rfl⟩,trivial⟩
   refine ExpRows.app hq (af0 pre 2000 (by omega) fun j s hj=>?_);simp only[GSt.st,PL,lk];rw[if_neg (by omega),if_neg (by omega)];show hsF pre (2000+j)=_;unfold hsF;rw[if_pos (by omega),Nat.add_sub_cancel_left,hj];rfl
theorem OU (d:Int):∀ (A:List aj) (k:Nat) (l:List aX),TQ k l->TQ (k+A.length) (A.foldl (fQ d) l)
 |[],_,_,h=>h
 |r::A,k,l,h=>by
  have:=OU d A (k+1) _ (TS h d r);simp only[List.foldl_cons,length_cons]
  rwa [show k+(A.length+1)=k+1+A.length by omega]
theorem af2 {A:List aj} {d:Int} (hA:A.length < 500000):
 Ev Tryz.prog Tryz.f64.ntmps hsC (ahg (kP tab) Tryz.f64.results.toList (.one (.fresh 3 ((A.foldl (fQ d) []).map Kq))) []) ((⟨[(0,.t (.sl (A.map ja))),(1,tn d)],[],[]⟩:GSt).st fun _=>none):=by
 have old:∀ E:List (Nat×AV),(∀ p∈E,∀ k∈refs p.2,k < 1000000)->Old ((⟨E,[],[]⟩:GSt).st fun _=>none):=fun E hE=>Ay hE (fun p hp'=>by cases hp') (fun k o h=>by cases h);have hfit:=OU d A 0 [] ⟨by simp,by simp⟩;show Ev _ _ (Code.seq (cA hsC) (Code.seq (cA (cB hsC)) (Code.seq (Code.seq (cA (cA (cB (cB hsC)))) (Code.block 0 (Code.loop hsB))) (cB (cB (cB hsC)))))) _ _;refine gQ ?_;refine dM (ops:=cO (cA hsC)) (σ2:=(⟨[(0,.t (.sl (A.map ja))),(1,tn d)],[],[]⟩:GSt).st fun _=>none) lW (by kernel_rfl) ain trivial ?_ ?_
 ·refine eY (fun p hp'=>?_) (fun _ _ h=>h) rfl (old _ fun p hp' k hk=>?_)
  ·simp only[mem_cons,List.not_mem_nil,or_false]at hp';rcases hp' with rfl |rfl<;>exact⟨rfl,rfl⟩
  ·simp only[mem_cons,List.not_mem_nil,or_false]at hp';rcases hp' with rfl |rfl<;>simp[refs]at hk
 refine gQ ?_;refine dM (ops:=cO (cA (cB hsC))) (σ2:=(⟨[(0,.t (.sl (A.map ja))),(1,tn d),(5,.nilsl)],[],[]⟩:GSt).st fun _=>none) lW (by kernel_rfl) aio trivial ?_ ?_
 ·refine eY (fun p hp'=>?_) (fun _ _ h=>h) rfl (old _ fun p hp' k hk=>?_)
  ·simp only[mem_cons,List.not_mem_nil,or_false]at hp';rcases hp' with rfl |rfl |rfl<;>exact⟨rfl,rfl⟩
  ·simp only[mem_cons,List.not_mem_nil,or_false]at hp';rcases hp' with rfl |rfl |rfl<;>simp[refs]at hk
 refine gQ (gQ ?_);refine dM (ops:=cO (cA (cA (cB (cB hsC))))) (σ2:=(X7 A d 0).st fun _=>none) lW (by kernel_rfl) aiq (by simp[fJ]) ?_ ?_
 ·refine eY (fun p hp'=>?_) (fun _ _ h=>h) rfl TM;simp only[X7,cZ,mem_cons,List.not_mem_nil,or_false]at hp';rcases hp' with rfl |rfl |rfl |rfl |rfl<;>exact⟨rfl,rfl⟩
 refine JK (agV hA ?_);exact ahO (by have:=hfit.1;omega)
theorem acn:aH 64 TI:=by
 have hb:Tryz.f64.body=some hsC:=by kernel_rfl
 have hn : (Tryz.f64.name == "runtime.NumGoroutine") = false := by kernel_rfl
 refine cok (pK Tryz.func64 hb hn) (fun a r e=>?_) rfl;simp only[TI,Fa]at e;split at e
 ·rename_i hA;injection e with e;subst e;exact Vb (args:=[.t (.sl (List.map ja a.1)),tn a.2.1]) (os:=[]) (os':=[]) lW Tryz.func64 hb hn (by show 2<=Tryz.f64.ntmps;decide +kernel) (fun k hk=>by simp[bg,refs]at hk) (by simp) rfl (af2 hA)
 ·cases e
def aat (n:Nat):Sig xx:=⟨[.d (.sl (.st SI.ospan)),.d (.sl (.st SI.ospan))],[.fresh (.st SI.ospan)],fun a=>Gv n a.1 a.2.1,none⟩
def aau:Hn SI:=(.s .z (.s .z (.s (.s .z (.b (.l ⟨[(5,(.o 1320)),(13,(.v ah))],[(1320,.l (.st SI.ospan))],[1,11,12],[],1321,[(5,(.st SI.ospan))]⟩ 0 ⟨[(5,(.o 1320))],[(1320,.l (.st SI.ospan))],[],[],1321,[]⟩ (.s .z (.s .z (.s (.b (.s .z (.s .z (.b (.l ⟨[(5,(.o 1833)),(19,(.v ah))],[(1833,.l (.st SI.ospan))],[1,7,11,12,13,17,18],[1513],1834,[]⟩ 2 ⟨[(5,(.o 1833))],[(1833,.l (.st SI.ospan))],[1,11,12,13],[],1834,[]⟩ (.s .z (.s .z (.s (.j ⟨[(5,(.o 1898))],[(1898,.l (.st SI.ospan))],[1,7,11,12,13,17,18,19],[1513],1899,[]⟩ .z) .z)))))))) .z)))))) .z)))
theorem aav (n:Nat):aH 107 (aat n) :=cq aA Tryz.func107 aau n (by kernel_rfl) rfl fun _=>by kernel_rfl
def TU (n:Nat):Sig xx:=⟨[.d (.st SI.slab),.mref .bool,.mref ah,.mref ah,.mref ah,.mref .bool,.mref (.sl (.st SI.ospan))],[.mr .bool,.mr ah,.mr ah,.mr ah,.mr .bool,.mr (.sl (.st SI.ospan))],fun a=>CW n a.1 a.2.1 a.2.2.1 a.2.2.2.1 a.2.2.2.2.1 a.2.2.2.2.2.1 a.2.2.2.2.2.2.1,none⟩
def TW:Hn SI:=(.s .z (.b (.s (.j ⟨[(14,(.v .bool))],[],[1,2,5,6,7],[0,1,2,3,4,5,1000],1064,[]⟩ .z) .z)))
theorem TY (n:Nat):aH 106 (TU n) :=cq (au (aav n) aA) Tryz.func106 TW n (by kernel_rfl) rfl fun _=>by kernel_rfl
def aaw (n:Nat):Sig xx:=⟨[.d (.sl (.st SI.slab)),.d ah,.d ah],[.d (.sl (.st SI.ospan))],fun a=>Bo n a.1 a.2.1 a.2.2.1,none⟩
def aax:Hn SI:=(.s .z (.s .z (.s .z (.s .z (.s (.s .z (.b (.l ⟨[(20,(.v ah))],[(1000,.c 1 [[(.v ah)]]),(1064,.c 1 [[(.v ah)]]),(1384,.c 1 [[(.v ah)]]),(1448,.c 1 [[(.v .bool)]]),(1512,.c 1 [[(.v .bool)]]),(1768,.c 1 [[(.v (.sl (.st SI.ospan)))]])],[4,5,7,8,10,11,18,19],[],2152,[]⟩ 0 ⟨[],[(1000,.c 1 [[(.v ah)]]),(1064,.c 1 [[(.v ah)]]),(1384,.c 1 [[(.v ah)]]),(1448,.c 1 [[(.v .bool)]]),(1768,.c 1 [[(.v (.sl (.st SI.ospan)))]])],[4,5,7,8,10],[],2152,[]⟩ .z))) (.s (.s (.j ⟨[(35,(.v .bool))],[],[10],[1768],2152,[]⟩ .z) .z) .z))))))
theorem aay (n:Nat):aH 67 (aaw n) :=cq (au (TY n) aA) Tryz.func67 aax n (by kernel_rfl) rfl fun _=>by kernel_rfl
def Ny (n:Nat):Sig xx:=⟨[.d (.sl (.st SI.ospan)),.d (.sl (.st SI.ospan))],[.d .bool],fun a=>qE n a.1 a.2.1,none⟩
def Nz:Hn SI:=(.s .z (.s .z (.s (.s .z (.b (.lx ⟨[(13,(.v ah))],[],[0,1,12],[],1576,[]⟩ 0 ⟨[],[],[],[],1576,[]⟩ .z))) .z)))
theorem NA (n:Nat):aH 68 (Ny n) :=cq aA Tryz.func68 Nz n (by kernel_rfl) rfl fun _=>by kernel_rfl
def aaz (n:Nat):Sig xx:=⟨[.d (.sl ak),.d ah],[.fresh ak,.d ah],fun a=>Gw n a.1 a.2.1,none⟩
def aaA:Hn SI:=(.s .z (.s .z (.s (.f [3]) (.s .z (.s (.s .z (.b (.l ⟨[(7,(.o 1896)),(27,(.v ah))],[(1896,.l ah)],[1,6,25,26],[],1897,[(7,ah)]⟩ 0 ⟨[(7,(.o 1896))],[(1896,.l ah)],[1,6],[],1897,[]⟩ .z))) (.s .z (.s (.f [2]) (.s .z (.s .z (.s .z (.s (.s .z (.b (.l ⟨[(10,(.o 2473)),(11,(.v (.sl (.st SI.ospan)))),(12,(.v ah)),(13,(.v ah))],[(2473,.l ak)],[1,6,7],[],2474,[(10,ak)]⟩ 2 ⟨[(10,(.o 2473))],[(2473,.l ak)],[],[],2474,[]⟩ (.s .z (.s (.j ⟨[(10,(.o 2730)),(11,(.v (.sl (.st SI.ospan)))),(12,(.v ah))],[(2730,.l ak)],[1,6,7,13],[],2731,[]⟩ (.b (.s .z (.s (.s (.j ⟨[(80,(.v .bool))],[],[1,6,7,10,11,12,13,14],[2473],3306,[]⟩ .z) (.s (.s (.s .z (.b (.l ⟨[(15,(.v ah))],[(2473,.l ak)],[1,6,7,10,11,12,13],[],3434,[]⟩ 4 ⟨[],[(2473,.l ak)],[1,6,7,10,11,12,13],[],3434,[]⟩ .z))) .z) .z)) (.s .z (.s .z (.b (.l ⟨[(10,(.o 3818)),(101,(.v ah))],[(3818,.l ak)],[1,6,7,11,12,13,99,100],[],3819,[]⟩ 6 ⟨[(10,(.o 3818))],[(3818,.l ak)],[1,6,7,11,12,13],[],3819,[]⟩ .z)))))))) .z))))) .z)))))))))))
theorem aaB (n:Nat):aH 32 (aaz n) :=cq (au (ack n) (au acn (au (tH n) (au (ng n) (au (aay n) (au (NA n) aA)))))) Tryz.func32 aaA n (by kernel_rfl) rfl fun _=>by kernel_rfl
def aco (n:Nat):Sig xx:=⟨[.d (.sl ak)],[.d ak,.d .bool],fun a=>KE n a.1,none⟩
def acp:Hn SI:=(.s .z (.s (.s .z (.b (.l ⟨[(3,(.v .bool)),(8,(.v ah))],[(1000,.c 4 [[(.v ah),(.v ah),(.v ah),(.v ah)]])],[2,6,7],[],1320,[]⟩ 0 ⟨[(3,(.v .bool))],[(1000,.c 4 [[(.v ah),(.v ah),(.v ah),(.v ah)]])],[2],[],1320,[]⟩ (.s .z (.s .z (.s (.j ⟨[(3,(.v .bool))],[(1000,.c 4 [[(.v ah),(.v ah),(.v ah),(.v ah)]])],[2,6,7,8],[],1384,[]⟩ .z) .z)))))) .z))
theorem acr (n:Nat):aH 50 (aco n) :=cq (au BH aA) Tryz.func50 acp n (by kernel_rfl) rfl fun _=>by kernel_rfl
def aaC (n:Nat):Sig xx:=⟨[.d (.sl ak)],[.d ak,.d .bool],fun a=>wX n a.1,none⟩
def aaD:Hn SI:=(.s .z (.s (.s (.j ⟨[(11,(.v .bool))],[],[0,2],[1000],1128,[]⟩ .z) .z) .z))
theorem OV (n:Nat):aH 21 (aaC n) :=cq (au (mq n) (au (acr n) aA)) Tryz.func21 aaD n (by kernel_rfl) rfl fun _=>by kernel_rfl
def Li (n:Nat):Sig xx:=⟨[.d (.st SI.Town),.d ah,.d ah],[.fresh bX],fun a=>gM n a.1 a.2.1 a.2.2.1,none⟩
def Lj:Hn SI:=(.s .z (.s .z (.s (.s .z (.b (.l ⟨[(7,(.o 1576)),(15,(.v ah))],[(1576,.l bX)],[13,14],[1384],1577,[(7,bX)]⟩ 0 ⟨[(7,(.o 1576))],[(1576,.l bX)],[],[],1577,[]⟩ (.s .z (.s .z (.s (.j ⟨[(7,(.o 1641))],[(1641,.l bX)],[13,14,15],[1384],1642,[]⟩ .z) .z)))))) .z)))
theorem qO (n:Nat):aH 14 (Li n) :=cq (au (BP n) aA) Tryz.func14 Lj n (by kernel_rfl) rfl fun _=>by kernel_rfl
def FW (n:Nat):Sig xx:=⟨[.d (.sl bX),.clo [bX] .bool],[.d ah],fun a=>oZ n a.1 a.2.1,none⟩
def FX:Hn SI:=(.s .z (.s (.s .z (.b (.lx ⟨[(8,(.v ah))],[],[0,1,7],[],1256,[]⟩ 0 ⟨[],[],[],[],1256,[]⟩ .z))) .z))
theorem FY (n:Nat):aH 124 (FW n) :=cq aA Tryz.func124 FX n (by kernel_rfl) rfl fun _=>by kernel_rfl
def BR (n:Nat):Sig xx:=⟨[.d (.sl bX),.clo [bX] .bool],[.d .bool],fun a=>iI n a.1 a.2.1,none⟩
theorem BS (n:Nat):aH 98 (BR n) :=cq (au (FY n) aA) Tryz.func98 .z n (by kernel_rfl) rfl fun _=>by kernel_rfl
def T9:Sig xx:=⟨[.d ah,.d ah,.d ah],[.d .bool],fun a=>jh a.1 a.2.1 a.2.2.1,none⟩
theorem FZ:aH 57 T9 :=cq aA Tryz.func57 .z 0 (by kernel_rfl) rfl fun _=>by kernel_rfl
def UY:Sig xx:=⟨[.d bX],[.d .bool],fun a=>uo a.1,none⟩
theorem Ib:aH 26 UY :=cq (au FZ aA) Tryz.func26 .z 0 (by kernel_rfl) rfl fun _=>by kernel_rfl
def NC:Sig xx:=⟨[.d bX],[.d .bool],fun a=>qI a.1,none⟩
theorem ND:aH 99 NC :=cq (au Ib aA) Tryz.func99 .z 0 (by kernel_rfl) rfl fun _=>by kernel_rfl
def UZ (n:Nat):Sig xx:=⟨[.d ak,.d (.sl bX)],[.d .bool],fun a=>uq n a.1 a.2.1,none⟩
theorem Ic (n:Nat):aH 58 (UZ n) :=cq (au BH (au (BS n) (au ND aA))) Tryz.func58 .z n (by kernel_rfl) rfl fun _=>by kernel_rfl
def NE:Sig xx:=⟨[.d ah,.d ah],[.d ah],fun a=>lZ a.1 a.2.1,none⟩
def NF:Hn SI:=(.s .z (.s .z (.s (.j ⟨[(5,(.v ah))],[],[],[],1320,[]⟩ .z) .z)))
theorem BU:aH 126 NE :=cq aA Tryz.func126 NF 0 (by kernel_rfl) rfl fun _=>by kernel_rfl
def Yc (n:Nat):Sig xx:=⟨[.d ak,.d (.sl bX),.d ah],[.d ak,.d .bool],fun a=>IU n a.1 a.2.1 a.2.2.1,none⟩
def Yd:Hn SI:=(.s .z (.s .z (.s (.s .z (.b (.lx ⟨[(15,(.v ah))],[(1256,.c 4 [[(.v ah),(.v ah),(.v ah),(.v ah)]])],[2,3,6,8,13,14],[1000,1064],1576,[]⟩ 0 ⟨[],[(1256,.c 4 [[(.v ah),(.v ah),(.v ah),(.v ah)]])],[6,8],[1064],1576,[]⟩ (.s .z (.s .z (.s (.jx ⟨[],[(1256,.c 4 [[(.v ah),(.v ah),(.v ah),(.v ah)]])],[2,3,6,8,13,14,15],[1000,1064],1640,[]⟩ .z) .z)))))) .z)))
theorem Ye (n:Nat):aH 108 (Yc n) :=cq (au BU aA) Tryz.func108 Yd n (by kernel_rfl) rfl fun _=>by kernel_rfl
def Yf (n:Nat):Sig xx:=⟨[.d ak,.d (.sl bX),.d ah],[.fresh ak,.d ah],fun a=>CX n a.1 a.2.1 a.2.2.1,none⟩
theorem Yg (n:Nat):aH 69 (Yf n) :=cq (au (Ic n) (au FZ (au (Ye n) aA))) Tryz.func69 .z n (by kernel_rfl) rfl fun _=>by kernel_rfl
def PO:Sig xx:=⟨[.d ak,.d ak],[.d ak,.d .bool],fun a=>om a.1 a.2.1,none⟩
theorem D5:aH 70 PO :=cq aA Tryz.func70 .z 0 (by kernel_rfl) rfl fun _=>by kernel_rfl
def Ua (n:Nat):Sig xx:=⟨[.d (.sl ak),.d ak],[.fresh ak],fun a=>wC n a.1 a.2.1,none⟩
def Ub:Hn SI:=(.s .z (.s .z (.s (.s .z (.b (.l ⟨[(5,(.o 1384)),(14,(.v ah))],[(1384,.l ak)],[3,12,13],[1000],1385,[(5,ak)]⟩ 0 ⟨[(5,(.o 1384))],[(1384,.l ak)],[],[],1385,[]⟩ (.s .z (.s .z (.s (.j ⟨[(5,(.o 1449))],[(1449,.l ak)],[3,12,13,14],[1000],1450,[]⟩ (.b (.s .z (.s .z (.s .z (.s .z (.b (.l ⟨[(5,(.o 4905)),(68,(.v ah))],[(4905,.l ak)],[3,12,13,14,66,67],[1000,4713],4906,[]⟩ 2 ⟨[(5,(.o 4905))],[(4905,.l ak)],[3,12,13,14],[1000],4906,[]⟩ (.s .z (.s .z (.s (.j ⟨[(5,(.o 4970))],[(4970,.l ak)],[3,12,13,14,66,67,68],[1000,4713],4971,[]⟩ (.b (.s .z (.s (.j ⟨[(83,(.v .bool))],[],[3,5,11,12,13,14,66,67,68],[1000,4713,4905,5098],5226,[]⟩ .z) .z)))) .z))))))))))) .z)))))) .z)))
theorem Uc (n:Nat):aH 71 (Ua n) :=cq (au D5 aA) Tryz.func71 Ub n (by kernel_rfl) rfl fun _=>by kernel_rfl
def Jr:Sig xx:=⟨[.d ak,.d ak],[.d .bool],fun a=>jL a.1 a.2.1,none⟩
theorem Js:aH 109 Jr :=cq aA Tryz.func109 .z 0 (by kernel_rfl) rfl fun _=>by kernel_rfl
def sH (n:Nat):Sig xx:=⟨[.mut ak,.d ah,.d ah,.clo [ak,ak] ah],[.mu ak],fun a=>vg n a.1 a.2.1 a.2.2.1 a.2.2.2.1,none⟩
def sI:Hn SI:=(.s .z (.b (.l ⟨[(8,(.v ah))],[(0,.l ak)],[0,1,2,3],[],1192,[]⟩ 0 ⟨[],[(0,.l ak)],[],[],1192,[]⟩ (.s .z (.s (.b (.s .z (.b (.l ⟨[(9,(.v ah))],[(0,.l ak)],[0,1,2,3,8],[],1512,[]⟩ 2 ⟨[],[(0,.l ak)],[0,1,2,3,8],[],1512,[]⟩ (.s (.s (.j ⟨[(34,(.v .bool))],[],[0,1,2,3,8,9],[0],1512,[]⟩ .z) .z) .z))))) .z)))))
theorem sJ (n:Nat):aH 181 (sH n) :=cq aA Tryz.func181 sI n (by kernel_rfl) rfl fun _=>by kernel_rfl
def yP (n:Nat):Sig xx:=⟨[.mut ak,.d ah,.d ah,.d ah,.clo [ak,ak] ah],[.mu ak],fun a=>Bp n a.1 a.2.1 a.2.2.1 a.2.2.2.1 a.2.2.2.2.1,none⟩
def yQ:Hn SI:=(.s .z (.b (.lx ⟨[(10,(.v ah))],[(0,.l ak)],[0,2,3,4],[],1128,[]⟩ 0 ⟨[],[(0,.l ak)],[],[],1128,[]⟩ (.b (.s .z (.s .z (.s (.j ⟨[(11,(.v ah))],[],[0,2,3,4,10],[0],1576,[]⟩ (.s (.j ⟨[(40,(.v .bool))],[],[0,2,3,4,10,11],[0],1576,[]⟩ .z) .z)) .z)))))))
theorem yR (n:Nat):aH 203 (yP n) :=cq aA Tryz.func203 yQ n (by kernel_rfl) rfl fun _=>by kernel_rfl
def yS (n:Nat):Sig xx:=⟨[.mut ak,.d ah,.d ah,.clo [ak,ak] ah],[.mu ak],fun a=>Bq n a.1 a.2.1 a.2.2.1 a.2.2.2.1,none⟩
def yT:Hn SI:=(.s .z (.s .z (.s .z (.s (.s .z (.b (.l ⟨[(11,(.v ah))],[(0,.l ak)],[0,3,8,9,10],[],1704,[]⟩ 0 ⟨[],[(0,.l ak)],[0,3,8,9,10],[],1704,[]⟩ .z))) (.s .z (.b (.l ⟨[(12,(.v ah))],[(0,.l ak)],[0,3,8,9],[],1896,[]⟩ 2 ⟨[],[(0,.l ak)],[],[],1896,[]⟩ .z)))))))
theorem yU (n:Nat):aH 182 (yS n) :=cq (au (yR n) aA) Tryz.func182 yT n (by kernel_rfl) rfl fun _=>by kernel_rfl
def sK (n:Nat):Sig xx:=⟨[.mut ak,.d ah,.d ah,.clo [ak,ak] ah],[.mu ak],fun a=>vk n a.1 a.2.1 a.2.2.1 a.2.2.2.1,none⟩
def sM:Hn SI:=(.s .z (.s .z (.s (.s .z (.s .z (.s .z (.b (.l ⟨[(11,(.v ah))],[(0,.l ak),(1512,.c 1 [[(.v (.int .u64))]])],[0,1,8,9,10],[],2280,[]⟩ 0 ⟨[],[(0,.l ak)],[],[],2280,[]⟩ (.s .z (.s (.b (.s .z (.s (.j ⟨[(12,(.v ah))],[],[0,1,8,9,10,11],[0,1512],3176,[]⟩ .z) .z))) .z))))))) .z)))
theorem sN (n:Nat):aH 183 (sK n) :=cq (au nP (au pz aA)) Tryz.func183 sM n (by kernel_rfl) rfl fun _=>by kernel_rfl
def BV:Sig xx:=⟨[.d (.sl ak),.d ah,.d ah,.mref ah,.clo [ak,ak] ah],[.d ah,.d ah,.mr ah],fun a=>D9 a.1 a.2.1 a.2.2.1 a.2.2.2.1 a.2.2.2.2.1,none⟩
theorem BX:aH 215 BV :=cq aA Tryz.func215 .z 0 (by kernel_rfl) rfl fun _=>by kernel_rfl
def BZ:Sig xx:=⟨[.d (.sl ak),.d ah,.d ah,.d ah,.mref ah,.clo [ak,ak] ah],[.d ah,.mr ah],fun a=>Ea a.1 a.2.1 a.2.2.1 a.2.2.2.1 a.2.2.2.2.1 a.2.2.2.2.2.1,none⟩
theorem pY:aH 205 BZ :=cq (au BX aA) Tryz.func205 .z 0 (by kernel_rfl) rfl fun _=>by kernel_rfl
def qY:Sig xx:=⟨[.d (.sl ak),.d ah,.mref ah,.clo [ak,ak] ah],[.d ah,.mr ah],fun a=>uw a.1 a.2.1 a.2.2.1 a.2.2.2.1,none⟩
theorem qZ:aH 204 qY :=cq (au pY aA) Tryz.func204 .z 0 (by kernel_rfl) rfl fun _=>by kernel_rfl
def vG:Sig xx:=⟨[.d (.sl ak),.d ah,.d ah,.clo [ak,ak] ah],[.d ah,.d ah],fun a=>xQ a.1 a.2.1 a.2.2.1 a.2.2.2.1,none⟩
def vH:Hn SI:=(.s .z (.s .z (.s .z (.s .z (.s .z (.s .z (.s (.j ⟨[(13,(.v ah))],[(1384,.c 1 [[(.v ah)]])],[11],[],2600,[]⟩ (.s .z (.s (.s (.j ⟨[(12,(.v ah)),(13,(.v ah)),(14,(.v ah))],[(1384,.c 1 [[(.v ah)]])],[0,3,11],[],2728,[]⟩ .z) .z) .z))) .z)))))))
theorem vI:aH 184 vG :=cq (au qZ (au pY aA)) Tryz.func184 vH 0 (by kernel_rfl) rfl fun _=>by kernel_rfl
def uR (n:Nat):Sig xx:=⟨[.mut ak,.d ah,.d ah,.clo [ak,ak] ah],[.mu ak],fun a=>wD n a.1 a.2.1 a.2.2.1 a.2.2.2.1,none⟩
def uS:Hn SI:=(.s .z (.s .z (.b (.l ⟨[(8,(.v ah)),(9,(.v ah))],[(0,.l ak)],[0],[],1320,[]⟩ 0 ⟨[],[(0,.l ak)],[],[],1320,[]⟩ .z))))
theorem uT (n:Nat):aH 185 (uR n) :=cq aA Tryz.func185 uS n (by kernel_rfl) rfl fun _=>by kernel_rfl
def nC (n:Nat):Sig xx:=⟨[.mut ak,.d ah,.d ah,.clo [ak,ak] ah],[.d .bool,.mu ak],fun a=>oo n a.1 a.2.1 a.2.2.1 a.2.2.2.1,none⟩
def nD:Hn SI:=(.s .z (.s .z (.s (.s .z (.b (.lx ⟨[(9,(.v ah)),(10,(.v ah))],[(0,.l ak)],[0,1,2,3],[],1320,[]⟩ 0 ⟨[],[(0,.l ak)],[],[],1320,[]⟩ (.s .z (.s (.jx ⟨[(9,(.v ah))],[(0,.l ak)],[0,1,2,3,10],[],1448,[]⟩ (.b (.s (.b (.l ⟨[(9,(.v ah))],[],[0,1,2,3,10],[0],1448,[]⟩ 2 ⟨[(9,(.v ah))],[],[0,1,2,3,10],[0],1448,[]⟩ (.s (.s (.j ⟨[(36,(.v .bool))],[],[0,1,2,3,9,10],[0],1448,[]⟩ .z) .z) .z))) (.s .z (.s .z (.s .z (.s (.j ⟨[],[(0,.l ak)],[0,1,2,3,9,10],[],3048,[]⟩ (.s .z (.s (.s .z (.b (.l ⟨[(11,(.v ah))],[(0,.l ak)],[0,1,2,3,9,10],[],3496,[]⟩ 4 ⟨[],[(0,.l ak)],[0,1,2,3,9,10],[],3496,[]⟩ .z))) .z))) (.s .z (.s (.s .z (.b (.l ⟨[(12,(.v ah))],[(0,.l ak)],[0,1,2,3,9,10],[],3496,[]⟩ 6 ⟨[],[(0,.l ak)],[0,1,2,3,9,10],[],3496,[]⟩ .z))) .z))))))))) .z))))) .z)))
theorem nE (n:Nat):aH 186 (nC n) :=cq aA Tryz.func186 nD n (by kernel_rfl) rfl fun _=>by kernel_rfl
def q8 (n:Nat):Sig xx:=⟨[.mut ak,.d ah,.d ah,.d ah,.clo [ak,ak] ah],[.d ah,.mu ak],fun a=>uy n a.1 a.2.1 a.2.2.1 a.2.2.2.1 a.2.2.2.2.1,none⟩
def q9:Hn SI:=(.s .z (.s .z (.s .z (.s (.b (.l ⟨[(11,(.v ah)),(12,(.v ah))],[(0,.l ak)],[0,1,4],[],2472,[]⟩ 0 ⟨[(11,(.v ah))],[(0,.l ak)],[],[],2472,[]⟩ (.b (.s (.b (.l ⟨[(11,(.v ah))],[],[0,1,4,12],[0],2472,[]⟩ 2 ⟨[(11,(.v ah))],[],[0,1,4,12],[0],2472,[]⟩ (.s (.s (.j ⟨[(47,(.v .bool))],[],[0,1,4,11,12],[0],2472,[]⟩ .z) .z) .z))) (.s (.b (.l ⟨[(12,(.v ah))],[],[0,1,4,11],[0],2472,[]⟩ 4 ⟨[(12,(.v ah))],[],[0,1,4,11],[0],2472,[]⟩ (.s (.s (.j ⟨[(65,(.v .bool))],[],[0,1,4,11,12],[0],2472,[]⟩ .z) .z) .z))) .z))))) .z))))
theorem rf (n:Nat):aH 187 (q8 n) :=cq aA Tryz.func187 q9 n (by kernel_rfl) rfl fun _=>by kernel_rfl
def yu (n:Nat):Sig xx:=⟨[.mut ak,.d ah,.d ah,.d ah,.clo [ak,ak] ah],[.d ah,.d .bool,.mu ak],fun a=>zX n a.1 a.2.1 a.2.2.1 a.2.2.2.1 a.2.2.2.2.1,none⟩
def yw:Hn SI:=(.s .z (.s .z (.s .z (.s (.b (.l ⟨[(12,(.v ah))],[],[0,1,4,13],[0],2536,[]⟩ 0 ⟨[(12,(.v ah))],[],[0,1,4,13],[0],2536,[]⟩ (.s (.s (.j ⟨[(47,(.v .bool))],[],[0,1,4,12,13],[0],2536,[]⟩ .z) .z) .z))) (.s (.b (.l ⟨[(13,(.v ah))],[],[0,1,4,12],[0],2536,[]⟩ 2 ⟨[(13,(.v ah))],[],[0,1,4,12],[0],2536,[]⟩ (.s (.s (.j ⟨[(66,(.v .bool))],[],[0,1,4,12,13],[0],2536,[]⟩ .z) .z) .z))) (.s .z (.s .z (.s .z (.s .z (.s (.b (.l ⟨[(12,(.v ah)),(13,(.v ah))],[(0,.l ak)],[0,1,4],[],4136,[]⟩ 4 ⟨[(13,(.v ah))],[(0,.l ak)],[0,1],[],4136,[]⟩ (.b (.s (.b (.l ⟨[(12,(.v ah))],[],[0,1,4,13],[0],4136,[]⟩ 6 ⟨[(12,(.v ah))],[],[0,1,4,13],[0],4136,[]⟩ (.s (.s (.j ⟨[(120,(.v .bool))],[],[0,1,4,12,13],[0],4136,[]⟩ .z) .z) .z))) (.s (.b (.l ⟨[(13,(.v ah))],[],[0,1,4,12],[0],4136,[]⟩ 8 ⟨[(13,(.v ah))],[],[0,1,4,12],[0],4136,[]⟩ (.s (.s (.j ⟨[(139,(.v .bool))],[],[0,1,4,12,13],[0],4136,[]⟩ .z) .z) .z))) .z))))) .z))))))))))
theorem yx (n:Nat):aH 188 (yu n) :=cq aA Tryz.func188 yw n (by kernel_rfl) rfl fun _=>by kernel_rfl
def Az:Hn SI:=(.s .z (.s .z (.b (.lx ⟨[(1,(.v ah)),(2,(.v ah)),(3,(.v ah)),(10,(.v .bool)),(11,(.v .bool))],[(0,.l ak)],[0,4],[],1128,[]⟩ 999999 ⟨[],[],[],[],1128,[]⟩ (.b (.s .z (.s .z (.s .z (.s (.j ⟨[(3,(.v ah))],[(0,.l ak)],[0,1,2,4,10,11,12],[],1640,[]⟩ .z) (.s .z (.s (.j ⟨[(13,(.v ah)),(14,(.v ah))],[(0,.l ak)],[0,1,2,3,4,10,11,12],[],2280,[]⟩ .z) (.s (.jx ⟨[],[(0,.l ak)],[0,1,2,3,4,10,11,12,13],[],2280,[]⟩ (.s (.j ⟨[(75,(.v .bool))],[],[0,1,2,3,4,10,11,12,13],[0],2280,[]⟩ .z) .z)) (.s (.s (.j ⟨[(97,(.v .bool))],[],[0,1,2,3,4,10,11,12,13],[0],2280,[]⟩ .z) .z) .z)))))))))))))
theorem yV (n:Nat) (rc:((List aj))->(Int)->(Int)->(Int)->((aj×aj×Unit)->Option Int)->Option (List aj)) (hr:aH 166 (iM rc)):aH 166 (iM (fM n rc)) :=cq (au (sJ n) (au (yU n) (au (sN n) (au vI (au (uT n) (au (nE n) (au (rf n) (au (yx n) (au hr aA))))))))) Tryz.func166 Az n (by kernel_rfl) rfl fun _=>by kernel_rfl
theorem nJ (n:Nat):∀ m,aH 166 (iM (cK n m))
 | 0=>cok (pK Tryz.func166 (by kernel_rfl:Tryz.f166.body=some (Tryz.f166.body.getD .skip)) (by kernel_rfl)) (fun _ _ h=>(by cases h)) rfl
 |m+1=>yV n _ (nJ n m)
def AA (n:Nat):Sig xx:=⟨[.mut ak,.d ah,.d ah,.d ah,.clo [ak,ak] ah],[.mu ak],fun a=>kH n a.1 a.2.1 a.2.2.1 a.2.2.2.1 a.2.2.2.2.1,none⟩
theorem AB (n:Nat):aH 166 (AA n):=nJ n n
def Jt (n:Nat):Sig xx:=⟨[.mut ak,.clo [ak,ak] ah],[.mu ak],fun a=>mY n a.1 a.2.1,none⟩
theorem Ju (n:Nat):aH 141 (Jt n) :=cq (au Dm (au (AB n) aA)) Tryz.func141 .z n (by kernel_rfl) rfl fun _=>by kernel_rfl
def F3:Sig xx:=⟨[.d ak,.d ak],[.d ah],fun a=>kI a.1 a.2.1,none⟩
theorem F4:aH 142 F3 :=cq (au lK aA) Tryz.func142 .z 0 (by kernel_rfl) rfl fun _=>by kernel_rfl
def Ll (n:Nat):Sig xx:=⟨[.d (.sl ak),.d ah,.d ah],[.fresh ak],fun a=>oJ n a.1 a.2.1 a.2.2.1,none⟩
def Lm:Hn SI:=(.s .z (.s .z (.s (.s .z (.b (.l ⟨[(7,(.o 1320)),(15,(.v ah))],[(1320,.l ak)],[1,2,13,14],[],1321,[(7,ak)]⟩ 0 ⟨[(7,(.o 1320))],[(1320,.l ak)],[],[],1321,[]⟩ (.s .z (.s .z (.s (.j ⟨[(7,(.o 1385))],[(1385,.l ak)],[1,2,13,14,15],[],1386,[]⟩ (.b (.s .z (.s (.j ⟨[(28,(.v .bool))],[],[1,2,7,9,13,14,15],[1320,1513],1641,[]⟩ .z) .z)))) .z)))))) (.s .z (.s .z (.s (.s .z (.b (.l ⟨[(10,(.v ah)),(44,(.v ah))],[(1320,.l ak)],[7,42,43],[],1705,[]⟩ 2 ⟨[(10,(.v ah))],[(1320,.l ak)],[7],[],1705,[]⟩ (.s .z (.s .z (.s (.j ⟨[(10,(.v ah))],[(1320,.l ak)],[7,42,43,44],[],1769,[]⟩ (.b (.s .z (.s (.s (.j ⟨[(60,(.v .bool))],[],[7,10,12,42,43,44],[1320,1897],2025,[]⟩ .z) .z) .z)))) .z)))))) .z))))))
theorem Lp (n:Nat):aH 110 (Ll n) :=cq (au (Ju n) (au F4 aA)) Tryz.func110 Lm n (by kernel_rfl) rfl fun _=>by kernel_rfl
def AJ (n:Nat):Sig xx:=⟨[.d (.sl ak),.d (.sl ak),.clo [ak,ak] .bool],[.d .bool],fun a=>gV n a.1 a.2.1 a.2.2.1,none⟩
def AL:Hn SI:=(.s .z (.s .z (.s (.s .z (.b (.lx ⟨[(17,(.v ah))],[],[1,2,15,16],[],1576,[]⟩ 0 ⟨[],[],[],[],1576,[]⟩ .z))) .z)))
theorem AO (n:Nat):aH 111 (AJ n) :=cq aA Tryz.func111 AL n (by kernel_rfl) rfl fun _=>by kernel_rfl
def PS (n:Nat):Sig xx:=⟨[.d (.sl ak)],[.fresh ak],fun a=>sW n a.1,none⟩
def PU:Hn SI:=(.s .z (.s .z (.s (.s .z (.b (.l ⟨[(3,(.o 1320)),(14,(.v ah))],[(1320,.l ah)],[0,12,13],[],1321,[(3,ah)]⟩ 0 ⟨[(3,(.o 1320))],[(1320,.l ah)],[0],[],1321,[]⟩ .z))) (.s .z (.s .z (.s .z (.s .z (.s (.s .z (.b (.l ⟨[(6,(.o 2153)),(7,(.o 2154)),(34,(.v ah))],[(2153,.l ak),(2154,.l ak)],[0,3,8,33],[1320],2155,[(6,ak),(7,ak)]⟩ 2 ⟨[(6,(.o 2153))],[(2153,.l ak)],[],[],2154,[]⟩ (.s .z (.s .z (.s (.b (.s .z (.s .z (.s (.j ⟨[(6,(.o 3115))],[(3115,.l ak)],[0,3,8,10,33,34],[1320,2987],3116,[]⟩ (.s (.j ⟨[(56,(.v .bool))],[],[0,3,6,8,9,10,33,34],[1320,2153,2987],3115,[]⟩ .z) (.s (.s .z (.b (.l ⟨[(11,(.v ah))],[(2153,.l ak)],[0,3,6,8,9,10,33,34],[1320,2987],3499,[]⟩ 4 ⟨[],[(2153,.l ak)],[0,3,6,8,10,33,34],[1320,2987],3499,[]⟩ .z))) .z))) .z)))) .z)))))) .z))))))))
theorem PV (n:Nat):aH 72 (PS n) :=cq (au (tH n) (au (ng n) (au (Lp n) (au (AO n) (au Js aA))))) Tryz.func72 PU n (by kernel_rfl) rfl fun _=>by kernel_rfl
def PW (n:Nat):Sig xx:=⟨[.d (.sl ak),.d ak,.d (.sl bX),.d (.sl (.st SI.Easement)),.d ah],[.fresh ak,.d ah],fun a=>lu n a.1 a.2.1 a.2.2.1 a.2.2.2.1 a.2.2.2.2.1,none⟩
def PX:Hn SI:=(.s .z (.s .z (.s .z (.s .z (.s (.s .z (.b (.l ⟨[(14,(.o 2216)),(37,(.v ah))],[(2216,.l ak)],[3,4,12,35,36],[1576],2217,[(14,ak)]⟩ 0 ⟨[(14,(.o 2216))],[(2216,.l ak)],[3,4],[],2217,[]⟩ (.s .z (.s .z (.s (.b (.s .z (.s .z (.b (.l ⟨[(14,(.o 2729)),(43,(.v ah))],[(2729,.l ak)],[3,4,12,16,35,36,37,41,42],[1576,2409],2730,[]⟩ 2 ⟨[(14,(.o 2729))],[(2729,.l ak)],[3,4,12,35,36,37],[1576],2730,[]⟩ (.s .z (.s .z (.s (.j ⟨[(14,(.o 2794))],[(2794,.l ak)],[3,4,12,16,35,36,37,41,42,43],[1576,2409],2795,[]⟩ .z) .z)))))))) .z)))))) (.s (.s .z (.b (.l ⟨[(14,(.o 2409)),(62,(.v ah))],[(2409,.l ak)],[4,60,61],[],2410,[]⟩ 4 ⟨[(14,(.o 2409))],[(2409,.l ak)],[],[],2410,[]⟩ (.s .z (.s .z (.s (.j ⟨[(14,(.o 2474))],[(2474,.l ak)],[4,60,61,62],[],2475,[]⟩ (.b (.s .z (.s .z (.s .z (.b (.l ⟨[(14,(.o 3242)),(73,(.v ah))],[(3242,.l ak)],[4,60,61,62,71,72],[],3243,[]⟩ 6 ⟨[(14,(.o 3242))],[(3242,.l ak)],[4,60,61,62],[],3243,[]⟩ .z))))))) .z)))))) .z))))))
theorem PY (n:Nat):aH 33 (PW n) :=cq (au (Yg n) (au D5 (au (Uc n) (au (PV n) aA)))) Tryz.func33 PX n (by kernel_rfl) rfl fun _=>by kernel_rfl
def NG (n:Nat):Sig xx:=⟨[.d (.st SI.Town),.d ah,.d ah,.d ah],[.fresh (.sl ak),.d ah],fun a=>envelope_Rooms n a.1 a.2.1 a.2.2.1 a.2.2.2.1,none⟩
def NH:Hn SI:=(.s .z (.s .z (.s (.b (.s .z (.s .z (.s (.j ⟨[(36,(.v .bool))],[],[1,2,3,4,10],[1000,1640],2024,[]⟩ .z) .z)))) (.s .z (.s (.jx ⟨[(12,(.o 2088))],[(2088,.l ak)],[1,2,3,4,10],[1000,1640],2089,[(12,ak)]⟩ .z) (.s .z (.s (.s .z (.b (.l ⟨[(16,(.o 2409)),(69,(.v ah))],[(2409,.l (.st SI.Easement))],[1,2,3,4,10,12,67,68],[1000,1640,2088],2410,[(16,(.st SI.Easement))]⟩ 1 ⟨[(16,(.o 2409))],[(2409,.l (.st SI.Easement))],[1,2,3,4,10,12],[1000,1640,2088],2410,[]⟩ (.s .z (.s .z (.s (.j ⟨[(16,(.o 2474))],[(2474,.l (.st SI.Easement))],[1,2,3,4,10,12,67,68,69],[1000,1640,2088],2475,[]⟩ (.b (.s .z (.s (.j ⟨[(81,(.v .bool))],[],[1,2,3,4,10,12,16,18,67,68,69],[1000,1640,2088,2409,2602],2730,[]⟩ .z) .z)))) .z)))))) (.s .z (.s .z (.s .z (.s (.s .z (.b (.lx ⟨[(22,(.o 3498)),(98,(.v ah))],[(3498,.l (.sl ak))],[12,16,19,21,97],[2088,2409,2794,3178],3499,[(22,(.sl ak))]⟩ 3 ⟨[(22,(.o 3498))],[(3498,.l (.sl ak))],[],[],3499,[]⟩ .z))) .z)))))))))))
theorem Ca (n:Nat):aH 9 (NG n) :=cq (au (Nf n) (au (mq n) (au (vN n) (au (aaB n) (au (OV n) (au (qO n) (au (PY n) aA))))))) Tryz.func9 NH n (by kernel_rfl) rfl fun _=>by kernel_rfl
def acs (n:Nat):Sig xx:=⟨[.d (.sl ak),.d (.sl ak)],[.d .bool],fun a=>xR n a.1 a.2.1,none⟩
def acu:Hn SI:=(.s .z (.s .z (.s (.s .z (.b (.lx ⟨[(5,(.v ah))],[],[0,1],[],1448,[]⟩ 0 ⟨[],[],[],[],1448,[]⟩ .z))) .z)))
theorem Ud (n:Nat):aH 29 (acs n) :=cq aA Tryz.func29 acu n (by kernel_rfl) rfl fun _=>by kernel_rfl
def F5 (n:Nat):Sig xx:=⟨[.d (.sl (.sl ak)),.clo [(.sl ak)] .bool],[.d ah],fun a=>o8 n a.1 a.2.1,none⟩
def F6:Hn SI:=(.s .z (.s (.s .z (.b (.lx ⟨[(8,(.v ah))],[],[0,1,7],[],1256,[]⟩ 0 ⟨[],[],[],[],1256,[]⟩ .z))) .z))
theorem F7 (n:Nat):aH 88 (F5 n) :=cq aA Tryz.func88 F6 n (by kernel_rfl) rfl fun _=>by kernel_rfl
def Cb (n:Nat):Sig xx:=⟨[.d (.sl (.sl ak)),.clo [(.sl ak)] .bool],[.d .bool],fun a=>iJ n a.1 a.2.1,none⟩
theorem Cc (n:Nat):aH 44 (Cb n) :=cq (au (F7 n) aA) Tryz.func44 .z n (by kernel_rfl) rfl fun _=>by kernel_rfl
def G5 (n:Nat):Sig xx:=⟨[.d (.sl ak)],[.d .bool],fun a=>lI n a.1,none⟩
theorem G6 (n:Nat):aH 45 (G5 n) :=cq (au (mq n) aA) Tryz.func45 .z n (by kernel_rfl) rfl fun _=>by kernel_rfl
def NI (n:Nat):Sig xx:=⟨[.d (.sl (.sl ak))],[.fresh dJ,.d ah],fun a=>jT n a.1,none⟩
def NJ:Hn SI:=(.s .z (.s (.s (.j ⟨[(14,(.v .bool))],[],[0],[],1128,[]⟩ .z) .z) (.s .z (.s (.s .z (.b (.l ⟨[(4,(.o 1384)),(17,(.v ah))],[(1384,.l dJ)],[15,16],[],1385,[(4,dJ)]⟩ 0 ⟨[(4,(.o 1384))],[(1384,.l dJ)],[],[],1385,[]⟩ (.s .z (.s .z (.s (.j ⟨[(4,(.o 1449))],[(1449,.l dJ)],[15,16,17],[],1450,[]⟩ (.b (.s .z (.s .z (.b (.s .z (.s .z (.s (.j ⟨[(39,(.v .bool))],[],[4,5,6,7,15,16,17],[1384],2217,[]⟩ .z) .z)))))))) .z)))))) .z))))
theorem Ce (n:Nat):aH 16 (NI n) :=cq (au (Cc n) (au (G6 n) (au (vF n) (au vv aA)))) Tryz.func16 NJ n (by kernel_rfl) rfl fun _=>by kernel_rfl
def aaE (n:Nat):Sig xx:=⟨[],[.d .bool],fun _=>Br n,none⟩
def aaF:Hn SI:=(.s .z (.s .z (.s (.f [5]) (.s .z (.s .z (.s (.j ⟨[(5,(.v .bool))],[],[1,2,3],[1128],2216,[]⟩ .z) .z))))))
theorem aaG (n:Nat):aH 6 (aaE n) :=cq (au UN (au (Ca n) (au (Ud n) (au (Ce n) (au (vN n) (au (qO n) aA)))))) Tryz.func6 aaF n (by kernel_rfl) rfl fun _=>by kernel_rfl
def aek (n:Nat):Sig xx:=⟨[.d (.st SI.Town)],[.d .bool],fun a=>Qd n a.1,none⟩
def ael:Hn SI:=(.s .z (.s .z (.s (.s (.j ⟨[(48,(.v .bool))],[],[1,3],[1000,1256],1384,[]⟩ .z) .z) (.s (.s .z (.b (.lx ⟨[(4,(.v ah))],[],[1,3],[1000,1256],1448,[]⟩ 0 ⟨[],[],[1],[1000],1448,[]⟩ (.s .z (.s (.b (.s (.j ⟨[(73,(.v .bool))],[],[1,3,4],[1000,1256],1768,[]⟩ .z) .z)) .z))))) (.s (.s .z (.b (.lx ⟨[(5,(.v ah))],[],[1],[1000],1512,[]⟩ 2 ⟨[],[],[1],[1000],1512,[]⟩ .z))) (.s (.s .z (.b (.lx ⟨[(6,(.v ah))],[],[1],[1000],1576,[]⟩ 4 ⟨[],[],[],[],1576,[]⟩ .z))) .z))))))
theorem aem (n:Nat):aH 7 (aek n) :=cq aA Tryz.func7 ael n (by kernel_rfl) rfl fun _=>by kernel_rfl
def aen (n:Nat):Sig xx:=⟨[.d (.sl ak)],[.d ah],fun a=>Qe n a.1,none⟩
def aeo:Hn SI:=(.s .z (.s .z (.s .z (.s (.s .z (.b (.l ⟨[(3,(.v ah)),(11,(.v ah))],[],[9,10],[],1512,[]⟩ 0 ⟨[(3,(.v ah))],[],[],[],1512,[]⟩ .z))) .z))))
theorem aep (n:Nat):aH 22 (aen n) :=cq (au (mq n) (au TD aA)) Tryz.func22 aeo n (by kernel_rfl) rfl fun _=>by kernel_rfl
def aer (n:Nat):Sig xx:=⟨[.d (.sl ak),.d (.sl ak)],[.d .bool],fun a=>Qf n a.1 a.2.1,none⟩
theorem aes (n:Nat):aH 52 (aer n) :=cq (au (vF n) aA) Tryz.func52 .z n (by kernel_rfl) rfl fun _=>by kernel_rfl
def acv (n:Nat):Sig xx:=⟨[.d (.sl dJ)],[.d .bool],fun a=>uz n a.1,none⟩
def acw:Hn SI:=(.s .z (.s .z (.s (.s .z (.b (.lx ⟨[(11,(.v ah))],[],[0,9,10],[],1448,[]⟩ 0 ⟨[],[],[],[],1448,[]⟩ (.s .z (.s .z (.s (.jx ⟨[],[],[0,9,10,11],[],1512,[]⟩ (.b (.s .z (.s (.s (.j ⟨[(42,(.v .bool))],[],[0,3,4,9,10,11],[1704],1896,[]⟩ .z) .z) (.s .z (.s .z (.s (.j ⟨[(68,(.v .bool))],[],[0,9,10,11],[],2472,[]⟩ .z) .z))))))) .z)))))) .z)))
theorem yA (n:Nat):aH 23 (acv n) :=cq (au (mq n) (au (aes n) aA)) Tryz.func23 acw n (by kernel_rfl) rfl fun _=>by kernel_rfl
def acy (n:Nat):Sig xx:=⟨[.d (.sl dJ)],[.fresh (.st SI.Box)],fun a=>KF n a.1,none⟩
def acz:Hn SI:=(.s .z (.s .z (.s .z (.s (.s .z (.b (.l ⟨[(3,(.o 1512)),(13,(.v ah))],[(1512,.l (.st SI.Box))],[11,12],[],1513,[(3,(.st SI.Box))]⟩ 0 ⟨[(3,(.o 1512))],[(1512,.l (.st SI.Box))],[],[],1513,[]⟩ (.s .z (.s .z (.s (.b (.s .z (.s .z (.b (.l ⟨[(3,(.o 2089)),(20,(.v ah))],[(2089,.l (.st SI.Box))],[5,11,12,13,18,19],[1705],2090,[]⟩ 2 ⟨[(3,(.o 2089))],[(2089,.l (.st SI.Box))],[11,12,13],[],2090,[]⟩ .z))))) .z)))))) .z))))
theorem acA (n:Nat):aH 53 (acy n) :=cq (au (yA n) aA) Tryz.func53 acz n (by kernel_rfl) rfl fun _=>by kernel_rfl
def aaH (n:Nat):Sig xx:=⟨[.d (.sl dJ)],[.d ah],fun a=>Bt n a.1,none⟩
def aaI:Hn SI:=(.s .z (.s .z (.s (.s .z (.b (.l ⟨[(3,(.v ah)),(9,(.v ah))],[],[7,8],[1192],1384,[]⟩ 0 ⟨[(3,(.v ah))],[],[],[],1384,[]⟩ .z))) .z)))
theorem aaJ (n:Nat):aH 24 (aaH n) :=cq (au (acA n) (au TD aA)) Tryz.func24 aaI n (by kernel_rfl) rfl fun _=>by kernel_rfl
def PZ:Sig xx:=⟨[.d ak,.ref ak],[.d .bool],fun a=>sZ a.1 a.2.1,none⟩
theorem P5:aH 97 PZ :=cq aA Tryz.func97 .z 0 (by kernel_rfl) rfl fun _=>by kernel_rfl
def G7 (n:Nat):Sig xx:=⟨[.d (.sl ak),.clo [ak] .bool],[.d ah],fun a=>qJ n a.1 a.2.1,none⟩
def G8:Hn SI:=(.s .z (.s (.s .z (.b (.lx ⟨[(8,(.v ah))],[],[0,1,7],[],1256,[]⟩ 0 ⟨[],[],[],[],1256,[]⟩ .z))) .z))
theorem G9 (n:Nat):aH 123 (G7 n) :=cq aA Tryz.func123 G8 n (by kernel_rfl) rfl fun _=>by kernel_rfl
def Dv (n:Nat):Sig xx:=⟨[.d (.sl ak),.clo [ak] .bool],[.d .bool],fun a=>fT n a.1 a.2.1,none⟩
theorem qP (n:Nat):aH 95 (Dv n) :=cq (au (G9 n) aA) Tryz.func95 .z n (by kernel_rfl) rfl fun _=>by kernel_rfl
def Yh (n:Nat):Sig xx:=⟨[.d ak,.ref (.sl ak)],[.d .bool],fun a=>CZ n a.1 a.2.1,none⟩
theorem Yi (n:Nat):aH 96 (Yh n) :=cq (au (qP n) (au P5 aA)) Tryz.func96 .z n (by kernel_rfl) rfl fun _=>by kernel_rfl
def aeu (n:Nat):Sig xx:=⟨[.d (.sl ak),.d (.sl ak)],[.d .bool],fun a=>Qg n a.1 a.2.1,none⟩
theorem aev (n:Nat):aH 56 (aeu n) :=cq (au (qP n) (au (Yi n) aA)) Tryz.func56 .z n (by kernel_rfl) rfl fun _=>by kernel_rfl
def P6 (n:Nat):Sig xx:=⟨[.d dJ,.ref (.st SI.Easement)],[.d .bool],fun a=>ou n a.1 a.2.1,none⟩
theorem P7 (n:Nat):aH 55 (P6 n) :=cq (au (aev n) aA) Tryz.func55 .z n (by kernel_rfl) rfl fun _=>by kernel_rfl
def He (n:Nat):Sig xx:=⟨[.d (.sl dJ),.clo [dJ] .bool],[.d ah],fun a=>qK n a.1 a.2.1,none⟩
def Hf:Hn SI:=(.s .z (.s (.s .z (.b (.lx ⟨[(8,(.v ah))],[],[0,1,7],[],1256,[]⟩ 0 ⟨[],[],[],[],1256,[]⟩ .z))) .z))
theorem Hg (n:Nat):aH 94 (He n) :=cq aA Tryz.func94 Hf n (by kernel_rfl) rfl fun _=>by kernel_rfl
def Dw (n:Nat):Sig xx:=⟨[.d (.sl dJ),.clo [dJ] .bool],[.d .bool],fun a=>fU n a.1 a.2.1,none⟩
theorem qQ (n:Nat):aH 54 (Dw n) :=cq (au (Hg n) aA) Tryz.func54 .z n (by kernel_rfl) rfl fun _=>by kernel_rfl
def Yj (n:Nat):Sig xx:=⟨[.d (.sl (.st SI.Easement)),.d ah,.d (.sl dJ)],[.d .bool],fun a=>C8 n a.1 a.2.1 a.2.2.1,none⟩
def Yk:Hn SI:=(.s .z (.s .z (.s (.s .z (.b (.lx ⟨[(14,(.v ah))],[],[1,2,12,13],[],1448,[]⟩ 0 ⟨[],[],[],[],1448,[]⟩ (.s .z (.s .z (.s (.jx ⟨[],[],[1,2,12,13,14],[],1512,[]⟩ (.b (.s .z (.s (.s (.j ⟨[(27,(.v .bool))],[],[1,2,8,12,13,14],[1640],1768,[]⟩ .z) .z) .z)))) .z)))))) .z)))
theorem Yl (n:Nat):aH 25 (Yj n) :=cq (au (yA n) (au (mq n) (au (qQ n) (au (P7 n) aA)))) Tryz.func25 Yk n (by kernel_rfl) rfl fun _=>by kernel_rfl
def Lr:Sig xx:=⟨[.d ak,.d ah,.d ah],[.d (.st SI.A4_i64)],fun a=>vo a.1 a.2.1 a.2.2.1,none⟩
theorem Ls:aH 125 Lr :=cq aA Tryz.func125 .z 0 (by kernel_rfl) rfl fun _=>by kernel_rfl
def aaK (n:Nat):Sig xx:=⟨[.d ak,.d (.sl bX),.d ah,.d ah],[.d ah],fun a=>Gx n a.1 a.2.1 a.2.2.1 a.2.2.2.1,none⟩
def aaL:Hn SI:=(.s .z (.s .z (.s .z (.s (.s .z (.b (.l ⟨[(9,(.v ah)),(19,(.v ah))],[],[10,17,18],[1448],1768,[]⟩ 0 ⟨[(9,(.v ah))],[],[],[],1768,[]⟩ .z))) .z))))
theorem aaM (n:Nat):aH 100 (aaK n) :=cq (au Ls (au BU aA)) Tryz.func100 aaL n (by kernel_rfl) rfl fun _=>by kernel_rfl
def Ue (n:Nat):Sig xx:=⟨[.d ak,.d (.sl bX),.d (.sl ak)],[.d ah],fun a=>wG n a.1 a.2.1 a.2.2.1,none⟩
def Uf:Hn SI:=(.s .z (.s .z (.s (.s .z (.b (.l ⟨[(7,(.v ah)),(16,(.v ah))],[],[1,3,14,15],[1000],1384,[]⟩ 0 ⟨[(7,(.v ah))],[],[],[],1384,[]⟩ (.s .z (.s .z (.s (.b (.s .z (.s .z (.b (.l ⟨[(7,(.v ah)),(27,(.v ah))],[],[1,3,9,14,15,16,25,26],[1000,1576,2024],2216,[]⟩ 2 ⟨[(7,(.v ah))],[],[1,3,14,15,16],[1000],2216,[]⟩ (.s .z (.s .z (.s (.b (.s .z (.s .z (.b (.l ⟨[(7,(.v ah)),(38,(.v ah))],[],[1,3,9,11,14,15,16,25,26,27,36,37],[1000,1576,2024,2792],2984,[]⟩ 4 ⟨[(7,(.v ah))],[],[1,3,9,14,15,16,25,26,27],[1000,1576,2024],2984,[]⟩ .z))))) .z)))))))) .z)))))) .z)))
theorem Ug (n:Nat):aH 60 (Ue n) :=cq (au (aaM n) aA) Tryz.func60 Uf n (by kernel_rfl) rfl fun _=>by kernel_rfl
def Lu (n:Nat):Sig xx:=⟨[.d dJ,.ref ak,.ref (.sl bX)],[.d .bool],fun a=>oL n a.1 a.2.1 a.2.2.1,none⟩
theorem Lv (n:Nat):aH 59 (Lu n) :=cq (au (Ug n) aA) Tryz.func59 .z n (by kernel_rfl) rfl fun _=>by kernel_rfl
def Uh (n:Nat):Sig xx:=⟨[.d ak,.d (.sl bX),.d (.sl dJ)],[.d .bool],fun a=>qL n a.1 a.2.1 a.2.2.1,none⟩
def Ui:Hn SI:=(.s .z (.s (.s (.j ⟨[(15,(.v .bool))],[],[2,3,4],[1000,1064],1192,[]⟩ .z) .z) .z))
theorem Uj (n:Nat):aH 27 (Uh n) :=cq (au (Ic n) (au (yA n) (au (qQ n) (au (Lv n) aA)))) Tryz.func27 Ui n (by kernel_rfl) rfl fun _=>by kernel_rfl
def agW (n:Nat):Sig xx:=⟨[.d (.sl dJ),.d ah],[.d (.sl ak)],fun a=>ac1 n a.1 a.2.1,none⟩
def agX:Hn SI:=(.s .z (.s (.s .z (.b (.lx ⟨[(9,(.v ah))],[],[1,7,8],[],1256,[]⟩ 0 ⟨[],[],[],[],1256,[]⟩ (.s .z (.s .z (.s (.b (.s .z (.s (.j ⟨[(22,(.v .bool))],[],[1,6,7,8,9],[1448],1576,[]⟩ .z) .z))) .z)))))) .z))
theorem agY (n:Nat):aH 61 (agW n) :=cq aA Tryz.func61 agX n (by kernel_rfl) rfl fun _=>by kernel_rfl
def Ym (n:Nat):Sig xx:=⟨[.d (.sl dJ),.d ah],[.fresh ak],fun a=>xS n a.1 a.2.1,none⟩
theorem Yn (n:Nat):aH 28 (Ym n) :=cq (au (yA n) (au (agY n) (au vv aA))) Tryz.func28 .z n (by kernel_rfl) rfl fun _=>by kernel_rfl
def F8 (n:Nat):Sig xx:=⟨[.d (.st SI.Town),.d ah,.d ah,.d ah,.d ah],[.d .bool],fun a=>kJ n a.1 a.2.1 a.2.2.1 a.2.2.2.1 a.2.2.2.2.1,none⟩
def F9:Hn SI:=(.s .z (.s .z (.s .z (.s (.f [8]) (.s .z (.s .z (.s .z (.s .z (.s .z (.s (.s .z (.b (.l ⟨[(20,(.v ah)),(21,(.v ah))],[],[1,2,3,4,5,11,12,14,15,18,19],[1000,2280,3688],4008,[]⟩ 0 ⟨[(20,(.v ah))],[],[1,2,3,4,5,11,12,14,15,18,19],[1000,2280,3688],4008,[]⟩ .z))) (.s (.s (.j ⟨[(104,(.v .bool))],[],[1,2,3,4,5,11,12,14,18,19,20],[1000,2280,3688],4008,[]⟩ .z) .z) (.s .z (.s .z (.s (.s .z (.b (.l ⟨[(23,(.v .bool)),(24,(.v ah))],[],[3,4,11,12,14,18,19,20,22],[2280,3688,4200],4456,[]⟩ 2 ⟨[(23,(.v .bool))],[],[3,4,11,12,14,18,19,20,22],[2280,3688,4200],4456,[]⟩ (.s .z (.s (.j ⟨[(23,(.v .bool))],[],[3,4,11,12,14,18,19,20,22,24],[2280,3688,4200],4712,[]⟩ .z) .z))))) (.s (.s (.j ⟨[(141,(.v .bool))],[],[3,4,11,12,14],[2280],4456,[]⟩ .z) .z) (.s (.s (.j ⟨[(149,(.v .bool))],[],[4,11,12,14],[2280],4456,[]⟩ .z) .z) .z))))))))))))))))
theorem Ga (n:Nat):aH 5 (F8 n) :=cq (au (aaG n) (au (aem n) (au (Ca n) (au (Ce n) (au (Nf n) (au (OV n) (au (aep n) (au (yA n) (au (aaJ n) (au (Yl n) (au (qO n) (au Ib (au (Uj n) (au (Yn n) (au (Ud n) aA))))))))))))))) Tryz.func5 F9 n (by kernel_rfl) rfl fun _=>by kernel_rfl
end
end Go.Proofs
