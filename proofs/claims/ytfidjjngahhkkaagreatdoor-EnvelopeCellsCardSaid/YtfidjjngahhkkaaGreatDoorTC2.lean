/-
  Printed by wip/gen: that functions of the program compute this.
-/
import Derived.Test.YtfidjjngahhkkaaGreatDoorTC1
open Go.IntKind (i64)
open List (mem_cons mem_append mem_singleton length_append length_cons length_nil map_append)
namespace Go.Proofs
open Go.Gb Go.RowKit
noncomputable section
theorem ad4 {cd:Code} {Q:Exit->St->Prop} {A:List aj} {d i:Int} {r:aj} {pre:List aS} {c:aS} (hp:pre.length+1<=500000)
 (hq:Ev Tryz.prog Tryz.f58.ntmps cd Q (if c.x0=r.x0 then hsM (fO A d i (ji pre)) r pre c else hsM (fO A d i (ji (pre++[c]))) r (pre++[c]) ⟨r.x0,r.x1,[]⟩)):
 Ev Tryz.prog Tryz.f58.ntmps (cA hsJ) (Tt (Ev Tryz.prog Tryz.f58.ntmps cd Q) Q) (hsM (fO A d i (ji pre)) r pre c):=by
 have hp':pre.length<=500000:=by omega
 show Ev _ _ (Code.seq (cA (cA hsJ)) (Code.seq S9 (cB (cB (cA hsJ))))) _ _;refine gH ?_;refine dH (ops:=cO (cA (cA hsJ))) (σ2:=hsM (YM A d i ((pre.length+1:Nat):Int) (ji pre)) r pre c) lF (by kernel_rfl) agk trivial ?_ ?_
 ·refine eH (fun p hp'=>?_) (fun _ _ h=>h) rfl (Ka (E:=[(8,tn ((pre.length+1:Nat):Int)),(7,.ptr 1002 0 0)]) (fun p hp' k hk=>?_) hp')
  ·simp only[YM,fO,bY,mem_cons,List.not_mem_nil,or_false]at hp';rcases hp' with rfl |rfl |rfl |rfl |rfl |rfl |rfl<;>exact⟨rfl,rfl⟩
  ·simp only[mem_cons,List.not_mem_nil,or_false]at hp';rcases hp' with rfl |rfl
   ·simp[refs]at hk
   ·simp[refs]at hk;omega
 refine gH ?_;refine GN (ops:=cO S9) (σ2:=hsM ((30,bo (c.x0 != r.x0))::fO A d i (ji pre)) r pre c) lF mixed (by kernel_rfl) agm agl ⟨by rw[Ww hp'];exact⟨by omega,by omega⟩,Wx hp'⟩ ?_ ?_
 ·refine eH (fun p hp'=>?_) (fun _ _ h=>h) rfl (Ka (E:=[(30,bo (c.x0 != r.x0)),(7,.ptr 1002 0 0)]) (fun p hp' k hk=>?_) hp')
  ·simp only[fO,bY,mem_cons,List.not_mem_nil,or_false]at hp';rcases hp' with rfl |rfl |rfl |rfl |rfl |rfl |rfl<;>exact⟨rfl,rfl⟩
  ·simp only[mem_cons,List.not_mem_nil,or_false]at hp';rcases hp' with rfl |rfl
   ·simp[refs]at hk
   ·simp[refs]at hk;omega
 show Ev _ _ (Code.cond (.tmp 30) Ta (cB (cB (cB (cA hsJ))))) _ _;refine Bo (c.x0 != r.x0) (fun _ _=>rfl) rfl ?_;refine BI (σ2:=hsM (fO A d i (ji pre)) r pre c) ?_ ?_
 ·refine eH (fun p hp'=>?_) (fun _ _ h=>h) rfl (Mh hp');simp only[fO,bY,mem_cons,List.not_mem_nil,or_false]at hp';rcases hp' with rfl |rfl |rfl |rfl |rfl |rfl<;>exact⟨rfl,rfl⟩
 by_cases e:c.x0=r.x0
 ·rw[if_pos e]at hq;rw[show (c.x0 != r.x0)=false by simp[e]];exact IB hq
 rw[if_neg e]at hq;rw[show (c.x0 != r.x0)=true by simp[e]];show Ev _ _ (Code.region _ (cO Ta) false) _ _;have hpl:(pre++[c]).length=pre.length+1:=by simp
 refine dH (ops:=cO Ta) (σ2:=(⟨fO A d i (ji (pre++[c])),[(1000,some ⟨3,dS 2000 (pre++[c])++[nP r]⟩),(1002,some (bx r))],[]⟩:GSt).st (hsF (pre++[c]))) lF (by kernel_rfl) agn
  ⟨trivial,by rw[length_append,lS];rfl,rfl,rfl,by omega,?_⟩ ?_ (ad3 (by omega) hq)
 ·have:(500000:Nat) < maxLen:=by decide
  omega
 refine Fq (fun k=>if k=nid 7 then 1000 else if k=1001 then 2000+pre.length else k) (fun k=>if k=1000 then nid 7 else if k=2000+pre.length then 1001 else k) (fun k=>k≠1000∧k≠2000+pre.length)
  (fun k hk=>?_) (fun j hj=>by rw[if_neg (by omega),if_neg (by omega)]) (fun p hp'=>?_) (fun j o' hj=>?_) rfl (abj (by omega))
 ·by_cases e1:k=nid 7
  ·rw[if_pos e1,if_pos rfl,e1]
  ·rw[if_neg e1];by_cases e2:k=1001
   ·rw[if_pos e2,if_neg (by omega),if_pos rfl,e2]
   ·rw[if_neg e2,if_neg hk.1,if_neg hk.2]
 ·simp only[fO,bY,mem_cons,List.not_mem_nil,or_false]at hp';rcases hp' with rfl |rfl |rfl |rfl |rfl |rfl
  ·exact⟨rfl,fun k hk=>by have:=mem_singleton.1 (show k∈[1002]from hk);omega,rfl⟩
  ·exact⟨rfl,fun k hk=>absurd (show k∈([]:List Nat)from hk) (List.not_mem_nil),rfl⟩
  ·refine⟨rfl,fun k hk=>by have:=mem_singleton.1 (show k∈[nid 7]from hk);simp only[nid]at this;omega,?_⟩;show AV.own 1000 0 (dS 2000 pre++[mQ 1001 c]++[nP r]).length=AV.own 1000 0 ((pre++[c]).length+1);simp only[length_append,lS,length_cons,length_nil,Nat.zero_add]
  ·exact⟨rfl,fun k hk=>absurd (show k∈([]:List Nat)from hk) (List.not_mem_nil),rfl⟩
  ·exact⟨rfl,fun k hk=>absurd (show k∈([]:List Nat)from hk) (List.not_mem_nil),rfl⟩
  ·exact⟨rfl,fun k hk=>absurd (show k∈([]:List Nat)from hk) (List.not_mem_nil),rfl⟩
 ·simp only[GSt.st,lk]at hj;by_cases e0:1000=j
  ·rw[if_pos e0]at hj;injection hj with hj;subst e0 hj;refine⟨nid 7,⟨3,dS 2000 pre++[mQ 1001 c]++[nP r]⟩,rfl,⟨by simp[nid],by simp only[nid];omega⟩,rfl,?_,fun q hq k hk=>?_⟩
   ·simp only[su];congr 1;rw[map_append,map_append,RL];congr 1;congr 1
    conv=>lhs;rw[<- List.map_id (dS 2000 pre)]
    exact List.map_congr_left fun q hq=>(jB q fun k hk=>by
     have:=gV _ _ q hq k hk;rw[if_neg (by simp only[nid];omega),if_neg (by omega)]).symm
   ·rcases mem_append.1 hq with hq |hq
    ·rcases mem_append.1 hq with hq |hq
     ·have:=gV _ _ q hq k hk;omega
     ·rw[mem_singleton]at hq;subst hq;simp[aW,refs]at hk;omega
    ·rw[mem_singleton]at hq;subst hq;simp[aW,refs]at hk
  ·rw[if_neg e0]at hj;by_cases e2:1002=j
   ·rw[if_pos e2]at hj;injection hj with hj;subst e2 hj;refine⟨1002,bx r,rfl,by omega,rfl,rfl,fun q hq k hk=>?_⟩;simp only[bx,mem_singleton]at hq;subst hq;simp[aW,refs]at hk
   ·rw[if_neg e2]at hj;obtain⟨h1,h2,s,h3,rfl⟩:=A7 hj;have hrn:∀ f:Nat->Nat,(⟨2,dZ s.column⟩:aF)=su f ⟨2,dZ s.column⟩:=fun f=>by
     simp only[su];congr 1
     conv=>lhs;rw[<- List.map_id (dZ _)]
     exact List.map_congr_left fun q hq=>(jB q fun k hk=>(mH _ q hq k hk).elim).symm
    by_cases e3:j=2000+pre.length
    ·have hs:s=c:=by
      rw[e3,Nat.add_sub_cancel_left,List.getElem?_append_right (Nat.le_refl _),Nat.sub_self]at h3;injection h3 with h3;exact h3.symm
     subst hs;exact⟨1001,_,rfl,by omega,by rw[if_neg (by simp[nid]),if_pos rfl,e3],hrn _,fun q hq k hk=>(mH _ q hq k hk).elim⟩
    ·have hjl:j - 2000 < pre.length:=(by rw[hpl]at h2;omega);rw[List.getElem?_append_left hjl]at h3;have hjn:j < 600000:=(by rw[hpl]at h2;omega);refine⟨j,⟨2,dZ s.column⟩,?_,⟨by omega,e3⟩,by rw[if_neg (by simp only[nid];omega),if_neg (by omega)],hrn _,fun q hq k hk=>(mH _ q hq k hk).elim⟩;simp only[GSt.st,lk];rw[if_neg (by simp only[nid];omega),if_neg e0,if_neg (by simp only[nid];omega),if_neg e0,if_neg (by omega),if_neg e2];show hsF pre j=_;unfold hsF;rw[if_pos h1,h3];rfl
theorem YN {A:List aj} {d i:Int}:Ot A d i []=(Wu A d i).st fun _=>none:=rfl
theorem w9 {A:List aj} {d i:Int} {pre:List aS} {c:aS}:Ot A d i (pre++[c])=Kb A d i pre c:=by
 unfold Ot;simp
theorem RO {A:List aj} {d i:Int}:Old ((Wu A d i).st fun _=>none):=
 zJ (kz (E:=[]) (fun p hp'=>by cases hp') (by simp[refs])) (fun p hp'=>by cases hp') (fun k o h=>by cases h)
theorem ad5 {A:List aj} {d i:Int} {out:AV} {O:List (Nat×Option aF)} {F:Nat->Option aF}:
 xw Tryz.prog (kD tab) (cO (cA hsB)) (fun _=>an0) F (List.range (cO (cA hsB)).size) ⟨bY A d i out,O,[]⟩=
  some (⟨(13,bo (decide (i < (A.length:Int))))::bY A d i out,O,[(13,none)]⟩,[]):=by kernel_rfl
theorem afR {A:List aj} {d i:Int} {out:AV} {O:List (Nat×Option aF)} {F:Nat->Option aF}:
 xw Tryz.prog (kD tab) (cO (cB (cB (cB hsB)))) (fun _=>an0) F (List.range (cO (cB (cB (cB hsB)))).size) ⟨bY A d i out,O,[]⟩=
  some (⟨(12,tn (i64.wrap (i+1)))::(71,tn (i64.wrap (i+1)))::bY A d i out,O,[(12,none),(71,none)]⟩,[]):=by kernel_rfl
theorem Wy {Q:Exit->St->Prop} {A:List aj} {d:Int} {k:Nat} {pre:List aS} {c:aS} (hk:k < 600000) (hp:pre.length<=500000) (hq:Q .normal (Kb A d ((k+1:Nat):Int) pre c)):
 Ev Tryz.prog Tryz.f58.ntmps (cB (cB (cB hsB))) Q (Kb A d (k:Int) pre c):=by
 show Ev _ _ (Code.region _ (cO (cB (cB (cB hsB)))) false) _ _;refine dH (ops:=cO (cB (cB (cB hsB)))) lF (by kernel_rfl) afR trivial ?_ hq;refine eH (fun p hp'=>?_) (fun _ _ h=>h) rfl (oW hp);simp only[Oq,bY,mem_cons,List.not_mem_nil,or_false]at hp';rcases hp' with rfl |rfl |rfl |rfl |rfl
 ·exact⟨rfl,rfl⟩
 ·exact⟨rfl,rfl⟩
 ·exact⟨rfl,rfl⟩
 ·exact⟨rfl,rfl⟩
 ·refine⟨rfl,?_⟩;show tn (i64.wrap ((k:Int)+1))=tn ((k+1:Nat):Int);rw[ay (by omega)]
theorem ad6 {Q:Exit->St->Prop} {A:List aj} {d:Int} {k:Nat} {r:aj} {pre:List aS} {c:aS} (hr:A[k]? =some r) (hp:pre.length<=500000)
 (hq:Ev Tryz.prog Tryz.f58.ntmps hsJ Q (hsM (fO A d (k:Int) (ji pre)) r pre c)):Ev Tryz.prog Tryz.f58.ntmps hsI Q (Kb A d (k:Int) pre c):=by
 show Ev _ _ (Code.seq (cA hsI) hsJ) _ _;refine gH ?_;refine dH (ops:=cO (cA hsI)) lF (by kernel_rfl) (afh (r:=r)) ⟨by omega,by rw[Int.toNat_natCast,List.getElem?_map,hr];rfl⟩ ?_ hq;refine Fq (fun k=>if k=nid 2 then 1002 else k) (fun k=>if k=1002 then nid 2 else k) (fun k=>k≠1002) (fun k hk=>?_) (fun j hj=>by rw[if_neg (by omega)]) (fun p hp'=>?_) (fun j o' hj=>?_) rfl (Mh hp)
 ·by_cases e:k=nid 2
  ·rw[if_pos e,if_pos rfl,e]
  ·rw[if_neg e,if_neg hk]
 ·simp only[fO,bY,mem_cons,List.not_mem_nil,or_false]at hp';rcases hp' with rfl |rfl |rfl |rfl |rfl |rfl
  ·exact⟨rfl,fun k hk=>by have:=mem_singleton.1 (show k∈[nid 2]from hk);simp only[nid]at this;omega,rfl⟩
  ·exact⟨rfl,fun k hk=>absurd (show k∈([]:List Nat)from hk) (List.not_mem_nil),rfl⟩
  ·exact⟨rfl,fun k hk=>by have:=mem_singleton.1 (show k∈[1000]from hk);omega,rfl⟩
  ·exact⟨rfl,fun k hk=>absurd (show k∈([]:List Nat)from hk) (List.not_mem_nil),rfl⟩
  ·exact⟨rfl,fun k hk=>absurd (show k∈([]:List Nat)from hk) (List.not_mem_nil),rfl⟩
  ·exact⟨rfl,fun k hk=>absurd (show k∈([]:List Nat)from hk) (List.not_mem_nil),rfl⟩
 ·have hfix:∀ (sz:Nat) (rows:List (List AV)),(∀ q∈rows,∀ k∈aW q,k < 600000∧k≠1002)->(⟨sz,rows⟩:aF)=su (fun k=>if k=nid 2 then 1002 else k) ⟨sz,rows⟩∧∀ q∈rows,∀ k∈aW q,k≠1002:=by
   intro sz rows h;refine⟨?_,fun q hq k hk=>(h q hq k hk).2⟩;simp only[su];congr 1
   conv=>lhs;rw[<- List.map_id rows]
   exact List.map_congr_left fun q hq=>(jB q fun k hk=>if_neg (by have:=(h q hq k hk).1;simp only[nid];omega)).symm
  simp only[GSt.st,lk]at hj;by_cases e0:1000=j
  ·rw[if_pos e0]at hj;injection hj with hj;subst e0 hj;obtain⟨g1,g2⟩:=hfix 3 (dS 2000 pre++[mQ 1001 c]) (fun q hq k hk=>by
    rcases mem_append.1 hq with hq |hq
    ·have:=gV _ _ q hq k hk;omega
    ·rw[mem_singleton]at hq;subst hq;simp[aW,refs]at hk;omega)
   exact⟨1000,_,rfl,by omega,rfl,g1,g2⟩
  ·rw[if_neg e0]at hj;by_cases e1:1001=j
   ·rw[if_pos e1]at hj;injection hj with hj;subst e1 hj;obtain⟨g1,g2⟩:=hfix 2 (dZ c.column) (fun q hq k hk=>(mH _ q hq k hk).elim);exact⟨1001,_,rfl,by omega,rfl,g1,g2⟩
   ·rw[if_neg e1]at hj;by_cases e2:1002=j
    ·rw[if_pos e2]at hj;injection hj with hj;subst e2 hj;refine⟨nid 2,bx r,rfl,by simp[nid],rfl,rfl,fun q hq k hk=>?_⟩;simp only[bx,mem_singleton]at hq;subst hq;simp[aW,refs]at hk
    ·rw[if_neg e2]at hj;obtain⟨h1,h2,s,h3,rfl⟩:=A7 hj;obtain⟨g1,g2⟩:=hfix 2 (dZ s.column) (fun q hq k hk=>(mH _ q hq k hk).elim);refine⟨j,_,?_,fun e=>e2 e.symm,if_neg (by simp only[nid];omega),g1,g2⟩;simp only[GSt.st,lk];rw[if_neg (by simp only[nid];omega),if_neg (by simp only[nid];omega),if_neg e0,if_neg e1];exact hj
theorem ad7 {Q:Exit->St->Prop} {A:List aj} {d:Int} {k:Nat} {r:aj} (hr:A[k]? =some r)
 (hq:Ev Tryz.prog Tryz.f58.ntmps hsJ Q ((⟨fO A d (k:Int) .nilsl,[(1002,some (bx r))],[]⟩:GSt).st fun _=>none)):Ev Tryz.prog Tryz.f58.ntmps hsI Q ((Wu A d (k:Int)).st fun _=>none):=by
 show Ev _ _ (Code.seq (cA hsI) hsJ) _ _;refine gH ?_;refine dH (ops:=cO (cA hsI)) lF (by kernel_rfl) (afh (r:=r)) ⟨by omega,by rw[Int.toNat_natCast,List.getElem?_map,hr];rfl⟩ ?_ hq;refine Fq (fun k=>if k=nid 2 then 1002 else k) (fun k=>if k=1002 then nid 2 else k) (fun k=>k≠1002) (fun k hk=>?_) (fun j hj=>by rw[if_neg (by omega)]) (fun p hp'=>?_) (fun j o' hj=>?_) rfl (Kc (E:=[(7,.ptr 1002 0 0)]) fun p hp' k hk=>?_)
 ·by_cases e:k=nid 2
  ·rw[if_pos e,if_pos rfl,e]
  ·rw[if_neg e,if_neg hk]
 ·simp only[fO,bY,mem_cons,List.not_mem_nil,or_false]at hp';rcases hp' with rfl |rfl |rfl |rfl |rfl |rfl
  ·exact⟨rfl,fun k hk=>by have:=mem_singleton.1 (show k∈[nid 2]from hk);simp only[nid]at this;omega,rfl⟩
  ·exact⟨rfl,fun k hk=>absurd (show k∈([]:List Nat)from hk) (List.not_mem_nil),rfl⟩
  ·exact⟨rfl,fun k hk=>absurd (show k∈([]:List Nat)from hk) (List.not_mem_nil),rfl⟩
  ·exact⟨rfl,fun k hk=>absurd (show k∈([]:List Nat)from hk) (List.not_mem_nil),rfl⟩
  ·exact⟨rfl,fun k hk=>absurd (show k∈([]:List Nat)from hk) (List.not_mem_nil),rfl⟩
  ·exact⟨rfl,fun k hk=>absurd (show k∈([]:List Nat)from hk) (List.not_mem_nil),rfl⟩
 ·simp only[GSt.st,lk]at hj;by_cases e2:1002=j
  ·rw[if_pos e2]at hj;injection hj with hj;subst e2 hj;refine⟨nid 2,bx r,rfl,by simp[nid],rfl,rfl,fun q hq k hk=>?_⟩;simp only[bx,mem_singleton]at hq;subst hq;simp[aW,refs]at hk
  ·rw[if_neg e2]at hj;cases hj
 ·rw[mem_singleton]at hp';subst hp';simp[refs]at hk;omega
theorem RP (d:Int) (r:aj):fI d [] r=[if zH d r < zI d r then⟨r.x0,r.x1,[]++[⟨zH d r,zI d r⟩]⟩else⟨r.x0,r.x1,[]⟩]:=by
 unfold fI;by_cases h:zH d r < zI d r
 ·rw[if_pos h,if_pos h];rfl
 ·rw[if_neg h,if_neg h];rfl
theorem RQ (d:Int) (pre:List aS) (c:aS) (r:aj):fI d (pre++[c]) r=
 if c.x0=r.x0 then pre++[if zH d r < zI d r then⟨c.x0,c.x1,c.column++[⟨zH d r,zI d r⟩]⟩else c]
 else (pre++[c])++[if zH d r < zI d r then⟨r.x0,r.x1,[]++[⟨zH d r,zI d r⟩]⟩else⟨r.x0,r.x1,[]⟩]:=by
 unfold fI;by_cases e:c.x0=r.x0
 ·by_cases h:zH d r < zI d r
  ·simp[e,h]
  ·simp[e,h]
 ·by_cases h:zH d r < zI d r
  ·simp[e,h]
  ·simp[e,h]
def RS (k:Nat) (l:List aS):Prop:=l.length<=k∧∀ s∈l,s.column.length<=k
theorem RU {k:Nat} {l:List aS} (h:RS k l) (d:Int) (r:aj):RS (k+1) (fI d l r):=by
 rcases List.eq_nil_or_concat l with rfl |⟨pre,c,rfl⟩
 ·rw[RP];refine⟨by simp,fun s hs=>?_⟩;rw[mem_singleton]at hs;subst hs;split<;>simp
 ·rw[List.concat_eq_append]at h ⊢;rw[RQ];obtain⟨h1,h2⟩:=h;simp only[length_append,length_cons,length_nil]at h1;have hc:=h2 c (by simp);split
  ·refine⟨by simp;omega,fun s hs=>?_⟩;rcases mem_append.1 hs with hs |hs
   ·have:=h2 s (by simp[hs]);omega
   ·rw[mem_singleton]at hs;subst hs;split
    ·simp;omega
    ·omega
  ·refine⟨by simp;omega,fun s hs=>?_⟩;rcases mem_append.1 hs with hs |hs
   ·have:=h2 s hs;omega
   ·rw[mem_singleton]at hs;subst hs;split<;>simp
theorem ad8 {Q:Exit->St->Prop} {K:St->Prop} {A:List aj} {d:Int} {k:Nat} {r:aj} {l:List aS} (hA:A.length < 500000) (hr:A[k]? =some r) (hl:RS k l) (hK:K (Ot A d ((k+1:Nat):Int) (fI d l r))):
 Ev Tryz.prog Tryz.f58.ntmps hsB (Tt K Q) (Ot A d (k:Int) l):=by
 have hk:k < A.length:=(List.getElem?_eq_some_iff.1 hr).1;have hdec:decide ((k:Int) < (A.length:Int))=true:=decide_eq_true (by omega);show Ev _ _ (Code.seq (cA hsB) (Code.seq (cA (cB hsB)) (Code.seq (Code.block (match cA (cB (cB hsB))with | .block i _=>i |_=>0) hsI) (cB (cB (cB hsB)))))) _ _;rcases List.eq_nil_or_concat l with rfl |⟨pre,c,rfl⟩
 ·rw[YN];rw[RP]at hK;refine gH ?_;refine dH (ops:=cO (cA hsB)) (σ2:=(⟨(13,bo true)::bY A d (k:Int) .nilsl,[],[]⟩:GSt).st fun _=>none) lF (by kernel_rfl) ad5 trivial ?_ ?_
  ·refine eH (fun p hp'=>?_) (fun _ _ h=>h) rfl (zJ (kz (E:=[(13,bo true)]) (fun p hp' k hk=>by rw[mem_singleton]at hp';subst hp';simp[refs]at hk) (by simp[refs])) (fun p hp'=>by cases hp') (fun k o h=>by cases h));simp only[bY,mem_cons,List.not_mem_nil,or_false]at hp';rcases hp' with rfl |rfl |rfl |rfl |rfl |rfl
   ·refine⟨rfl,?_⟩;show bo (decide ((k:Int) < (A.length:Int)))=bo true;rw[hdec]
   all_goals exact⟨rfl,rfl⟩
  refine gH ?_;show Ev _ _ (Code.cond (.tmp 13) (cA (cA (cB hsB))) (cB (cA (cB hsB)))) _ _;refine Bo true (fun _ _=>rfl) rfl (IB ?_);refine gH (IC ?_);refine BI (σ2:=(Wu A d (k:Int)).st fun _=>none) ?_ (ad7 hr ?_)
  ·refine eH (fun p hp'=>?_) (fun _ _ h=>h) rfl RO;simp only[Wu,bY,mem_cons,List.not_mem_nil,or_false]at hp';rcases hp' with rfl |rfl |rfl |rfl |rfl<;>exact⟨rfl,rfl⟩
  show Ev _ _ (Code.seq (cA hsJ) (cB hsJ)) _ _;refine gH (acy (RN (by simp) (by simp) ?_));refine Wy (by omega) (by simp) ?_;show K _;rw[<- w9];exact hK
 ·rw[List.concat_eq_append]at hl hK ⊢;obtain⟨h1,h2⟩:=hl;simp only[length_append,length_cons,length_nil]at h1;have hc:=h2 c (by simp);rw[w9];rw[RQ]at hK;refine gH ?_;refine dH (ops:=cO (cA hsB)) (σ2:=(⟨(13,bo true)::bY A d (k:Int) (ji pre),(Oq A d (k:Int) pre c).obj,[]⟩:GSt).st (hsF pre)) lF (by kernel_rfl) ad5 trivial ?_ ?_
  ·refine eH (fun p hp'=>?_) (fun _ _ h=>h) rfl ?_
   ·simp only[bY,mem_cons,List.not_mem_nil,or_false]at hp';rcases hp' with rfl |rfl |rfl |rfl |rfl |rfl
    ·refine⟨rfl,?_⟩;show bo (decide ((k:Int) < (A.length:Int)))=bo true;rw[hdec]
    all_goals exact⟨rfl,rfl⟩
   ·have h:=oW (A:=A) (d:=d) (i:=(k:Int)) (pre:=pre) (c:=c) (by omega);refine⟨fun t j hj=>?_,h.obj⟩;simp only[GSt.st,lk]at hj;by_cases e:13=t
    ·rw[if_pos e]at hj;simp[refs]at hj
    ·rw[if_neg e]at hj;exact h.env t j hj
  refine gH ?_;show Ev _ _ (Code.cond (.tmp 13) (cA (cA (cB hsB))) (cB (cA (cB hsB)))) _ _;refine Bo true (fun _ _=>rfl) rfl (IB ?_);refine gH (IC ?_);refine BI (σ2:=Kb A d (k:Int) pre c) ?_ (ad6 hr (by omega) ?_)
  ·refine eH (fun p hp'=>?_) (fun _ _ h=>h) rfl (oW (by omega));simp only[Oq,bY,mem_cons,List.not_mem_nil,or_false]at hp';rcases hp' with rfl |rfl |rfl |rfl |rfl<;>exact⟨rfl,rfl⟩
  show Ev _ _ (Code.seq (cA hsJ) (cB hsJ)) _ _;refine gH (ad4 (by omega) ?_);by_cases e:c.x0=r.x0
  ·rw[if_pos e]at hK ⊢;refine RN (by omega) (by omega) (Wy (by omega) (by omega) ?_);show K _;rw[<- w9];exact hK
  ·rw[if_neg e]at hK ⊢;refine RN (by simp;omega) (by simp) (Wy (by omega) (by simp;omega) ?_);show K _;rw[<- w9];exact hK
theorem acz {A:List aj} {d i:Int} {l:List aS} {E:List (Nat×AV)} (hE:∀ p∈E,p.1∉[1,5,10,11,12]∧p.2=bo false) (hl:l.length<=500000):
 ∃ L F,Ot A d i l=(⟨bY A d i (match l.getLast? with |none=> .nilsl |some _=> .own 1000 0 l.length),L,[]⟩:GSt).st F∧
   Gb.Told ((⟨E++bY A d i (match l.getLast? with |none=> .nilsl |some _=> .own 1000 0 l.length),L,[]⟩:GSt).st F) (Ot A d i l)∧
   Old ((⟨E++bY A d i (match l.getLast? with |none=> .nilsl |some _=> .own 1000 0 l.length),L,[]⟩:GSt).st F):=by
 have hlk:∀ (E:List (Nat×AV)),(∀ p∈E,p.1∉[1,5,10,11,12]∧p.2=bo false)->∀ (out:AV) (t:Nat),t∈[1,5,10,11,12]->lk (E++bY A d i out) t=lk (bY A d i out) t:=by
  intro E hE out t ht
  induction E with
  |nil=>rfl
  |cons p E ih=>
   simp only[List.cons_append,lk];rw[if_neg (fun e:p.1=t=>(hE p (by simp)).1 (by rw[e];exact ht))];exact ih fun q hq=>hE q (by simp[hq])
 have hen:∀ (out:AV),∀ p∈bY A d i out,p.1∈[1,5,10,11,12]∧(lk (bY A d i out) p.1).getD .undef=p.2:=by
  intro out p hp;simp only[bY,mem_cons,List.not_mem_nil,or_false]at hp;rcases hp with rfl |rfl |rfl |rfl |rfl<;>exact⟨by simp,rfl⟩
 have hEr:∀ p∈E,∀ k∈refs p.2,k < 1000000:=fun p hp k hk=>by rw[(hE p hp).2]at hk;simp[refs]at hk
 rcases List.eq_nil_or_concat l with rfl |⟨pre,c,rfl⟩
 ·refine⟨[],fun _=>none,rfl,?_,?_⟩
  ·refine eH (L2:=Wu A d i) (fun p hp=>⟨rfl,?_⟩) (fun _ _ h=>h) rfl RO;obtain⟨h1,h2⟩:=hen .nilsl p hp;show (lk (E++bY A d i .nilsl) p.1).getD .undef=p.2;rw[hlk E hE _ _ h1];exact h2
  ·exact zJ (kz hEr (by simp[refs])) (fun p hp'=>by cases hp') (fun k o h=>by cases h)
 ·rw[List.concat_eq_append]at hl ⊢;have hpl:(pre++[c]).length=pre.length+1:=by simp
  have hp:pre.length<=500000:=by omega
  refine⟨[(1000,some ⟨3,dS 2000 pre++[mQ 1001 c]⟩),(1001,some ⟨2,dZ c.column⟩)],hsF pre,?_,?_,?_⟩
  ·rw[w9];simp only[List.getLast?_append,List.getLast?_singleton,Option.some_or,hpl];rfl
  ·rw[w9];simp only[List.getLast?_append,List.getLast?_singleton,Option.some_or,hpl];refine eH (fun p hp=>⟨rfl,?_⟩) (fun _ _ h=>h) rfl (oW (by omega));obtain⟨h1,h2⟩:=hen (ji pre) p hp;show (lk (E++bY A d i (ji pre)) p.1).getD .undef=p.2;rw[hlk E hE _ _ h1];exact h2
  ·simp only[List.getLast?_append,List.getLast?_singleton,Option.some_or,hpl];have h:=oW (A:=A) (d:=d) (i:=i) (pre:=pre) (c:=c) (by omega);exact⟨(zJ (O:=[]) (ok:=[]) (F:=fun _=>none) (kz hEr (by simp[refs])) (fun p hp'=>by cases hp') (fun k o h=>by cases h)).env,h.obj⟩
theorem ae4 {Q:Exit->St->Prop} {A:List aj} {d:Int} (hA:A.length < 500000) (hQ:Q (.exit 0) (Ot A d (A.length:Int) (A.foldl (fI d) []))):Ev Tryz.prog Tryz.f58.ntmps (.loop hsB) Q (Ot A d 0 []):=by
 refine aej (fun n σ=>∃ k,k<=A.length∧n+k=A.length+1∧RS k ((A.take k).foldl (fI d) [])∧σ=Ot A d (k:Int) ((A.take k).foldl (fI d) [])) ?_ ?_ (A.length+1) ⟨0,by omega,by omega,⟨by simp,by simp⟩,rfl⟩
 ·rintro σ ⟨k,h1,h2,_⟩;omega
 ·rintro n σ ⟨k,h1,h2,h3,rfl⟩;rcases Nat.lt_or_ge k A.length with hk |hk
  ·have hr:A[k]? =some A[k]:=List.getElem?_eq_getElem hk;have e:(A.take (k+1)).foldl (fI d) []=fI d ((A.take k).foldl (fI d) []) A[k]:=(by rw[List.take_add_one,hr,List.foldl_append];rfl);refine ad8 hA hr h3 ⟨k+1,by omega,by omega,?_,?_⟩
   ·rw[e];exact RU h3 d _
   ·rw[e]
  ·have hkA:k=A.length:=(by omega);subst hkA;rw[List.take_length]at h3 ⊢;generalize hl:A.foldl (fI d) []=l at hQ h3;obtain⟨L,F,e1,e2,e3⟩:=acz (A:=A) (d:=d) (i:=(A.length:Int)) (l:=l) (E:=[(13,bo false)]) (fun p hp=>by rw[mem_singleton]at hp;subst hp;exact⟨by simp,rfl⟩) (by have:=h3.1;omega);have hsub:Ev Tryz.prog Tryz.f58.ntmps hsB (Tt (fun σ=>∃ k,k<=A.length∧n+k=A.length+1∧RS k ((A.take k).foldl (fI d) [])∧σ=Ot A d (k:Int) ((A.take k).foldl (fI d) [])) Q) ((⟨bY A d (A.length:Int) (match l.getLast? with |none=> .nilsl |some _=> .own 1000 0 l.length),L,[]⟩:GSt).st F):=by
    show Ev _ _ (Code.seq (cA hsB) (Code.seq (Code.cond (.tmp 13) (cA (cA (cB hsB))) (.exit 0)) (cB (cB hsB)))) _ _;refine gH ?_;refine dH (ops:=cO (cA hsB)) lF (by kernel_rfl) ad5 trivial (σ2:=(⟨[(13,bo false)]++bY A d (A.length:Int) (match l.getLast? with |none=> .nilsl |some _=> .own 1000 0 l.length),L,[]⟩:GSt).st F) ?_ ?_
    ·refine eH (fun p hp'=>?_) (fun _ _ h=>h) rfl e3;have hdec:decide ((A.length:Int) < (A.length:Int))=false:=(by simp);simp only[bY,List.cons_append,List.nil_append,mem_cons,List.not_mem_nil,or_false]at hp';rcases hp' with rfl |rfl |rfl |rfl |rfl |rfl
     ·refine⟨rfl,?_⟩;show bo (decide ((A.length:Int) < (A.length:Int)))=bo false;rw[hdec]
     all_goals exact⟨rfl,rfl⟩
    refine gH ?_;refine Bo false (fun _ _=>rfl) rfl (BI e2 (aaP ?_));exact hQ
   rw[e1];exact hsub
theorem agt {E:List (Nat×AV)} {O:List (Nat×Option aF)} {F:Nat->Option aF}:xw Tryz.prog (kD tab) (cO (cA hsC)) (fun _=>an0) F (List.range (cO (cA hsC)).size) ⟨E,O,[]⟩=some (⟨(4,.nilsl)::E,O,[(4,none)]⟩,[]):=by kernel_rfl
theorem agu {E:List (Nat×AV)} {O:List (Nat×Option aF)} {F:Nat->Option aF}:xw Tryz.prog (kD tab) (cO (cA (cB hsC))) (fun _=>an0) F (List.range (cO (cA (cB hsC))).size) ⟨E,O,[]⟩=some (⟨(5,.nilsl)::E,O,[(5,none)]⟩,[]):=by kernel_rfl
noncomputable def agv (n:Int):Nat->Ann
 | 1=>⟨.num n,[],[],false⟩
 |_=>an0
theorem agw {A:List aj} {E:List (Nat×AV)} {O:List (Nat×Option aF)} {F:Nat->Option aF}:
 xw Tryz.prog (kD tab) (cO (cA (cA (cB (cB hsC))))) (agv (A.length:Int)) F (List.range (cO (cA (cA (cB (cB hsC))))).size) ⟨(0,.t (.sl (A.map iV)))::E,O,[]⟩=
  some (⟨(12,tn 0)::(11,tn (A.length:Int))::(10,.t (.sl (A.map iV)))::(0,.t (.sl (A.map iV)))::E,O,[(12,none),(11,none),(10,none)]⟩,[(A.length:Int)=((A.map iV).length:Int)]):=by kernel_rfl
theorem ad9 {A:List aj} {d i:Int} {out:AV} {O:List (Nat×Option aF)} {F:Nat->Option aF}:
 xw Tryz.prog (kD tab) (cO (cA (cB (cB (cB hsC))))) (fun _=>an0) F (List.range (cO (cA (cB (cB (cB hsC))))).size) ⟨bY A d i out,O,[]⟩=
  some (⟨(4,out)::(72,out)::bY A d i out,O,[(4,none),(72,none)]⟩,[]):=by kernel_rfl
theorem aea {get:Nat->Option aF}:∀ (l:List aS) (k:Nat),1000 < k->(∀ j s,l[j]? =some s->get (k+j)=some ⟨2,dZ s.column⟩)->ExpRows get (some 1000) [] (dS k l) (l.map Jp)
 |[],_,_,_=>trivial
 |s::l,k,hk,h=>by
  refine⟨⟨rfl,rfl,⟨by simp;omega,by simp[kept],⟨2,dZ s.column⟩,s.column.map Ah,by simpa using h 0 s rfl,?_,by simp,rfl⟩,trivial⟩,aea l (k+1) (by omega) fun j s' hj=>?_⟩
  ·simp only[List.drop_zero];exact List.take_of_length_le (by simp[aD])
  ·have:=h (j+1) s' (by simpa using hj)
   rwa [show k+(j+1)=k+1+j by omega]at this
theorem ExpRows.app {get:Nat->Option aF} {fk:Option Nat} {q:List AV} {t:List Tree} (hq:ExpL get fk [] q t):∀ {R:List (List AV)} {S:List (List Tree)},ExpRows get fk [] R S->ExpRows get fk [] (R++[q]) (S++[t])
 |[],[],_=>⟨hq,trivial⟩
 |_::_,_::_,h=>⟨h.1,ExpRows.app hq h.2⟩
 |[],_::_,h=>h.elim
 |_::_,[],h=>h.elim
theorem afS {A:List aj} {d i:Int} {l:List aS} (hl:l.length<=500000):
 Ev Tryz.prog Tryz.f58.ntmps (cB (cB (cB hsC))) (afn (kD tab) Tryz.f58.results.toList (.one (.fresh 3 (l.map Jp))) []) (Ot A d i l):=by
 show Ev _ _ (Code.seq (cA (cB (cB (cB hsC)))) Code.ret) _ _;refine gH ?_;rcases List.eq_nil_or_concat l with rfl |⟨pre,c,rfl⟩
 ·rw[YN];refine dH (ops:=cO (cA (cB (cB (cB hsC))))) (σ2:=(⟨(4,.nilsl)::bY A d i .nilsl,[],[]⟩:GSt).st fun _=>none) lF (by kernel_rfl) ad9 trivial ?_ (Zl ⟨[.nilsl],none,rfl,rfl,fun j p hj=>by simp at hj⟩);refine eH (fun p hp'=>?_) (fun _ _ h=>h) rfl (zJ (kz (E:=[(4,.nilsl)]) (fun p hp' k hk=>by rw[mem_singleton]at hp';subst hp';simp[refs]at hk) (by simp[refs])) (fun p hp'=>by cases hp') (fun k o h=>by cases h));simp only[bY,mem_cons,List.not_mem_nil,or_false]at hp';rcases hp' with rfl |rfl |rfl |rfl |rfl |rfl<;>exact⟨rfl,rfl⟩
 ·rw[List.concat_eq_append]at hl ⊢;simp only[length_append,length_cons,length_nil]at hl;rw[w9];refine dH (ops:=cO (cA (cB (cB (cB hsC))))) (σ2:=(⟨(4,ji pre)::bY A d i (ji pre),(Oq A d i pre c).obj,[]⟩:GSt).st (hsF pre)) lF (by kernel_rfl) ad9 trivial ?_ (Zl ⟨[ji pre],some 1000,rfl,?_,fun j p hj=>by simp at hj⟩)
  ·refine eH (fun p hp'=>?_) (fun _ _ h=>h) rfl ?_
   ·simp only[bY,mem_cons,List.not_mem_nil,or_false]at hp';rcases hp' with rfl |rfl |rfl |rfl |rfl |rfl<;>exact⟨rfl,rfl⟩
   ·have h:=oW (A:=A) (d:=d) (i:=i) (pre:=pre) (c:=c) (by omega);refine⟨fun t j hj=>?_,h.obj⟩;simp only[GSt.st,lk]at hj;by_cases e:4=t
    ·rw[if_pos e]at hj;simp[refs]at hj;omega
    ·rw[if_neg e]at hj;exact h.env t j hj
  ·refine⟨rfl,by simp[kept],rfl,⟨3,dS 2000 pre++[mQ 1001 c]⟩,rfl,rfl,?_,by simp⟩;rw[List.take_of_length_le (by simp[lS]),map_append];have hq:ExpL ((⟨(4,ji pre)::bY A d i (ji pre),(Oq A d i pre c).obj,[]⟩:GSt).st (hsF pre)).obj (some 1000) [] (mQ 1001 c) (Jp c):=
    ⟨rfl,rfl,⟨by simp,by simp[kept],⟨2,dZ c.column⟩,c.column.map Ah,rfl,by rw[List.drop_zero];exact List.take_of_length_le (by simp[aD]),by simp,rfl⟩,trivial⟩
   refine ExpRows.app hq (aea pre 2000 (by omega) fun j s hj=>?_);simp only[GSt.st,Oq,lk];rw[if_neg (by omega),if_neg (by omega)];show hsF pre (2000+j)=_;unfold hsF;rw[if_pos (by omega),Nat.add_sub_cancel_left,hj];rfl
theorem Nz (d:Int):∀ (A:List aj) (k:Nat) (l:List aS),RS k l->RS (k+A.length) (A.foldl (fI d) l)
 |[],_,_,h=>h
 |r::A,k,l,h=>by
  have:=Nz d A (k+1) _ (RU h d r);simp only[List.foldl_cons,length_cons]
  rwa [show k+(A.length+1)=k+1+A.length by omega]
theorem aeb {A:List aj} {d:Int} (hA:A.length < 500000):
 Ev Tryz.prog Tryz.f58.ntmps hsC (afn (kD tab) Tryz.f58.results.toList (.one (.fresh 3 ((A.foldl (fI d) []).map Jp))) []) ((⟨[(0,.t (.sl (A.map iV))),(1,tn d)],[],[]⟩:GSt).st fun _=>none):=by
 have old:∀ E:List (Nat×AV),(∀ p∈E,∀ k∈refs p.2,k < 1000000)->Old ((⟨E,[],[]⟩:GSt).st fun _=>none):=fun E hE=>zJ hE (fun p hp'=>by cases hp') (fun k o h=>by cases h);have hfit:=Nz d A 0 [] ⟨by simp,by simp⟩;show Ev _ _ (Code.seq (cA hsC) (Code.seq (cA (cB hsC)) (Code.seq (Code.seq (cA (cA (cB (cB hsC)))) (Code.block 0 (Code.loop hsB))) (cB (cB (cB hsC)))))) _ _;refine gH ?_;refine dH (ops:=cO (cA hsC)) (σ2:=(⟨[(0,.t (.sl (A.map iV))),(1,tn d)],[],[]⟩:GSt).st fun _=>none) lF (by kernel_rfl) agt trivial ?_ ?_
 ·refine eH (fun p hp'=>?_) (fun _ _ h=>h) rfl (old _ fun p hp' k hk=>?_)
  ·simp only[mem_cons,List.not_mem_nil,or_false]at hp';rcases hp' with rfl |rfl<;>exact⟨rfl,rfl⟩
  ·simp only[mem_cons,List.not_mem_nil,or_false]at hp';rcases hp' with rfl |rfl<;>simp[refs]at hk
 refine gH ?_;refine dH (ops:=cO (cA (cB hsC))) (σ2:=(⟨[(0,.t (.sl (A.map iV))),(1,tn d),(5,.nilsl)],[],[]⟩:GSt).st fun _=>none) lF (by kernel_rfl) agu trivial ?_ ?_
 ·refine eH (fun p hp'=>?_) (fun _ _ h=>h) rfl (old _ fun p hp' k hk=>?_)
  ·simp only[mem_cons,List.not_mem_nil,or_false]at hp';rcases hp' with rfl |rfl |rfl<;>exact⟨rfl,rfl⟩
  ·simp only[mem_cons,List.not_mem_nil,or_false]at hp';rcases hp' with rfl |rfl |rfl<;>simp[refs]at hk
 refine gH (gH ?_);refine dH (ops:=cO (cA (cA (cB (cB hsC))))) (σ2:=(Wu A d 0).st fun _=>none) lF (by kernel_rfl) agw (by simp[fD]) ?_ ?_
 ·refine eH (fun p hp'=>?_) (fun _ _ h=>h) rfl RO;simp only[Wu,bY,mem_cons,List.not_mem_nil,or_false]at hp';rcases hp' with rfl |rfl |rfl |rfl |rfl<;>exact⟨rfl,rfl⟩
 refine IC (ae4 hA ?_);exact afS (by have:=hfit.1;omega)
theorem aaF:aH 58 RI:=by
 have hb:Tryz.f58.body=some hsC:=by kernel_rfl
 have hn : (Tryz.f58.name == "runtime.NumGoroutine") = false := by kernel_rfl
 refine cok (oM Tryz.func58 hb hn) (fun a r e=>?_) rfl;simp only[RI,Ef]at e;split at e
 ·rename_i hA;injection e with e;subst e;exact Tv (args:=[.t (.sl (List.map iV a.1)),tn a.2.1]) (os:=[]) (os':=[]) lF Tryz.func58 hb hn (by show 2<=Tryz.f58.ntmps;decide +kernel) (fun k hk=>by simp[aW,refs]at hk) (by simp) rfl (aeb hA)
 ·cases e
def YO (n:Nat):Sig xx:=⟨[.d (.sl (.st SI.ospan)),.d (.sl (.st SI.ospan))],[.fresh (.st SI.ospan)],fun a=>Fy n a.1 a.2.1,none⟩
def YP:Hn SI:=(.s .z (.s .z (.s (.s .z (.b (.l ⟨[(5,(.o 1320)),(13,(.v ah))],[(1320,.l (.st SI.ospan))],[1,11,12],[],1321,[(5,(.st SI.ospan))]⟩ 0 ⟨[(5,(.o 1320))],[(1320,.l (.st SI.ospan))],[],[],1321,[]⟩ (.s .z (.s .z (.s (.b (.s .z (.s .z (.b (.l ⟨[(5,(.o 1833)),(19,(.v ah))],[(1833,.l (.st SI.ospan))],[1,7,11,12,13,17,18],[1513],1834,[]⟩ 2 ⟨[(5,(.o 1833))],[(1833,.l (.st SI.ospan))],[1,11,12,13],[],1834,[]⟩ (.s .z (.s .z (.s (.j ⟨[(5,(.o 1898))],[(1898,.l (.st SI.ospan))],[1,7,11,12,13,17,18,19],[1513],1899,[]⟩ .z) .z)))))))) .z)))))) .z)))
theorem YQ (n:Nat):aH 117 (YO n) :=cq aB Tryz.func117 YP n (by kernel_rfl) rfl fun _=>by kernel_rfl
def RX (n:Nat):Sig xx:=⟨[.d (.st SI.slab),.mref .bool,.mref ah,.mref ah,.mref ah,.mref .bool,.mref (.sl (.st SI.ospan))],[.mr .bool,.mr ah,.mr ah,.mr ah,.mr .bool,.mr (.sl (.st SI.ospan))],fun a=>BU n a.1 a.2.1 a.2.2.1 a.2.2.2.1 a.2.2.2.2.1 a.2.2.2.2.2.1 a.2.2.2.2.2.2.1,none⟩
def RY:Hn SI:=(.s .z (.b (.s (.j ⟨[(14,(.v .bool))],[],[1,2,5,6,7],[0,1,2,3,4,5,1000],1064,[]⟩ .z) .z)))
theorem RZ (n:Nat):aH 116 (RX n) :=cq (au (YQ n) aB) Tryz.func116 RY n (by kernel_rfl) rfl fun _=>by kernel_rfl
def YR (n:Nat):Sig xx:=⟨[.d (.sl (.st SI.slab)),.d ah,.d ah],[.d (.sl (.st SI.ospan))],fun a=>Al n a.1 a.2.1 a.2.2.1,none⟩
def YS:Hn SI:=(.s .z (.s .z (.s .z (.s .z (.s (.s .z (.b (.l ⟨[(20,(.v ah))],[(1000,.c 1 [[(.v ah)]]),(1064,.c 1 [[(.v ah)]]),(1384,.c 1 [[(.v ah)]]),(1448,.c 1 [[(.v .bool)]]),(1512,.c 1 [[(.v .bool)]]),(1768,.c 1 [[(.v (.sl (.st SI.ospan)))]])],[4,5,7,8,10,11,18,19],[],2152,[]⟩ 0 ⟨[],[(1000,.c 1 [[(.v ah)]]),(1064,.c 1 [[(.v ah)]]),(1384,.c 1 [[(.v ah)]]),(1448,.c 1 [[(.v .bool)]]),(1768,.c 1 [[(.v (.sl (.st SI.ospan)))]])],[4,5,7,8,10],[],2152,[]⟩ .z))) (.s (.s (.j ⟨[(35,(.v .bool))],[],[10],[1768],2152,[]⟩ .z) .z) .z))))))
theorem YT (n:Nat):aH 61 (YR n) :=cq (au (RZ n) aB) Tryz.func61 YS n (by kernel_rfl) rfl fun _=>by kernel_rfl
def Mi (n:Nat):Sig xx:=⟨[.d (.sl (.st SI.ospan)),.d (.sl (.st SI.ospan))],[.d .bool],fun a=>p8 n a.1 a.2.1,none⟩
def Mj:Hn SI:=(.s .z (.s .z (.s (.s .z (.b (.lx ⟨[(13,(.v ah))],[],[0,1,12],[],1576,[]⟩ 0 ⟨[],[],[],[],1576,[]⟩ .z))) .z)))
theorem Mk (n:Nat):aH 62 (Mi n) :=cq aB Tryz.func62 Mj n (by kernel_rfl) rfl fun _=>by kernel_rfl
def YU (n:Nat):Sig xx:=⟨[.d (.sl ak),.d ah],[.fresh ak,.d ah],fun a=>vR n a.1 a.2.1,none⟩
def YV:Hn SI:=(.s .z (.s .z (.s (.f [3]) (.s .z (.s (.s .z (.b (.l ⟨[(7,(.o 1896)),(27,(.v ah))],[(1896,.l ah)],[1,6,25,26],[],1897,[(7,ah)]⟩ 0 ⟨[(7,(.o 1896))],[(1896,.l ah)],[1,6],[],1897,[]⟩ .z))) (.s .z (.s (.f [2]) (.s .z (.s .z (.s .z (.s (.s .z (.b (.l ⟨[(10,(.o 2473)),(11,(.v (.sl (.st SI.ospan)))),(12,(.v ah)),(13,(.v ah))],[(2473,.l ak)],[1,6,7],[],2474,[(10,ak)]⟩ 2 ⟨[(10,(.o 2473))],[(2473,.l ak)],[],[],2474,[]⟩ (.s .z (.s (.j ⟨[(10,(.o 2730)),(11,(.v (.sl (.st SI.ospan)))),(12,(.v ah))],[(2730,.l ak)],[1,6,7,13],[],2731,[]⟩ (.b (.s .z (.s (.s (.j ⟨[(80,(.v .bool))],[],[1,6,7,10,11,12,13,14],[2473],3306,[]⟩ .z) (.s (.s (.s .z (.b (.l ⟨[(15,(.v ah))],[(2473,.l ak)],[1,6,7,10,11,12,13],[],3434,[]⟩ 4 ⟨[],[(2473,.l ak)],[1,6,7,10,11,12,13],[],3434,[]⟩ .z))) .z) .z)) (.s .z (.s .z (.b (.l ⟨[(10,(.o 3818)),(101,(.v ah))],[(3818,.l ak)],[1,6,7,11,12,13,99,100],[],3819,[]⟩ 6 ⟨[(10,(.o 3818))],[(3818,.l ak)],[1,6,7,11,12,13],[],3819,[]⟩ .z)))))))) .z))))) .z)))))))))))
theorem NA (n:Nat):aH 22 (YU n) :=cq (au (aaE n) (au aaF (au (rZ n) (au (mD n) (au (YT n) (au (Mk n) aB)))))) Tryz.func22 YV n (by kernel_rfl) rfl fun _=>by kernel_rfl
def aaG (n:Nat):Sig xx:=⟨[.d (.sl ak)],[.d ak,.d .bool],fun a=>JB n a.1,none⟩
def aaH:Hn SI:=(.s .z (.s (.s .z (.b (.l ⟨[(3,(.v .bool)),(8,(.v ah))],[(1000,.c 4 [[(.v ah),(.v ah),(.v ah),(.v ah)]])],[2,6,7],[],1320,[]⟩ 0 ⟨[(3,(.v .bool))],[(1000,.c 4 [[(.v ah),(.v ah),(.v ah),(.v ah)]])],[2],[],1320,[]⟩ (.s .z (.s .z (.s (.j ⟨[(3,(.v .bool))],[(1000,.c 4 [[(.v ah),(.v ah),(.v ah),(.v ah)]])],[2,6,7,8],[],1384,[]⟩ .z) .z)))))) .z))
theorem aaI (n:Nat):aH 66 (aaG n) :=cq (au AL aB) Tryz.func66 aaH n (by kernel_rfl) rfl fun _=>by kernel_rfl
def YW (n:Nat):Sig xx:=⟨[.d (.sl ak)],[.d ak,.d .bool],fun a=>vS n a.1,none⟩
def YX:Hn SI:=(.s .z (.s (.s (.j ⟨[(11,(.v .bool))],[],[0,2],[1000],1128,[]⟩ .z) .z) .z))
theorem NC (n:Nat):aH 24 (YW n) :=cq (au (oG n) (au (aaI n) aB)) Tryz.func24 YX n (by kernel_rfl) rfl fun _=>by kernel_rfl
def Ke (n:Nat):Sig xx:=⟨[.d (.st SI.Town),.d ah,.d ah],[.fresh cZ],fun a=>gB n a.1 a.2.1 a.2.2.1,none⟩
def Kg:Hn SI:=(.s .z (.s .z (.s (.s .z (.b (.l ⟨[(7,(.o 1576)),(15,(.v ah))],[(1576,.l cZ)],[13,14],[1384],1577,[(7,cZ)]⟩ 0 ⟨[(7,(.o 1576))],[(1576,.l cZ)],[],[],1577,[]⟩ (.s .z (.s .z (.s (.j ⟨[(7,(.o 1641))],[(1641,.l cZ)],[13,14,15],[1384],1642,[]⟩ .z) .z)))))) .z)))
theorem qj (n:Nat):aH 16 (Ke n) :=cq (au (AZ n) aB) Tryz.func16 Kg n (by kernel_rfl) rfl fun _=>by kernel_rfl
def EQ (n:Nat):Sig xx:=⟨[.d (.sl cZ),.clo [cZ] .bool],[.d ah],fun a=>ou n a.1 a.2.1,none⟩
def ER:Hn SI:=(.s .z (.s (.s .z (.b (.lx ⟨[(8,(.v ah))],[],[0,1,7],[],1256,[]⟩ 0 ⟨[],[],[],[],1256,[]⟩ .z))) .z))
theorem ES (n:Nat):aH 173 (EQ n) :=cq aB Tryz.func173 ER n (by kernel_rfl) rfl fun _=>by kernel_rfl
def A8 (n:Nat):Sig xx:=⟨[.d (.sl cZ),.clo [cZ] .bool],[.d .bool],fun a=>iF n a.1 a.2.1,none⟩
theorem A9 (n:Nat):aH 121 (A8 n) :=cq (au (ES n) aB) Tryz.func121 .z n (by kernel_rfl) rfl fun _=>by kernel_rfl
def R3:Sig xx:=⟨[.d ah,.d ah,.d ah],[.d .bool],fun a=>jb a.1 a.2.1 a.2.2.1,none⟩
theorem ET:aH 67 R3 :=cq aB Tryz.func67 .z 0 (by kernel_rfl) rfl fun _=>by kernel_rfl
def Tc:Sig xx:=⟨[.d cZ],[.d .bool],fun a=>sS a.1,none⟩
theorem Gn:aH 25 Tc :=cq (au ET aB) Tryz.func25 .z 0 (by kernel_rfl) rfl fun _=>by kernel_rfl
def Ml:Sig xx:=⟨[.d cZ],[.d .bool],fun a=>qc a.1,none⟩
theorem Mq:aH 122 Ml :=cq (au Gn aB) Tryz.func122 .z 0 (by kernel_rfl) rfl fun _=>by kernel_rfl
def Td (n:Nat):Sig xx:=⟨[.d ak,.d (.sl cZ)],[.d .bool],fun a=>sU n a.1 a.2.1,none⟩
theorem Gp (n:Nat):aH 68 (Td n) :=cq (au AL (au (A9 n) (au Mq aB))) Tryz.func68 .z n (by kernel_rfl) rfl fun _=>by kernel_rfl
def Mr:Sig xx:=⟨[.d ah,.d ah],[.d ah],fun a=>lJ a.1 a.2.1,none⟩
def Ms:Hn SI:=(.s .z (.s .z (.s (.j ⟨[(5,(.v ah))],[],[],[],1320,[]⟩ .z) .z)))
theorem Ba:aH 124 Mr :=cq aB Tryz.func124 Ms 0 (by kernel_rfl) rfl fun _=>by kernel_rfl
def Wz (n:Nat):Sig xx:=⟨[.d ak,.d (.sl cZ),.d ah],[.d ak,.d .bool],fun a=>G5 n a.1 a.2.1 a.2.2.1,none⟩
def WA:Hn SI:=(.s .z (.s .z (.s (.s .z (.b (.lx ⟨[(15,(.v ah))],[(1256,.c 4 [[(.v ah),(.v ah),(.v ah),(.v ah)]])],[2,3,6,8,13,14],[1000,1064],1576,[]⟩ 0 ⟨[],[(1256,.c 4 [[(.v ah),(.v ah),(.v ah),(.v ah)]])],[6,8],[1064],1576,[]⟩ (.s .z (.s .z (.s (.jx ⟨[],[(1256,.c 4 [[(.v ah),(.v ah),(.v ah),(.v ah)]])],[2,3,6,8,13,14,15],[1000,1064],1640,[]⟩ .z) .z)))))) .z)))
theorem WB (n:Nat):aH 150 (Wz n) :=cq (au Ba aB) Tryz.func150 WA n (by kernel_rfl) rfl fun _=>by kernel_rfl
def WC (n:Nat):Sig xx:=⟨[.d ak,.d (.sl cZ),.d ah],[.fresh ak,.d ah],fun a=>BV n a.1 a.2.1 a.2.2.1,none⟩
theorem WE (n:Nat):aH 94 (WC n) :=cq (au (Gp n) (au ET (au (WB n) aB))) Tryz.func94 .z n (by kernel_rfl) rfl fun _=>by kernel_rfl
def Ou:Sig xx:=⟨[.d ak,.d ak],[.d ak,.d .bool],fun a=>nK a.1 a.2.1,none⟩
theorem CU:aH 95 Ou :=cq aB Tryz.func95 .z 0 (by kernel_rfl) rfl fun _=>by kernel_rfl
def R4 (n:Nat):Sig xx:=⟨[.d (.sl ak),.d ak],[.fresh ak],fun a=>vz n a.1 a.2.1,none⟩
def R5:Hn SI:=(.s .z (.s .z (.s (.s .z (.b (.l ⟨[(5,(.o 1384)),(14,(.v ah))],[(1384,.l ak)],[3,12,13],[1000],1385,[(5,ak)]⟩ 0 ⟨[(5,(.o 1384))],[(1384,.l ak)],[],[],1385,[]⟩ (.s .z (.s .z (.s (.j ⟨[(5,(.o 1449))],[(1449,.l ak)],[3,12,13,14],[1000],1450,[]⟩ (.b (.s .z (.s .z (.s .z (.s .z (.b (.l ⟨[(5,(.o 4905)),(68,(.v ah))],[(4905,.l ak)],[3,12,13,14,66,67],[1000,4713],4906,[]⟩ 2 ⟨[(5,(.o 4905))],[(4905,.l ak)],[3,12,13,14],[1000],4906,[]⟩ (.s .z (.s .z (.s (.j ⟨[(5,(.o 4970))],[(4970,.l ak)],[3,12,13,14,66,67,68],[1000,4713],4971,[]⟩ (.b (.s .z (.s (.j ⟨[(83,(.v .bool))],[],[3,5,11,12,13,14,66,67,68],[1000,4713,4905,5098],5226,[]⟩ .z) .z)))) .z))))))))))) .z)))))) .z)))
theorem R6 (n:Nat):aH 96 (R4 n) :=cq (au CU aB) Tryz.func96 R5 n (by kernel_rfl) rfl fun _=>by kernel_rfl
def Ie:Sig xx:=⟨[.d ak,.d ak],[.d .bool],fun a=>jG a.1 a.2.1,none⟩
theorem Ig:aH 151 Ie :=cq aB Tryz.func151 .z 0 (by kernel_rfl) rfl fun _=>by kernel_rfl
def rC (n:Nat):Sig xx:=⟨[.mut ak,.d ah,.d ah,.clo [ak,ak] ah],[.mu ak],fun a=>uy n a.1 a.2.1 a.2.2.1 a.2.2.2.1,none⟩
def rD:Hn SI:=(.s .z (.b (.l ⟨[(8,(.v ah))],[(0,.l ak)],[0,1,2,3],[],1192,[]⟩ 0 ⟨[],[(0,.l ak)],[],[],1192,[]⟩ (.s .z (.s (.b (.s .z (.b (.l ⟨[(9,(.v ah))],[(0,.l ak)],[0,1,2,3,8],[],1512,[]⟩ 2 ⟨[],[(0,.l ak)],[0,1,2,3,8],[],1512,[]⟩ (.s (.s (.j ⟨[(34,(.v .bool))],[],[0,1,2,3,8,9],[0],1512,[]⟩ .z) .z) .z))))) .z)))))
theorem rE (n:Nat):aH 269 (rC n) :=cq aB Tryz.func269 rD n (by kernel_rfl) rfl fun _=>by kernel_rfl
def xN (n:Nat):Sig xx:=⟨[.mut ak,.d ah,.d ah,.d ah,.clo [ak,ak] ah],[.mu ak],fun a=>Am n a.1 a.2.1 a.2.2.1 a.2.2.2.1 a.2.2.2.2.1,none⟩
def xO:Hn SI:=(.s .z (.b (.lx ⟨[(10,(.v ah))],[(0,.l ak)],[0,2,3,4],[],1128,[]⟩ 0 ⟨[],[(0,.l ak)],[],[],1128,[]⟩ (.b (.s .z (.s .z (.s (.j ⟨[(11,(.v ah))],[],[0,2,3,4,10],[0],1576,[]⟩ (.s (.j ⟨[(40,(.v .bool))],[],[0,2,3,4,10,11],[0],1576,[]⟩ .z) .z)) .z)))))))
theorem xP (n:Nat):aH 301 (xN n) :=cq aB Tryz.func301 xO n (by kernel_rfl) rfl fun _=>by kernel_rfl
def xQ (n:Nat):Sig xx:=⟨[.mut ak,.d ah,.d ah,.clo [ak,ak] ah],[.mu ak],fun a=>Ao n a.1 a.2.1 a.2.2.1 a.2.2.2.1,none⟩
def xR:Hn SI:=(.s .z (.s .z (.s .z (.s (.s .z (.b (.l ⟨[(11,(.v ah))],[(0,.l ak)],[0,3,8,9,10],[],1704,[]⟩ 0 ⟨[],[(0,.l ak)],[0,3,8,9,10],[],1704,[]⟩ .z))) (.s .z (.b (.l ⟨[(12,(.v ah))],[(0,.l ak)],[0,3,8,9],[],1896,[]⟩ 2 ⟨[],[(0,.l ak)],[],[],1896,[]⟩ .z)))))))
theorem xS (n:Nat):aH 270 (xQ n) :=cq (au (xP n) aB) Tryz.func270 xR n (by kernel_rfl) rfl fun _=>by kernel_rfl
def rF (n:Nat):Sig xx:=⟨[.mut ak,.d ah,.d ah,.clo [ak,ak] ah],[.mu ak],fun a=>uz n a.1 a.2.1 a.2.2.1 a.2.2.2.1,none⟩
def rG:Hn SI:=(.s .z (.s .z (.s (.s .z (.s .z (.s .z (.b (.l ⟨[(11,(.v ah))],[(0,.l ak),(1512,.c 1 [[(.v (.int .u64))]])],[0,1,8,9,10],[],2280,[]⟩ 0 ⟨[],[(0,.l ak)],[],[],2280,[]⟩ (.s .z (.s (.b (.s .z (.s (.j ⟨[(12,(.v ah))],[],[0,1,8,9,10,11],[0,1512],3176,[]⟩ .z) .z))) .z))))))) .z)))
theorem rH (n:Nat):aH 271 (rF n) :=cq (au mZ (au oF aB)) Tryz.func271 rG n (by kernel_rfl) rfl fun _=>by kernel_rfl
def Bb:Sig xx:=⟨[.d (.sl ak),.d ah,.d ah,.mref ah,.clo [ak,ak] ah],[.d ah,.d ah,.mr ah],fun a=>CY a.1 a.2.1 a.2.2.1 a.2.2.2.1 a.2.2.2.2.1,none⟩
theorem Bc:aH 321 Bb :=cq aB Tryz.func321 .z 0 (by kernel_rfl) rfl fun _=>by kernel_rfl
def Bd:Sig xx:=⟨[.d (.sl ak),.d ah,.d ah,.d ah,.mref ah,.clo [ak,ak] ah],[.d ah,.mr ah],fun a=>CZ a.1 a.2.1 a.2.2.1 a.2.2.2.1 a.2.2.2.2.1 a.2.2.2.2.2.1,none⟩
theorem oZ:aH 303 Bd :=cq (au Bc aB) Tryz.func303 .z 0 (by kernel_rfl) rfl fun _=>by kernel_rfl
def qx:Sig xx:=⟨[.d (.sl ak),.d ah,.mref ah,.clo [ak,ak] ah],[.d ah,.mr ah],fun a=>sV a.1 a.2.1 a.2.2.1 a.2.2.2.1,none⟩
theorem qy:aH 302 qx :=cq (au oZ aB) Tryz.func302 .z 0 (by kernel_rfl) rfl fun _=>by kernel_rfl
def uK:Sig xx:=⟨[.d (.sl ak),.d ah,.d ah,.clo [ak,ak] ah],[.d ah,.d ah],fun a=>wP a.1 a.2.1 a.2.2.1 a.2.2.2.1,none⟩
def uL:Hn SI:=(.s .z (.s .z (.s .z (.s .z (.s .z (.s .z (.s (.j ⟨[(13,(.v ah))],[(1384,.c 1 [[(.v ah)]])],[11],[],2600,[]⟩ (.s .z (.s (.s (.j ⟨[(12,(.v ah)),(13,(.v ah)),(14,(.v ah))],[(1384,.c 1 [[(.v ah)]])],[0,3,11],[],2728,[]⟩ .z) .z) .z))) .z)))))))
theorem uM:aH 272 uK :=cq (au qy (au oZ aB)) Tryz.func272 uL 0 (by kernel_rfl) rfl fun _=>by kernel_rfl
def tV (n:Nat):Sig xx:=⟨[.mut ak,.d ah,.d ah,.clo [ak,ak] ah],[.mu ak],fun a=>vB n a.1 a.2.1 a.2.2.1 a.2.2.2.1,none⟩
def tX:Hn SI:=(.s .z (.s .z (.b (.l ⟨[(8,(.v ah)),(9,(.v ah))],[(0,.l ak)],[0],[],1320,[]⟩ 0 ⟨[],[(0,.l ak)],[],[],1320,[]⟩ .z))))
theorem tY (n:Nat):aH 273 (tV n) :=cq aB Tryz.func273 tX n (by kernel_rfl) rfl fun _=>by kernel_rfl
def mI (n:Nat):Sig xx:=⟨[.mut ak,.d ah,.d ah,.clo [ak,ak] ah],[.d .bool,.mu ak],fun a=>nL n a.1 a.2.1 a.2.2.1 a.2.2.2.1,none⟩
def mJ:Hn SI:=(.s .z (.s .z (.s (.s .z (.b (.lx ⟨[(9,(.v ah)),(10,(.v ah))],[(0,.l ak)],[0,1,2,3],[],1320,[]⟩ 0 ⟨[],[(0,.l ak)],[],[],1320,[]⟩ (.s .z (.s (.jx ⟨[(9,(.v ah))],[(0,.l ak)],[0,1,2,3,10],[],1448,[]⟩ (.b (.s (.b (.l ⟨[(9,(.v ah))],[],[0,1,2,3,10],[0],1448,[]⟩ 2 ⟨[(9,(.v ah))],[],[0,1,2,3,10],[0],1448,[]⟩ (.s (.s (.j ⟨[(36,(.v .bool))],[],[0,1,2,3,9,10],[0],1448,[]⟩ .z) .z) .z))) (.s .z (.s .z (.s .z (.s (.j ⟨[],[(0,.l ak)],[0,1,2,3,9,10],[],3048,[]⟩ (.s .z (.s (.s .z (.b (.l ⟨[(11,(.v ah))],[(0,.l ak)],[0,1,2,3,9,10],[],3496,[]⟩ 4 ⟨[],[(0,.l ak)],[0,1,2,3,9,10],[],3496,[]⟩ .z))) .z))) (.s .z (.s (.s .z (.b (.l ⟨[(12,(.v ah))],[(0,.l ak)],[0,1,2,3,9,10],[],3496,[]⟩ 6 ⟨[],[(0,.l ak)],[0,1,2,3,9,10],[],3496,[]⟩ .z))) .z))))))))) .z))))) .z)))
theorem mK (n:Nat):aH 274 (mI n) :=cq aB Tryz.func274 mJ n (by kernel_rfl) rfl fun _=>by kernel_rfl
def qz (n:Nat):Sig xx:=⟨[.mut ak,.d ah,.d ah,.d ah,.clo [ak,ak] ah],[.d ah,.mu ak],fun a=>sW n a.1 a.2.1 a.2.2.1 a.2.2.2.1 a.2.2.2.2.1,none⟩
def qC:Hn SI:=(.s .z (.s .z (.s .z (.s (.b (.l ⟨[(11,(.v ah)),(12,(.v ah))],[(0,.l ak)],[0,1,4],[],2472,[]⟩ 0 ⟨[(11,(.v ah))],[(0,.l ak)],[],[],2472,[]⟩ (.b (.s (.b (.l ⟨[(11,(.v ah))],[],[0,1,4,12],[0],2472,[]⟩ 2 ⟨[(11,(.v ah))],[],[0,1,4,12],[0],2472,[]⟩ (.s (.s (.j ⟨[(47,(.v .bool))],[],[0,1,4,11,12],[0],2472,[]⟩ .z) .z) .z))) (.s (.b (.l ⟨[(12,(.v ah))],[],[0,1,4,11],[0],2472,[]⟩ 4 ⟨[(12,(.v ah))],[],[0,1,4,11],[0],2472,[]⟩ (.s (.s (.j ⟨[(65,(.v .bool))],[],[0,1,4,11,12],[0],2472,[]⟩ .z) .z) .z))) .z))))) .z))))
theorem qD (n:Nat):aH 275 (qz n) :=cq aB Tryz.func275 qC n (by kernel_rfl) rfl fun _=>by kernel_rfl
def xg (n:Nat):Sig xx:=⟨[.mut ak,.d ah,.d ah,.d ah,.clo [ak,ak] ah],[.d ah,.d .bool,.mu ak],fun a=>y8 n a.1 a.2.1 a.2.2.1 a.2.2.2.1 a.2.2.2.2.1,none⟩
def xh:Hn SI:=(.s .z (.s .z (.s .z (.s (.b (.l ⟨[(12,(.v ah))],[],[0,1,4,13],[0],2536,[]⟩ 0 ⟨[(12,(.v ah))],[],[0,1,4,13],[0],2536,[]⟩ (.s (.s (.j ⟨[(47,(.v .bool))],[],[0,1,4,12,13],[0],2536,[]⟩ .z) .z) .z))) (.s (.b (.l ⟨[(13,(.v ah))],[],[0,1,4,12],[0],2536,[]⟩ 2 ⟨[(13,(.v ah))],[],[0,1,4,12],[0],2536,[]⟩ (.s (.s (.j ⟨[(66,(.v .bool))],[],[0,1,4,12,13],[0],2536,[]⟩ .z) .z) .z))) (.s .z (.s .z (.s .z (.s .z (.s (.b (.l ⟨[(12,(.v ah)),(13,(.v ah))],[(0,.l ak)],[0,1,4],[],4136,[]⟩ 4 ⟨[(13,(.v ah))],[(0,.l ak)],[0,1],[],4136,[]⟩ (.b (.s (.b (.l ⟨[(12,(.v ah))],[],[0,1,4,13],[0],4136,[]⟩ 6 ⟨[(12,(.v ah))],[],[0,1,4,13],[0],4136,[]⟩ (.s (.s (.j ⟨[(120,(.v .bool))],[],[0,1,4,12,13],[0],4136,[]⟩ .z) .z) .z))) (.s (.b (.l ⟨[(13,(.v ah))],[],[0,1,4,12],[0],4136,[]⟩ 8 ⟨[(13,(.v ah))],[],[0,1,4,12],[0],4136,[]⟩ (.s (.s (.j ⟨[(139,(.v .bool))],[],[0,1,4,12,13],[0],4136,[]⟩ .z) .z) .z))) .z))))) .z))))))))))
theorem xk (n:Nat):aH 276 (xg n) :=cq aB Tryz.func276 xh n (by kernel_rfl) rfl fun _=>by kernel_rfl
def zK:Hn SI:=(.s .z (.s .z (.b (.lx ⟨[(1,(.v ah)),(2,(.v ah)),(3,(.v ah)),(10,(.v .bool)),(11,(.v .bool))],[(0,.l ak)],[0,4],[],1128,[]⟩ 999999 ⟨[],[],[],[],1128,[]⟩ (.b (.s .z (.s .z (.s .z (.s (.j ⟨[(3,(.v ah))],[(0,.l ak)],[0,1,2,4,10,11,12],[],1640,[]⟩ .z) (.s .z (.s (.j ⟨[(13,(.v ah)),(14,(.v ah))],[(0,.l ak)],[0,1,2,3,4,10,11,12],[],2280,[]⟩ .z) (.s (.jx ⟨[],[(0,.l ak)],[0,1,2,3,4,10,11,12,13],[],2280,[]⟩ (.s (.j ⟨[(75,(.v .bool))],[],[0,1,2,3,4,10,11,12,13],[0],2280,[]⟩ .z) .z)) (.s (.s (.j ⟨[(97,(.v .bool))],[],[0,1,2,3,4,10,11,12,13],[0],2280,[]⟩ .z) .z) .z)))))))))))))
theorem xU (n:Nat) (rc:((List aj))->(Int)->(Int)->(Int)->((aj×aj×Unit)->Option Int)->Option (List aj)) (hr:aH 244 (iI rc)):aH 244 (iI (fF n rc)) :=cq (au (rE n) (au (xS n) (au (rH n) (au uM (au (tY n) (au (mK n) (au (qD n) (au (xk n) (au hr aB))))))))) Tryz.func244 zK n (by kernel_rfl) rfl fun _=>by kernel_rfl
theorem mR (n:Nat):∀ m,aH 244 (iI (bX n m))
 | 0=>cok (oM Tryz.func244 (by kernel_rfl:Tryz.f244.body=some (Tryz.f244.body.getD .skip)) (by kernel_rfl)) (fun _ _ h=>(by cases h)) rfl
 |m+1=>xU n _ (mR n m)
def zL (n:Nat):Sig xx:=⟨[.mut ak,.d ah,.d ah,.d ah,.clo [ak,ak] ah],[.mu ak],fun a=>kg n a.1 a.2.1 a.2.2.1 a.2.2.2.1 a.2.2.2.2.1,none⟩
theorem zM (n:Nat):aH 244 (zL n):=mR n n
def Ih (n:Nat):Sig xx:=⟨[.mut ak,.clo [ak,ak] ah],[.mu ak],fun a=>mq n a.1 a.2.1,none⟩
theorem Ii (n:Nat):aH 199 (Ih n) :=cq (au Ci (au (zM n) aB)) Tryz.func199 .z n (by kernel_rfl) rfl fun _=>by kernel_rfl
def EU:Sig xx:=⟨[.d ak,.d ak],[.d ah],fun a=>ko a.1 a.2.1,none⟩
theorem EW:aH 200 EU :=cq (au kU aB) Tryz.func200 .z 0 (by kernel_rfl) rfl fun _=>by kernel_rfl
def Kh (n:Nat):Sig xx:=⟨[.d (.sl ak),.d ah,.d ah],[.fresh ak],fun a=>nU n a.1 a.2.1 a.2.2.1,none⟩
def Ki:Hn SI:=(.s .z (.s .z (.s (.s .z (.b (.l ⟨[(7,(.o 1320)),(15,(.v ah))],[(1320,.l ak)],[1,2,13,14],[],1321,[(7,ak)]⟩ 0 ⟨[(7,(.o 1320))],[(1320,.l ak)],[],[],1321,[]⟩ (.s .z (.s .z (.s (.j ⟨[(7,(.o 1385))],[(1385,.l ak)],[1,2,13,14,15],[],1386,[]⟩ (.b (.s .z (.s (.j ⟨[(28,(.v .bool))],[],[1,2,7,9,13,14,15],[1320,1513],1641,[]⟩ .z) .z)))) .z)))))) (.s .z (.s .z (.s (.s .z (.b (.l ⟨[(10,(.v ah)),(44,(.v ah))],[(1320,.l ak)],[7,42,43],[],1705,[]⟩ 2 ⟨[(10,(.v ah))],[(1320,.l ak)],[7],[],1705,[]⟩ (.s .z (.s .z (.s (.j ⟨[(10,(.v ah))],[(1320,.l ak)],[7,42,43,44],[],1769,[]⟩ (.b (.s .z (.s (.s (.j ⟨[(60,(.v .bool))],[],[7,10,12,42,43,44],[1320,1897],2025,[]⟩ .z) .z) .z)))) .z)))))) .z))))))
theorem Kj (n:Nat):aH 152 (Kh n) :=cq (au (Ii n) (au EW aB)) Tryz.func152 Ki n (by kernel_rfl) rfl fun _=>by kernel_rfl
def zN (n:Nat):Sig xx:=⟨[.d (.sl ak),.d (.sl ak),.clo [ak,ak] .bool],[.d .bool],fun a=>gQ n a.1 a.2.1 a.2.2.1,none⟩
def zO:Hn SI:=(.s .z (.s .z (.s (.s .z (.b (.lx ⟨[(17,(.v ah))],[],[1,2,15,16],[],1576,[]⟩ 0 ⟨[],[],[],[],1576,[]⟩ .z))) .z)))
theorem zP (n:Nat):aH 153 (zN n) :=cq aB Tryz.func153 zO n (by kernel_rfl) rfl fun _=>by kernel_rfl
def Ov (n:Nat):Sig xx:=⟨[.d (.sl ak)],[.fresh ak],fun a=>rV n a.1,none⟩
def Ow:Hn SI:=(.s .z (.s .z (.s (.s .z (.b (.l ⟨[(3,(.o 1320)),(14,(.v ah))],[(1320,.l ah)],[0,12,13],[],1321,[(3,ah)]⟩ 0 ⟨[(3,(.o 1320))],[(1320,.l ah)],[0],[],1321,[]⟩ .z))) (.s .z (.s .z (.s .z (.s .z (.s (.s .z (.b (.l ⟨[(6,(.o 2153)),(7,(.o 2154)),(34,(.v ah))],[(2153,.l ak),(2154,.l ak)],[0,3,8,33],[1320],2155,[(6,ak),(7,ak)]⟩ 2 ⟨[(6,(.o 2153))],[(2153,.l ak)],[],[],2154,[]⟩ (.s .z (.s .z (.s (.b (.s .z (.s .z (.s (.j ⟨[(6,(.o 3115))],[(3115,.l ak)],[0,3,8,10,33,34],[1320,2987],3116,[]⟩ (.s (.j ⟨[(56,(.v .bool))],[],[0,3,6,8,9,10,33,34],[1320,2153,2987],3115,[]⟩ .z) (.s (.s .z (.b (.l ⟨[(11,(.v ah))],[(2153,.l ak)],[0,3,6,8,9,10,33,34],[1320,2987],3499,[]⟩ 4 ⟨[],[(2153,.l ak)],[0,3,6,8,10,33,34],[1320,2987],3499,[]⟩ .z))) .z))) .z)))) .z)))))) .z))))))))
theorem Ox (n:Nat):aH 97 (Ov n) :=cq (au (rZ n) (au (mD n) (au (Kj n) (au (zP n) (au Ig aB))))) Tryz.func97 Ow n (by kernel_rfl) rfl fun _=>by kernel_rfl
def Oy (n:Nat):Sig xx:=⟨[.d (.sl ak),.d ak,.d (.sl cZ),.d (.sl (.st SI.Easement)),.d ah],[.fresh ak,.d ah],fun a=>kM n a.1 a.2.1 a.2.2.1 a.2.2.2.1 a.2.2.2.2.1,none⟩
def Oz:Hn SI:=(.s .z (.s .z (.s .z (.s .z (.s (.s .z (.b (.l ⟨[(14,(.o 2216)),(37,(.v ah))],[(2216,.l ak)],[3,4,12,35,36],[1576],2217,[(14,ak)]⟩ 0 ⟨[(14,(.o 2216))],[(2216,.l ak)],[3,4],[],2217,[]⟩ (.s .z (.s .z (.s (.b (.s .z (.s .z (.b (.l ⟨[(14,(.o 2729)),(43,(.v ah))],[(2729,.l ak)],[3,4,12,16,35,36,37,41,42],[1576,2409],2730,[]⟩ 2 ⟨[(14,(.o 2729))],[(2729,.l ak)],[3,4,12,35,36,37],[1576],2730,[]⟩ (.s .z (.s .z (.s (.j ⟨[(14,(.o 2794))],[(2794,.l ak)],[3,4,12,16,35,36,37,41,42,43],[1576,2409],2795,[]⟩ .z) .z)))))))) .z)))))) (.s (.s .z (.b (.l ⟨[(14,(.o 2409)),(62,(.v ah))],[(2409,.l ak)],[4,60,61],[],2410,[]⟩ 4 ⟨[(14,(.o 2409))],[(2409,.l ak)],[],[],2410,[]⟩ (.s .z (.s .z (.s (.j ⟨[(14,(.o 2474))],[(2474,.l ak)],[4,60,61,62],[],2475,[]⟩ (.b (.s .z (.s .z (.s .z (.b (.l ⟨[(14,(.o 3242)),(73,(.v ah))],[(3242,.l ak)],[4,60,61,62,71,72],[],3243,[]⟩ 6 ⟨[(14,(.o 3242))],[(3242,.l ak)],[4,60,61,62],[],3243,[]⟩ .z))))))) .z)))))) .z))))))
theorem OA (n:Nat):aH 41 (Oy n) :=cq (au (WE n) (au CU (au (R6 n) (au (Ox n) aB)))) Tryz.func41 Oz n (by kernel_rfl) rfl fun _=>by kernel_rfl
def Mt (n:Nat):Sig xx:=⟨[.d (.st SI.Town),.d ah,.d ah,.d ah],[.fresh (.sl ak),.d ah],fun a=>dQ n a.1 a.2.1 a.2.2.1 a.2.2.2.1,none⟩
def Mv:Hn SI:=(.s .z (.s .z (.s (.b (.s .z (.s .z (.s (.j ⟨[(36,(.v .bool))],[],[1,2,3,4,10],[1000,1640],2024,[]⟩ .z) .z)))) (.s .z (.s (.jx ⟨[(12,(.o 2088))],[(2088,.l ak)],[1,2,3,4,10],[1000,1640],2089,[(12,ak)]⟩ .z) (.s .z (.s (.s .z (.b (.l ⟨[(16,(.o 2409)),(69,(.v ah))],[(2409,.l (.st SI.Easement))],[1,2,3,4,10,12,67,68],[1000,1640,2088],2410,[(16,(.st SI.Easement))]⟩ 1 ⟨[(16,(.o 2409))],[(2409,.l (.st SI.Easement))],[1,2,3,4,10,12],[1000,1640,2088],2410,[]⟩ (.s .z (.s .z (.s (.j ⟨[(16,(.o 2474))],[(2474,.l (.st SI.Easement))],[1,2,3,4,10,12,67,68,69],[1000,1640,2088],2475,[]⟩ (.b (.s .z (.s (.j ⟨[(81,(.v .bool))],[],[1,2,3,4,10,12,16,18,67,68,69],[1000,1640,2088,2409,2602],2730,[]⟩ .z) .z)))) .z)))))) (.s .z (.s .z (.s .z (.s (.s .z (.b (.lx ⟨[(22,(.o 3498)),(98,(.v ah))],[(3498,.l (.sl ak))],[12,16,19,21,97],[2088,2409,2794,3178],3499,[(22,(.sl ak))]⟩ 3 ⟨[(22,(.o 3498))],[(3498,.l (.sl ak))],[],[],3499,[]⟩ .z))) .z)))))))))))
theorem Be (n:Nat):aH 11 (Mt n) :=cq (au (LU n) (au (oG n) (au (nu n) (au (NA n) (au (NC n) (au (qj n) (au (OA n) aB))))))) Tryz.func11 Mv n (by kernel_rfl) rfl fun _=>by kernel_rfl
def aaJ (n:Nat):Sig xx:=⟨[.d (.sl ak),.d (.sl ak)],[.d .bool],fun a=>JC n a.1 a.2.1,none⟩
def aaK:Hn SI:=(.s .z (.s .z (.s (.s .z (.b (.lx ⟨[(5,(.v ah))],[],[0,1],[],1448,[]⟩ 0 ⟨[],[],[],[],1448,[]⟩ .z))) .z)))
theorem aaL (n:Nat):aH 35 (aaJ n) :=cq aB Tryz.func35 aaK n (by kernel_rfl) rfl fun _=>by kernel_rfl
def EX (n:Nat):Sig xx:=⟨[.d (.sl (.sl ak)),.clo [(.sl ak)] .bool],[.d ah],fun a=>wQ n a.1 a.2.1,none⟩
def EY:Hn SI:=(.s .z (.s (.s .z (.b (.lx ⟨[(8,(.v ah))],[],[0,1,7],[],1256,[]⟩ 0 ⟨[],[],[],[],1256,[]⟩ .z))) .z))
theorem EZ (n:Nat):aH 112 (EX n) :=cq aB Tryz.func112 EY n (by kernel_rfl) rfl fun _=>by kernel_rfl
def Bf (n:Nat):Sig xx:=⟨[.d (.sl (.sl ak)),.clo [(.sl ak)] .bool],[.d .bool],fun a=>qE n a.1 a.2.1,none⟩
theorem Bg (n:Nat):aH 52 (Bf n) :=cq (au (EZ n) aB) Tryz.func52 .z n (by kernel_rfl) rfl fun _=>by kernel_rfl
def FU (n:Nat):Sig xx:=⟨[.d (.sl ak)],[.d .bool],fun a=>yD n a.1,none⟩
theorem FV (n:Nat):aH 53 (FU n) :=cq (au (oG n) aB) Tryz.func53 .z n (by kernel_rfl) rfl fun _=>by kernel_rfl
def Mw (n:Nat):Sig xx:=⟨[.d (.sl (.sl ak))],[.fresh (.st SI.Slab),.d ah],fun a=>wR n a.1,none⟩
def Mx:Hn SI:=(.s .z (.s (.s (.j ⟨[(14,(.v .bool))],[],[0],[],1128,[]⟩ .z) .z) (.s .z (.s (.s .z (.b (.l ⟨[(4,(.o 1384)),(17,(.v ah))],[(1384,.l (.st SI.Slab))],[15,16],[],1385,[(4,(.st SI.Slab))]⟩ 0 ⟨[(4,(.o 1384))],[(1384,.l (.st SI.Slab))],[],[],1385,[]⟩ (.s .z (.s .z (.s (.j ⟨[(4,(.o 1449))],[(1449,.l (.st SI.Slab))],[15,16,17],[],1450,[]⟩ (.b (.s .z (.s .z (.b (.s .z (.s .z (.s (.j ⟨[(39,(.v .bool))],[],[4,5,6,7,15,16,17],[1384],2217,[]⟩ .z) .z)))))))) .z)))))) .z))))
theorem MB (n:Nat):aH 18 (Mw n) :=cq (au (Bg n) (au (FV n) (au (CR n) (au CP aB)))) Tryz.func18 Mx n (by kernel_rfl) rfl fun _=>by kernel_rfl
def YZ (n:Nat):Sig xx:=⟨[],[.d .bool],fun a=>Ap n,none⟩
def Y0:Hn SI:=(.s .z (.s .z (.s (.f [5]) (.s .z (.s .z (.s (.j ⟨[(5,(.v .bool))],[],[1,2,3],[1128],2216,[]⟩ .z) .z))))))
theorem Y1 (n:Nat):aH 8 (YZ n) :=cq (au SL (au (Be n) (au (aaL n) (au (MB n) (au (nu n) (au (qj n) aB)))))) Tryz.func8 Y0 n (by kernel_rfl) rfl fun _=>by kernel_rfl
def acA (n:Nat):Sig xx:=⟨[.d (.st SI.Town)],[.d .bool],fun a=>OJ n a.1,none⟩
def acB:Hn SI:=(.s .z (.s .z (.s (.s (.j ⟨[(48,(.v .bool))],[],[1,3],[1000,1256],1384,[]⟩ .z) .z) (.s (.s .z (.b (.lx ⟨[(4,(.v ah))],[],[1,3],[1000,1256],1448,[]⟩ 0 ⟨[],[],[1],[1000],1448,[]⟩ (.s .z (.s (.b (.s (.j ⟨[(73,(.v .bool))],[],[1,3,4],[1000,1256],1768,[]⟩ .z) .z)) .z))))) (.s (.s .z (.b (.lx ⟨[(5,(.v ah))],[],[1],[1000],1512,[]⟩ 2 ⟨[],[],[1],[1000],1512,[]⟩ .z))) (.s (.s .z (.b (.lx ⟨[(6,(.v ah))],[],[1],[1000],1576,[]⟩ 4 ⟨[],[],[],[],1576,[]⟩ .z))) .z))))))
theorem acC (n:Nat):aH 9 (acA n) :=cq aB Tryz.func9 acB n (by kernel_rfl) rfl fun _=>by kernel_rfl
def ae5:Sig xx:=⟨[.d ak,.d ah,.d ah],[.d .bool],fun a=>Ut a.1 a.2.1 a.2.2.1,none⟩
theorem abk:aH 65 ae5 :=cq (au EN aB) Tryz.func65 .z 0 (by kernel_rfl) rfl fun _=>by kernel_rfl
def Y2:Sig xx:=⟨[.d ak,.ref ah,.ref ah],[.d .bool],fun a=>Fz a.1 a.2.1 a.2.2.1,none⟩
theorem Y3:aH 64 Y2 :=cq (au abk aB) Tryz.func64 .z 0 (by kernel_rfl) rfl fun _=>by kernel_rfl
def FW (n:Nat):Sig xx:=⟨[.d (.sl ak),.clo [ak] .bool],[.d ah],fun a=>qd n a.1 a.2.1,none⟩
def FX:Hn SI:=(.s .z (.s (.s .z (.b (.lx ⟨[(8,(.v ah))],[],[0,1,7],[],1256,[]⟩ 0 ⟨[],[],[],[],1256,[]⟩ .z))) .z))
theorem FY (n:Nat):aH 118 (FW n) :=cq aB Tryz.func118 FX n (by kernel_rfl) rfl fun _=>by kernel_rfl
def Cr (n:Nat):Sig xx:=⟨[.d (.sl ak),.clo [ak] .bool],[.d .bool],fun a=>jc n a.1 a.2.1,none⟩
theorem Cs (n:Nat):aH 63 (Cr n) :=cq (au (FY n) aB) Tryz.func63 .z n (by kernel_rfl) rfl fun _=>by kernel_rfl
def aec (n:Nat):Sig xx:=⟨[.d (.sl ak),.d ah,.d ah],[.d .bool],fun a=>G9 n a.1 a.2.1 a.2.2.1,none⟩
theorem aed (n:Nat):aH 23 (aec n) :=cq (au (Cs n) (au Y3 (au (oG n) aB))) Tryz.func23 .z n (by kernel_rfl) rfl fun _=>by kernel_rfl
def Kk:Sig xx:=⟨[.d ak,.d ah,.d ah],[.d (.st SI.A4_i64)],fun a=>uD a.1 a.2.1 a.2.2.1,none⟩
theorem Kl:aH 123 Kk :=cq aB Tryz.func123 .z 0 (by kernel_rfl) rfl fun _=>by kernel_rfl
def Y4 (n:Nat):Sig xx:=⟨[.d ak,.d (.sl cZ),.d ah,.d ah],[.d ah],fun a=>FB n a.1 a.2.1 a.2.2.1 a.2.2.2.1,none⟩
def Y5:Hn SI:=(.s .z (.s .z (.s .z (.s (.s .z (.b (.l ⟨[(9,(.v ah)),(19,(.v ah))],[],[10,17,18],[1448],1768,[]⟩ 0 ⟨[(9,(.v ah))],[],[],[],1768,[]⟩ .z))) .z))))
theorem Y6 (n:Nat):aH 69 (Y4 n) :=cq (au Kl (au Ba aB)) Tryz.func69 Y5 n (by kernel_rfl) rfl fun _=>by kernel_rfl
def Y7 (n:Nat):Sig xx:=⟨[.d ak,.d (.sl cZ),.d ah,.d ah],[.d ah],fun a=>FC n a.1 a.2.1 a.2.2.1 a.2.2.2.1,none⟩
def Y8:Hn SI:=(.s .z (.s (.s (.j ⟨[(19,(.v .bool))],[],[1,2,3,4],[1000],1128,[]⟩ .z) .z) .z))
theorem Y9 (n:Nat):aH 26 (Y7 n) :=cq (au (Gp n) (au abk (au (Y6 n) aB))) Tryz.func26 Y8 n (by kernel_rfl) rfl fun _=>by kernel_rfl
def FZ (n:Nat):Sig xx:=⟨[.d (.st SI.Town),.d ah,.d ah,.d ah,.d ah,.d ah],[.d .bool],fun a=>kR n a.1 a.2.1 a.2.2.1 a.2.2.2.1 a.2.2.2.2.1 a.2.2.2.2.2.1,none⟩
def F3:Hn SI:=(.s .z (.s .z (.s (.s (.j ⟨[(38,(.v .bool))],[],[1,2,3,4,5,6,13],[1000],1256,[]⟩ .z) .z) (.s .z (.s .z (.s .z (.s (.s (.j ⟨[(79,(.v .bool))],[],[1,2,3,4,5,6,13,14,16],[1000,1576,2408],2728,[]⟩ .z) .z) (.s .z (.s .z (.s (.j ⟨[(19,(.v .bool))],[],[1,2,3,4,5,6,13,14,16],[1000,1576,2408],3112,[]⟩ .z) (.s .z (.s .z (.s (.s .z (.b (.l ⟨[(19,(.v .bool)),(25,(.v ah))],[],[1,3,4,5,6,13,14,22,24],[1000,1576,3496,3880],4072,[]⟩ 0 ⟨[(19,(.v .bool))],[],[1,3,4,5,6,13,14],[1000,1576],4072,[]⟩ (.s .z (.s (.j ⟨[(19,(.v .bool))],[],[1,3,4,5,6,13,14,22,24,25],[1000,1576,3496,3880],4328,[]⟩ .z) .z))))) (.s (.s .z (.b (.l ⟨[(19,(.v .bool)),(26,(.v ah))],[],[1,3,4,5,6,13,14],[1000,1576],4136,[]⟩ 2 ⟨[(19,(.v .bool))],[],[3,4,5,13,14],[1576],4136,[]⟩ (.s .z (.s (.j ⟨[(19,(.v .bool))],[],[1,3,4,5,6,13,14,26],[1000,1576],4456,[]⟩ .z) .z))))) .z))))))))))))))
theorem F4 (n:Nat):aH 4 (FZ n) :=cq (au (Y1 n) (au (acC n) (au (Be n) (au (LU n) (au (nu n) (au (NA n) (au (aed n) (au (NC n) (au (qj n) (au Gn (au (Y9 n) (au (oG n) aB)))))))))))) Tryz.func4 F3 n (by kernel_rfl) rfl fun _=>by kernel_rfl
end
end Go.Proofs
