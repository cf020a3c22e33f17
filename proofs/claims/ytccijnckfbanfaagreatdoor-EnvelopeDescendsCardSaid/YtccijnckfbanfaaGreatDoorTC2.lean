/-
  Printed by wip/gen: that functions of the program compute this.
-/
import Derived.Test.YtccijnckfbanfaaGreatDoorTC1
open Go.IntKind (i64)
open List (mem_cons mem_append mem_singleton length_append length_cons length_nil map_append)
namespace Go.Proofs
open Go.Gb Go.RowKit
noncomputable section
theorem aeQ {cd:Code} {Q:Exit->St->Prop} {A:List aj} {d i:Int} {r:aj} {pre:List aX} {c:aX} (hp:pre.length+1<=500000)
 (hq:Ev Tryz.prog Tryz.f64.ntmps cd Q (if c.x0=r.x0 then hsM (fT A d i (jo pre)) r pre c else hsM (fT A d i (jo (pre++[c]))) r (pre++[c]) ⟨r.x0,r.x1,[]⟩)):
 Ev Tryz.prog Tryz.f64.ntmps (cA hsJ) (Uo (Ev Tryz.prog Tryz.f64.ntmps cd Q) Q) (hsM (fT A d i (jo pre)) r pre c):=by
 have hp':pre.length<=500000:=by omega
 show Ev _ _ (Code.seq (cA (cA hsJ)) (Code.seq TU (cB (cB (cA hsJ))))) _ _;refine gH ?_;refine dL (ops:=cO (cA (cA hsJ))) (σ2:=hsM (Zw A d i ((pre.length+1:Nat):Int) (jo pre)) r pre c) lV (by kernel_rfl) ag3 trivial ?_ ?_
 ·refine eT (fun p hp'=>?_) (fun _ _ h=>h) rfl (Ku (E:=[(8,tn ((pre.length+1:Nat):Int)),(7,.ptr 1002 0 0)]) (fun p hp' k hk=>?_) hp')
  ·simp only[Zw,fT,cK,mem_cons,List.not_mem_nil,or_false]at hp';rcases hp' with rfl |rfl |rfl |rfl |rfl |rfl |rfl<;>exact⟨rfl,rfl⟩
  ·simp only[mem_cons,List.not_mem_nil,or_false]at hp';rcases hp' with rfl |rfl
   ·simp[refs]at hk
   ·simp[refs]at hk;omega
 refine gH ?_;refine Hf (ops:=cO TU) (σ2:=hsM ((30,bo (c.x0 != r.x0))::fT A d i (jo pre)) r pre c) lV mixed (by kernel_rfl) ag5 ag4 ⟨by rw[Xn hp'];exact⟨by omega,by omega⟩,Xo hp'⟩ ?_ ?_
 ·refine eT (fun p hp'=>?_) (fun _ _ h=>h) rfl (Ku (E:=[(30,bo (c.x0 != r.x0)),(7,.ptr 1002 0 0)]) (fun p hp' k hk=>?_) hp')
  ·simp only[fT,cK,mem_cons,List.not_mem_nil,or_false]at hp';rcases hp' with rfl |rfl |rfl |rfl |rfl |rfl |rfl<;>exact⟨rfl,rfl⟩
  ·simp only[mem_cons,List.not_mem_nil,or_false]at hp';rcases hp' with rfl |rfl
   ·simp[refs]at hk
   ·simp[refs]at hk;omega
 show Ev _ _ (Code.cond (.tmp 30) TW (cB (cB (cB (cA hsJ))))) _ _;refine BK (c.x0 != r.x0) (fun _ _=>rfl) rfl ?_;refine Cc (σ2:=hsM (fT A d i (jo pre)) r pre c) ?_ ?_
 ·refine eT (fun p hp'=>?_) (fun _ _ h=>h) rfl (MB hp');simp only[fT,cK,mem_cons,List.not_mem_nil,or_false]at hp';rcases hp' with rfl |rfl |rfl |rfl |rfl |rfl<;>exact⟨rfl,rfl⟩
 by_cases e:c.x0=r.x0
 ·rw[if_pos e]at hq;rw[show (c.x0 != r.x0)=false by simp[e]];exact IZ hq
 rw[if_neg e]at hq;rw[show (c.x0 != r.x0)=true by simp[e]];show Ev _ _ (Code.region _ (cO TW) false) _ _;have hpl:(pre++[c]).length=pre.length+1:=by simp
 refine dL (ops:=cO TW) (σ2:=(⟨fT A d i (jo (pre++[c])),[(1000,some ⟨3,dY 2000 (pre++[c])++[oq r]⟩),(1002,some (bx r))],[]⟩:GSt).st (hsF (pre++[c]))) lV (by kernel_rfl) ag6
  ⟨trivial,by rw[length_append,l9];rfl,rfl,rfl,by omega,?_⟩ ?_ (aeP (by omega) hq)
 ·have:(500000:Nat) < maxLen:=by decide
  omega
 refine FR (fun k=>if k=nid 7 then 1000 else if k=1001 then 2000+pre.length else k) (fun k=>if k=1000 then nid 7 else if k=2000+pre.length then 1001 else k) (fun k=>k≠1000∧k≠2000+pre.length)
  (fun k hk=>?_) (fun j hj=>by rw[if_neg (by omega),if_neg (by omega)]) (fun p hp'=>?_) (fun j o' hj=>?_) rfl (ab6 (by omega))
 ·by_cases e1:k=nid 7
  ·rw[if_pos e1,if_pos rfl,e1]
  ·rw[if_neg e1];by_cases e2:k=1001
   ·rw[if_pos e2,if_neg (by omega),if_pos rfl,e2]
   ·rw[if_neg e2,if_neg hk.1,if_neg hk.2]
 ·simp only[fT,cK,mem_cons,List.not_mem_nil,or_false]at hp';rcases hp' with rfl |rfl |rfl |rfl |rfl |rfl
  ·exact⟨rfl,fun k hk=>by have:=mem_singleton.1 (show k∈[1002]from hk);omega,rfl⟩
  ·exact⟨rfl,fun k hk=>absurd (show k∈([]:List Nat)from hk) (List.not_mem_nil),rfl⟩
  ·refine⟨rfl,fun k hk=>by have:=mem_singleton.1 (show k∈[nid 7]from hk);simp only[nid]at this;omega,?_⟩;show AV.own 1000 0 (dY 2000 pre++[nC 1001 c]++[oq r]).length=AV.own 1000 0 ((pre++[c]).length+1);simp only[length_append,l9,length_cons,length_nil,Nat.zero_add]
  ·exact⟨rfl,fun k hk=>absurd (show k∈([]:List Nat)from hk) (List.not_mem_nil),rfl⟩
  ·exact⟨rfl,fun k hk=>absurd (show k∈([]:List Nat)from hk) (List.not_mem_nil),rfl⟩
  ·exact⟨rfl,fun k hk=>absurd (show k∈([]:List Nat)from hk) (List.not_mem_nil),rfl⟩
 ·simp only[GSt.st,lk]at hj;by_cases e0:1000=j
  ·rw[if_pos e0]at hj;injection hj with hj;subst e0 hj;refine⟨nid 7,⟨3,dY 2000 pre++[nC 1001 c]++[oq r]⟩,rfl,⟨by simp[nid],by simp only[nid];omega⟩,rfl,?_,fun q hq k hk=>?_⟩
   ·simp only[sV];congr 1;rw[map_append,map_append,Sq];congr 1;congr 1
    conv=>lhs;rw[<- List.map_id (dY 2000 pre)]
    exact List.map_congr_left fun q hq=>(jJ q fun k hk=>by
     have:=gU _ _ q hq k hk;rw[if_neg (by simp only[nid];omega),if_neg (by omega)]).symm
   ·rcases mem_append.1 hq with hq |hq
    ·rcases mem_append.1 hq with hq |hq
     ·have:=gU _ _ q hq k hk;omega
     ·rw[mem_singleton]at hq;subst hq;simp[aY,refs]at hk;omega
    ·rw[mem_singleton]at hq;subst hq;simp[aY,refs]at hk
  ·rw[if_neg e0]at hj;by_cases e2:1002=j
   ·rw[if_pos e2]at hj;injection hj with hj;subst e2 hj;refine⟨1002,bx r,rfl,by omega,rfl,rfl,fun q hq k hk=>?_⟩;simp only[bx,mem_singleton]at hq;subst hq;simp[aY,refs]at hk
   ·rw[if_neg e2]at hj;obtain⟨h1,h2,s,h3,rfl⟩:=Bt hj;have hrn:∀ f:Nat->Nat,(⟨2,eF s.column⟩:aH)=sV f ⟨2,eF s.column⟩:=fun f=>by
     simp only[sV];congr 1
     conv=>lhs;rw[<- List.map_id (eF _)]
     exact List.map_congr_left fun q hq=>(jJ q fun k hk=>(mZ _ q hq k hk).elim).symm
    by_cases e3:j=2000+pre.length
    ·have hs:s=c:=by
      rw[e3,Nat.add_sub_cancel_left,List.getElem?_append_right (Nat.le_refl _),Nat.sub_self]at h3;injection h3 with h3;exact h3.symm
     subst hs;exact⟨1001,_,rfl,by omega,by rw[if_neg (by simp[nid]),if_pos rfl,e3],hrn _,fun q hq k hk=>(mZ _ q hq k hk).elim⟩
    ·have hjl:j - 2000 < pre.length:=(by rw[hpl]at h2;omega);rw[List.getElem?_append_left hjl]at h3;have hjn:j < 600000:=(by rw[hpl]at h2;omega);refine⟨j,⟨2,eF s.column⟩,?_,⟨by omega,e3⟩,by rw[if_neg (by simp only[nid];omega),if_neg (by omega)],hrn _,fun q hq k hk=>(mZ _ q hq k hk).elim⟩;simp only[GSt.st,lk];rw[if_neg (by simp only[nid];omega),if_neg e0,if_neg (by simp only[nid];omega),if_neg e0,if_neg (by omega),if_neg e2];show hsF pre j=_;unfold hsF;rw[if_pos h1,h3];rfl
theorem Zx {A:List aj} {d i:Int}:OQ A d i []=(Xl A d i).st fun _=>none:=rfl
theorem xK {A:List aj} {d i:Int} {pre:List aX} {c:aX}:OQ A d i (pre++[c])=NW A d i pre c:=by
 unfold OQ;simp
theorem Sv {A:List aj} {d i:Int}:Old ((Xl A d i).st fun _=>none):=
 Aa (kL (E:=[]) (fun p hp'=>by cases hp') (by simp[refs])) (fun p hp'=>by cases hp') (fun k o h=>by cases h)
theorem aeR {A:List aj} {d i:Int} {out:AV} {O:List (Nat×Option aH)} {F:Nat->Option aH}:
 xP Tryz.prog (kN tab) (cO (cA hsB)) (fun _=>an0) F (List.range (cO (cA hsB)).size) ⟨cK A d i out,O,[]⟩=
  some (⟨(13,bo (decide (i < (A.length:Int))))::cK A d i out,O,[(13,none)]⟩,[]):=by kernel_rfl
theorem agD {A:List aj} {d i:Int} {out:AV} {O:List (Nat×Option aH)} {F:Nat->Option aH}:
 xP Tryz.prog (kN tab) (cO (cB (cB (cB hsB)))) (fun _=>an0) F (List.range (cO (cB (cB (cB hsB)))).size) ⟨cK A d i out,O,[]⟩=
  some (⟨(12,tn (i64.wrap (i+1)))::(71,tn (i64.wrap (i+1)))::cK A d i out,O,[(12,none),(71,none)]⟩,[]):=by kernel_rfl
theorem Xp {Q:Exit->St->Prop} {A:List aj} {d:Int} {k:Nat} {pre:List aX} {c:aX} (hk:k < 600000) (hp:pre.length<=500000) (hq:Q .normal (NW A d ((k+1:Nat):Int) pre c)):
 Ev Tryz.prog Tryz.f64.ntmps (cB (cB (cB hsB))) Q (NW A d (k:Int) pre c):=by
 show Ev _ _ (Code.region _ (cO (cB (cB (cB hsB)))) false) _ _;refine dL (ops:=cO (cB (cB (cB hsB)))) lV (by kernel_rfl) agD trivial ?_ hq;refine eT (fun p hp'=>?_) (fun _ _ h=>h) rfl (pI hp);simp only[OO,cK,mem_cons,List.not_mem_nil,or_false]at hp';rcases hp' with rfl |rfl |rfl |rfl |rfl
 ·exact⟨rfl,rfl⟩
 ·exact⟨rfl,rfl⟩
 ·exact⟨rfl,rfl⟩
 ·exact⟨rfl,rfl⟩
 ·refine⟨rfl,?_⟩;show tn (i64.wrap ((k:Int)+1))=tn ((k+1:Nat):Int);rw[ay (by omega)]
theorem aeS {Q:Exit->St->Prop} {A:List aj} {d:Int} {k:Nat} {r:aj} {pre:List aX} {c:aX} (hr:A[k]? =some r) (hp:pre.length<=500000)
 (hq:Ev Tryz.prog Tryz.f64.ntmps hsJ Q (hsM (fT A d (k:Int) (jo pre)) r pre c)):Ev Tryz.prog Tryz.f64.ntmps hsI Q (NW A d (k:Int) pre c):=by
 show Ev _ _ (Code.seq (cA hsI) hsJ) _ _;refine gH ?_;refine dL (ops:=cO (cA hsI)) lV (by kernel_rfl) (af0 (r:=r)) ⟨by omega,by rw[Int.toNat_natCast,List.getElem?_map,hr];rfl⟩ ?_ hq;refine FR (fun k=>if k=nid 2 then 1002 else k) (fun k=>if k=1002 then nid 2 else k) (fun k=>k≠1002) (fun k hk=>?_) (fun j hj=>by rw[if_neg (by omega)]) (fun p hp'=>?_) (fun j o' hj=>?_) rfl (MB hp)
 ·by_cases e:k=nid 2
  ·rw[if_pos e,if_pos rfl,e]
  ·rw[if_neg e,if_neg hk]
 ·simp only[fT,cK,mem_cons,List.not_mem_nil,or_false]at hp';rcases hp' with rfl |rfl |rfl |rfl |rfl |rfl
  ·exact⟨rfl,fun k hk=>by have:=mem_singleton.1 (show k∈[nid 2]from hk);simp only[nid]at this;omega,rfl⟩
  ·exact⟨rfl,fun k hk=>absurd (show k∈([]:List Nat)from hk) (List.not_mem_nil),rfl⟩
  ·exact⟨rfl,fun k hk=>by have:=mem_singleton.1 (show k∈[1000]from hk);omega,rfl⟩
  ·exact⟨rfl,fun k hk=>absurd (show k∈([]:List Nat)from hk) (List.not_mem_nil),rfl⟩
  ·exact⟨rfl,fun k hk=>absurd (show k∈([]:List Nat)from hk) (List.not_mem_nil),rfl⟩
  ·exact⟨rfl,fun k hk=>absurd (show k∈([]:List Nat)from hk) (List.not_mem_nil),rfl⟩
 ·have hfix:∀ (sz:Nat) (rows:List (List AV)),(∀ q∈rows,∀ k∈aY q,k < 600000∧k≠1002)->(⟨sz,rows⟩:aH)=sV (fun k=>if k=nid 2 then 1002 else k) ⟨sz,rows⟩∧∀ q∈rows,∀ k∈aY q,k≠1002:=by
   intro sz rows h;refine⟨?_,fun q hq k hk=>(h q hq k hk).2⟩;simp only[sV];congr 1
   conv=>lhs;rw[<- List.map_id rows]
   exact List.map_congr_left fun q hq=>(jJ q fun k hk=>if_neg (by have:=(h q hq k hk).1;simp only[nid];omega)).symm
  simp only[GSt.st,lk]at hj;by_cases e0:1000=j
  ·rw[if_pos e0]at hj;injection hj with hj;subst e0 hj;obtain⟨g1,g2⟩:=hfix 3 (dY 2000 pre++[nC 1001 c]) (fun q hq k hk=>by
    rcases mem_append.1 hq with hq |hq
    ·have:=gU _ _ q hq k hk;omega
    ·rw[mem_singleton]at hq;subst hq;simp[aY,refs]at hk;omega)
   exact⟨1000,_,rfl,by omega,rfl,g1,g2⟩
  ·rw[if_neg e0]at hj;by_cases e1:1001=j
   ·rw[if_pos e1]at hj;injection hj with hj;subst e1 hj;obtain⟨g1,g2⟩:=hfix 2 (eF c.column) (fun q hq k hk=>(mZ _ q hq k hk).elim);exact⟨1001,_,rfl,by omega,rfl,g1,g2⟩
   ·rw[if_neg e1]at hj;by_cases e2:1002=j
    ·rw[if_pos e2]at hj;injection hj with hj;subst e2 hj;refine⟨nid 2,bx r,rfl,by simp[nid],rfl,rfl,fun q hq k hk=>?_⟩;simp only[bx,mem_singleton]at hq;subst hq;simp[aY,refs]at hk
    ·rw[if_neg e2]at hj;obtain⟨h1,h2,s,h3,rfl⟩:=Bt hj;obtain⟨g1,g2⟩:=hfix 2 (eF s.column) (fun q hq k hk=>(mZ _ q hq k hk).elim);refine⟨j,_,?_,fun e=>e2 e.symm,if_neg (by simp only[nid];omega),g1,g2⟩;simp only[GSt.st,lk];rw[if_neg (by simp only[nid];omega),if_neg (by simp only[nid];omega),if_neg e0,if_neg e1];exact hj
theorem aeT {Q:Exit->St->Prop} {A:List aj} {d:Int} {k:Nat} {r:aj} (hr:A[k]? =some r)
 (hq:Ev Tryz.prog Tryz.f64.ntmps hsJ Q ((⟨fT A d (k:Int) .nilsl,[(1002,some (bx r))],[]⟩:GSt).st fun _=>none)):Ev Tryz.prog Tryz.f64.ntmps hsI Q ((Xl A d (k:Int)).st fun _=>none):=by
 show Ev _ _ (Code.seq (cA hsI) hsJ) _ _;refine gH ?_;refine dL (ops:=cO (cA hsI)) lV (by kernel_rfl) (af0 (r:=r)) ⟨by omega,by rw[Int.toNat_natCast,List.getElem?_map,hr];rfl⟩ ?_ hq;refine FR (fun k=>if k=nid 2 then 1002 else k) (fun k=>if k=1002 then nid 2 else k) (fun k=>k≠1002) (fun k hk=>?_) (fun j hj=>by rw[if_neg (by omega)]) (fun p hp'=>?_) (fun j o' hj=>?_) rfl (Kv (E:=[(7,.ptr 1002 0 0)]) fun p hp' k hk=>?_)
 ·by_cases e:k=nid 2
  ·rw[if_pos e,if_pos rfl,e]
  ·rw[if_neg e,if_neg hk]
 ·simp only[fT,cK,mem_cons,List.not_mem_nil,or_false]at hp';rcases hp' with rfl |rfl |rfl |rfl |rfl |rfl
  ·exact⟨rfl,fun k hk=>by have:=mem_singleton.1 (show k∈[nid 2]from hk);simp only[nid]at this;omega,rfl⟩
  ·exact⟨rfl,fun k hk=>absurd (show k∈([]:List Nat)from hk) (List.not_mem_nil),rfl⟩
  ·exact⟨rfl,fun k hk=>absurd (show k∈([]:List Nat)from hk) (List.not_mem_nil),rfl⟩
  ·exact⟨rfl,fun k hk=>absurd (show k∈([]:List Nat)from hk) (List.not_mem_nil),rfl⟩
  ·exact⟨rfl,fun k hk=>absurd (show k∈([]:List Nat)from hk) (List.not_mem_nil),rfl⟩
  ·exact⟨rfl,fun k hk=>absurd (show k∈([]:List Nat)from hk) (List.not_mem_nil),rfl⟩
 ·simp only[GSt.st,lk]at hj;by_cases e2:1002=j
  ·rw[if_pos e2]at hj;injection hj with hj;subst e2 hj;refine⟨nid 2,bx r,rfl,by simp[nid],rfl,rfl,fun q hq k hk=>?_⟩;simp only[bx,mem_singleton]at hq;subst hq;simp[aY,refs]at hk
  ·rw[if_neg e2]at hj;cases hj
 ·rw[mem_singleton]at hp';subst hp';simp[refs]at hk;omega
theorem Sw (d:Int) (r:aj):fM d [] r=[if zZ d r < z8 d r then⟨r.x0,r.x1,[]++[⟨zZ d r,z8 d r⟩]⟩else⟨r.x0,r.x1,[]⟩]:=by
 unfold fM;by_cases h:zZ d r < z8 d r
 ·rw[if_pos h,if_pos h];rfl
 ·rw[if_neg h,if_neg h];rfl
theorem Sy (d:Int) (pre:List aX) (c:aX) (r:aj):fM d (pre++[c]) r=
 if c.x0=r.x0 then pre++[if zZ d r < z8 d r then⟨c.x0,c.x1,c.column++[⟨zZ d r,z8 d r⟩]⟩else c]
 else (pre++[c])++[if zZ d r < z8 d r then⟨r.x0,r.x1,[]++[⟨zZ d r,z8 d r⟩]⟩else⟨r.x0,r.x1,[]⟩]:=by
 unfold fM;by_cases e:c.x0=r.x0
 ·by_cases h:zZ d r < z8 d r
  ·simp[e,h]
  ·simp[e,h]
 ·by_cases h:zZ d r < z8 d r
  ·simp[e,h]
  ·simp[e,h]
def Sz (k:Nat) (l:List aX):Prop:=l.length<=k∧∀ s∈l,s.column.length<=k
theorem SA {k:Nat} {l:List aX} (h:Sz k l) (d:Int) (r:aj):Sz (k+1) (fM d l r):=by
 rcases List.eq_nil_or_concat l with rfl |⟨pre,c,rfl⟩
 ·rw[Sw];refine⟨by simp,fun s hs=>?_⟩;rw[mem_singleton]at hs;subst hs;split<;>simp
 ·rw[List.concat_eq_append]at h ⊢;rw[Sy];obtain⟨h1,h2⟩:=h;simp only[length_append,length_cons,length_nil]at h1;have hc:=h2 c (by simp);split
  ·refine⟨by simp;omega,fun s hs=>?_⟩;rcases mem_append.1 hs with hs |hs
   ·have:=h2 s (by simp[hs]);omega
   ·rw[mem_singleton]at hs;subst hs;split
    ·simp;omega
    ·omega
  ·refine⟨by simp;omega,fun s hs=>?_⟩;rcases mem_append.1 hs with hs |hs
   ·have:=h2 s hs;omega
   ·rw[mem_singleton]at hs;subst hs;split<;>simp
theorem aeU {Q:Exit->St->Prop} {K:St->Prop} {A:List aj} {d:Int} {k:Nat} {r:aj} {l:List aX} (hA:A.length < 500000) (hr:A[k]? =some r) (hl:Sz k l) (hK:K (OQ A d ((k+1:Nat):Int) (fM d l r))):
 Ev Tryz.prog Tryz.f64.ntmps hsB (Uo K Q) (OQ A d (k:Int) l):=by
 have hk:k < A.length:=(List.getElem?_eq_some_iff.1 hr).1;have hdec:decide ((k:Int) < (A.length:Int))=true:=decide_eq_true (by omega);show Ev _ _ (Code.seq (cA hsB) (Code.seq (cA (cB hsB)) (Code.seq (Code.block (match cA (cB (cB hsB))with | .block i _=>i |_=>0) hsI) (cB (cB (cB hsB)))))) _ _;rcases List.eq_nil_or_concat l with rfl |⟨pre,c,rfl⟩
 ·rw[Zx];rw[Sw]at hK;refine gH ?_;refine dL (ops:=cO (cA hsB)) (σ2:=(⟨(13,bo true)::cK A d (k:Int) .nilsl,[],[]⟩:GSt).st fun _=>none) lV (by kernel_rfl) aeR trivial ?_ ?_
  ·refine eT (fun p hp'=>?_) (fun _ _ h=>h) rfl (Aa (kL (E:=[(13,bo true)]) (fun p hp' k hk=>by rw[mem_singleton]at hp';subst hp';simp[refs]at hk) (by simp[refs])) (fun p hp'=>by cases hp') (fun k o h=>by cases h));simp only[cK,mem_cons,List.not_mem_nil,or_false]at hp';rcases hp' with rfl |rfl |rfl |rfl |rfl |rfl
   ·refine⟨rfl,?_⟩;show bo (decide ((k:Int) < (A.length:Int)))=bo true;rw[hdec]
   all_goals exact⟨rfl,rfl⟩
  refine gH ?_;show Ev _ _ (Code.cond (.tmp 13) (cA (cA (cB hsB))) (cB (cA (cB hsB)))) _ _;refine BK true (fun _ _=>rfl) rfl (IZ ?_);refine gH (I4 ?_);refine Cc (σ2:=(Xl A d (k:Int)).st fun _=>none) ?_ (aeT hr ?_)
  ·refine eT (fun p hp'=>?_) (fun _ _ h=>h) rfl Sv;simp only[Xl,cK,mem_cons,List.not_mem_nil,or_false]at hp';rcases hp' with rfl |rfl |rfl |rfl |rfl<;>exact⟨rfl,rfl⟩
  show Ev _ _ (Code.seq (cA hsJ) (cB hsJ)) _ _;refine gH (ado (Sr (by simp) (by simp) ?_));refine Xp (by omega) (by simp) ?_;show K _;rw[<- xK];exact hK
 ·rw[List.concat_eq_append]at hl hK ⊢;obtain⟨h1,h2⟩:=hl;simp only[length_append,length_cons,length_nil]at h1;have hc:=h2 c (by simp);rw[xK];rw[Sy]at hK;refine gH ?_;refine dL (ops:=cO (cA hsB)) (σ2:=(⟨(13,bo true)::cK A d (k:Int) (jo pre),(OO A d (k:Int) pre c).obj,[]⟩:GSt).st (hsF pre)) lV (by kernel_rfl) aeR trivial ?_ ?_
  ·refine eT (fun p hp'=>?_) (fun _ _ h=>h) rfl ?_
   ·simp only[cK,mem_cons,List.not_mem_nil,or_false]at hp';rcases hp' with rfl |rfl |rfl |rfl |rfl |rfl
    ·refine⟨rfl,?_⟩;show bo (decide ((k:Int) < (A.length:Int)))=bo true;rw[hdec]
    all_goals exact⟨rfl,rfl⟩
   ·have h:=pI (A:=A) (d:=d) (i:=(k:Int)) (pre:=pre) (c:=c) (by omega);refine⟨fun t j hj=>?_,h.obj⟩;simp only[GSt.st,lk]at hj;by_cases e:13=t
    ·rw[if_pos e]at hj;simp[refs]at hj
    ·rw[if_neg e]at hj;exact h.env t j hj
  refine gH ?_;show Ev _ _ (Code.cond (.tmp 13) (cA (cA (cB hsB))) (cB (cA (cB hsB)))) _ _;refine BK true (fun _ _=>rfl) rfl (IZ ?_);refine gH (I4 ?_);refine Cc (σ2:=NW A d (k:Int) pre c) ?_ (aeS hr (by omega) ?_)
  ·refine eT (fun p hp'=>?_) (fun _ _ h=>h) rfl (pI (by omega));simp only[OO,cK,mem_cons,List.not_mem_nil,or_false]at hp';rcases hp' with rfl |rfl |rfl |rfl |rfl<;>exact⟨rfl,rfl⟩
  show Ev _ _ (Code.seq (cA hsJ) (cB hsJ)) _ _;refine gH (aeQ (by omega) ?_);by_cases e:c.x0=r.x0
  ·rw[if_pos e]at hK ⊢;refine Sr (by omega) (by omega) (Xp (by omega) (by omega) ?_);show K _;rw[<- xK];exact hK
  ·rw[if_neg e]at hK ⊢;refine Sr (by simp;omega) (by simp) (Xp (by omega) (by simp;omega) ?_);show K _;rw[<- xK];exact hK
theorem adp {A:List aj} {d i:Int} {l:List aX} {E:List (Nat×AV)} (hE:∀ p∈E,p.1∉[1,5,10,11,12]∧p.2=bo false) (hl:l.length<=500000):
 ∃ L F,OQ A d i l=(⟨cK A d i (match l.getLast? with |none=> .nilsl |some _=> .own 1000 0 l.length),L,[]⟩:GSt).st F∧
   Gb.Told ((⟨E++cK A d i (match l.getLast? with |none=> .nilsl |some _=> .own 1000 0 l.length),L,[]⟩:GSt).st F) (OQ A d i l)∧
   Old ((⟨E++cK A d i (match l.getLast? with |none=> .nilsl |some _=> .own 1000 0 l.length),L,[]⟩:GSt).st F):=by
 have hlk:∀ (E:List (Nat×AV)),(∀ p∈E,p.1∉[1,5,10,11,12]∧p.2=bo false)->∀ (out:AV) (t:Nat),t∈[1,5,10,11,12]->lk (E++cK A d i out) t=lk (cK A d i out) t:=by
  intro E hE out t ht
  induction E with
  |nil=>rfl
  |cons p E ih=>
   simp only[List.cons_append,lk];rw[if_neg (fun e:p.1=t=>(hE p (by simp)).1 (by rw[e];exact ht))];exact ih fun q hq=>hE q (by simp[hq])
 have hen:∀ (out:AV),∀ p∈cK A d i out,p.1∈[1,5,10,11,12]∧(lk (cK A d i out) p.1).getD .undef=p.2:=by
  intro out p hp;simp only[cK,mem_cons,List.not_mem_nil,or_false]at hp;rcases hp with rfl |rfl |rfl |rfl |rfl<;>exact⟨by simp,rfl⟩
 have hEr:∀ p∈E,∀ k∈refs p.2,k < 1000000:=fun p hp k hk=>by rw[(hE p hp).2]at hk;simp[refs]at hk
 rcases List.eq_nil_or_concat l with rfl |⟨pre,c,rfl⟩
 ·refine⟨[],fun _=>none,rfl,?_,?_⟩
  ·refine eT (L2:=Xl A d i) (fun p hp=>⟨rfl,?_⟩) (fun _ _ h=>h) rfl Sv;obtain⟨h1,h2⟩:=hen .nilsl p hp;show (lk (E++cK A d i .nilsl) p.1).getD .undef=p.2;rw[hlk E hE _ _ h1];exact h2
  ·exact Aa (kL hEr (by simp[refs])) (fun p hp'=>by cases hp') (fun k o h=>by cases h)
 ·rw[List.concat_eq_append]at hl ⊢;have hpl:(pre++[c]).length=pre.length+1:=by simp
  have hp:pre.length<=500000:=by omega
  refine⟨[(1000,some ⟨3,dY 2000 pre++[nC 1001 c]⟩),(1001,some ⟨2,eF c.column⟩)],hsF pre,?_,?_,?_⟩
  ·rw[xK];simp only[List.getLast?_append,List.getLast?_singleton,Option.some_or,hpl];rfl
  ·rw[xK];simp only[List.getLast?_append,List.getLast?_singleton,Option.some_or,hpl];refine eT (fun p hp=>⟨rfl,?_⟩) (fun _ _ h=>h) rfl (pI (by omega));obtain⟨h1,h2⟩:=hen (jo pre) p hp;show (lk (E++cK A d i (jo pre)) p.1).getD .undef=p.2;rw[hlk E hE _ _ h1];exact h2
  ·simp only[List.getLast?_append,List.getLast?_singleton,Option.some_or,hpl];have h:=pI (A:=A) (d:=d) (i:=i) (pre:=pre) (c:=c) (by omega);exact⟨(Aa (O:=[]) (ok:=[]) (F:=fun _=>none) (kL hEr (by simp[refs])) (fun p hp'=>by cases hp') (fun k o h=>by cases h)).env,h.obj⟩
theorem afJ {Q:Exit->St->Prop} {A:List aj} {d:Int} (hA:A.length < 500000) (hQ:Q (.exit 0) (OQ A d (A.length:Int) (A.foldl (fM d) []))):Ev Tryz.prog Tryz.f64.ntmps (.loop hsB) Q (OQ A d 0 []):=by
 refine ae3 (fun n σ=>∃ k,k<=A.length∧n+k=A.length+1∧Sz k ((A.take k).foldl (fM d) [])∧σ=OQ A d (k:Int) ((A.take k).foldl (fM d) [])) ?_ ?_ (A.length+1) ⟨0,by omega,by omega,⟨by simp,by simp⟩,rfl⟩
 ·rintro σ ⟨k,h1,h2,_⟩;omega
 ·rintro n σ ⟨k,h1,h2,h3,rfl⟩;rcases Nat.lt_or_ge k A.length with hk |hk
  ·have hr:A[k]? =some A[k]:=List.getElem?_eq_getElem hk;have e:(A.take (k+1)).foldl (fM d) []=fM d ((A.take k).foldl (fM d) []) A[k]:=(by rw[List.take_add_one,hr,List.foldl_append];rfl);refine aeU hA hr h3 ⟨k+1,by omega,by omega,?_,?_⟩
   ·rw[e];exact SA h3 d _
   ·rw[e]
  ·have hkA:k=A.length:=(by omega);subst hkA;rw[List.take_length]at h3 ⊢;generalize hl:A.foldl (fM d) []=l at hQ h3;obtain⟨L,F,e1,e2,e3⟩:=adp (A:=A) (d:=d) (i:=(A.length:Int)) (l:=l) (E:=[(13,bo false)]) (fun p hp=>by rw[mem_singleton]at hp;subst hp;exact⟨by simp,rfl⟩) (by have:=h3.1;omega);have hsub:Ev Tryz.prog Tryz.f64.ntmps hsB (Uo (fun σ=>∃ k,k<=A.length∧n+k=A.length+1∧Sz k ((A.take k).foldl (fM d) [])∧σ=OQ A d (k:Int) ((A.take k).foldl (fM d) [])) Q) ((⟨cK A d (A.length:Int) (match l.getLast? with |none=> .nilsl |some _=> .own 1000 0 l.length),L,[]⟩:GSt).st F):=by
    show Ev _ _ (Code.seq (cA hsB) (Code.seq (Code.cond (.tmp 13) (cA (cA (cB hsB))) (.exit 0)) (cB (cB hsB)))) _ _;refine gH ?_;refine dL (ops:=cO (cA hsB)) lV (by kernel_rfl) aeR trivial (σ2:=(⟨[(13,bo false)]++cK A d (A.length:Int) (match l.getLast? with |none=> .nilsl |some _=> .own 1000 0 l.length),L,[]⟩:GSt).st F) ?_ ?_
    ·refine eT (fun p hp'=>?_) (fun _ _ h=>h) rfl e3;have hdec:decide ((A.length:Int) < (A.length:Int))=false:=(by simp);simp only[cK,List.cons_append,List.nil_append,mem_cons,List.not_mem_nil,or_false]at hp';rcases hp' with rfl |rfl |rfl |rfl |rfl |rfl
     ·refine⟨rfl,?_⟩;show bo (decide ((A.length:Int) < (A.length:Int)))=bo false;rw[hdec]
     all_goals exact⟨rfl,rfl⟩
    refine gH ?_;refine BK false (fun _ _=>rfl) rfl (Cc e2 (abG ?_));exact hQ
   rw[e1];exact hsub
theorem ahb {E:List (Nat×AV)} {O:List (Nat×Option aH)} {F:Nat->Option aH}:xP Tryz.prog (kN tab) (cO (cA hsC)) (fun _=>an0) F (List.range (cO (cA hsC)).size) ⟨E,O,[]⟩=some (⟨(4,.nilsl)::E,O,[(4,none)]⟩,[]):=by kernel_rfl
theorem ahc {E:List (Nat×AV)} {O:List (Nat×Option aH)} {F:Nat->Option aH}:xP Tryz.prog (kN tab) (cO (cA (cB hsC))) (fun _=>an0) F (List.range (cO (cA (cB hsC))).size) ⟨E,O,[]⟩=some (⟨(5,.nilsl)::E,O,[(5,none)]⟩,[]):=by kernel_rfl
noncomputable def ahd (n:Int):Nat->Ann
 | 1=>⟨.num n,[],[],false⟩
 |_=>an0
theorem ahe {A:List aj} {E:List (Nat×AV)} {O:List (Nat×Option aH)} {F:Nat->Option aH}:
 xP Tryz.prog (kN tab) (cO (cA (cA (cB (cB hsC))))) (ahd (A.length:Int)) F (List.range (cO (cA (cA (cB (cB hsC))))).size) ⟨(0,.t (.sl (A.map iW)))::E,O,[]⟩=
  some (⟨(12,tn 0)::(11,tn (A.length:Int))::(10,.t (.sl (A.map iW)))::(0,.t (.sl (A.map iW)))::E,O,[(12,none),(11,none),(10,none)]⟩,[(A.length:Int)=((A.map iW).length:Int)]):=by kernel_rfl
theorem aeV {A:List aj} {d i:Int} {out:AV} {O:List (Nat×Option aH)} {F:Nat->Option aH}:
 xP Tryz.prog (kN tab) (cO (cA (cB (cB (cB hsC))))) (fun _=>an0) F (List.range (cO (cA (cB (cB (cB hsC))))).size) ⟨cK A d i out,O,[]⟩=
  some (⟨(4,out)::(72,out)::cK A d i out,O,[(4,none),(72,none)]⟩,[]):=by kernel_rfl
theorem aeW {get:Nat->Option aH}:∀ (l:List aX) (k:Nat),1000 < k->(∀ j s,l[j]? =some s->get (k+j)=some ⟨2,eF s.column⟩)->ExpRows get (some 1000) [] (dY k l) (l.map JG)
 |[],_,_,_=>trivial
 |s::l,k,hk,h=>by
  refine⟨⟨rfl,rfl,⟨by simp;omega,by simp[kept],⟨2,eF s.column⟩,s.column.map AB,by simpa using h 0 s rfl,?_,by simp,rfl⟩,trivial⟩,aeW l (k+1) (by omega) fun j s' hj=>?_⟩
  ·simp only[List.drop_zero];exact List.take_of_length_le (by simp[aG])
  ·have:=h (j+1) s' (by simpa using hj)
   rwa [show k+(j+1)=k+1+j by omega]at this
theorem ExpRows.app {get:Nat->Option aH} {fk:Option Nat} {q:List AV} {t:List Tree} (hq:ExpL get fk [] q t):∀ {R:List (List AV)} {S:List (List Tree)},ExpRows get fk [] R S->ExpRows get fk [] (R++[q]) (S++[t])
 |[],[],_=>⟨hq,trivial⟩
 |_::_,_::_,h=>⟨h.1,ExpRows.app hq h.2⟩
 |[],_::_,h=>h.elim
 |_::_,[],h=>h.elim
theorem agE {A:List aj} {d i:Int} {l:List aX} (hl:l.length<=500000):
 Ev Tryz.prog Tryz.f64.ntmps (cB (cB (cB hsC))) (af7 (kN tab) Tryz.f64.results.toList (.one (.fresh 3 (l.map JG))) []) (OQ A d i l):=by
 show Ev _ _ (Code.seq (cA (cB (cB (cB hsC)))) Code.ret) _ _;refine gH ?_;rcases List.eq_nil_or_concat l with rfl |⟨pre,c,rfl⟩
 ·rw[Zx];refine dL (ops:=cO (cA (cB (cB (cB hsC))))) (σ2:=(⟨(4,.nilsl)::cK A d i .nilsl,[],[]⟩:GSt).st fun _=>none) lV (by kernel_rfl) aeV trivial ?_ (Z6 ⟨[.nilsl],none,rfl,rfl,fun j p hj=>by simp at hj⟩);refine eT (fun p hp'=>?_) (fun _ _ h=>h) rfl (Aa (kL (E:=[(4,.nilsl)]) (fun p hp' k hk=>by rw[mem_singleton]at hp';subst hp';simp[refs]at hk) (by simp[refs])) (fun p hp'=>by cases hp') (fun k o h=>by cases h));simp only[cK,mem_cons,List.not_mem_nil,or_false]at hp';rcases hp' with rfl |rfl |rfl |rfl |rfl |rfl<;>exact⟨rfl,rfl⟩
 ·rw[List.concat_eq_append]at hl ⊢;simp only[length_append,length_cons,length_nil]at hl;rw[xK];refine dL (ops:=cO (cA (cB (cB (cB hsC))))) (σ2:=(⟨(4,jo pre)::cK A d i (jo pre),(OO A d i pre c).obj,[]⟩:GSt).st (hsF pre)) lV (by kernel_rfl) aeV trivial ?_ (Z6 ⟨[jo pre],some 1000,rfl,?_,fun j p hj=>by simp at hj⟩)
  ·refine eT (fun p hp'=>?_) (fun _ _ h=>h) rfl ?_
   ·simp only[cK,mem_cons,List.not_mem_nil,or_false]at hp';rcases hp' with rfl |rfl |rfl |rfl |rfl |rfl<;>exact⟨rfl,rfl⟩
   ·have h:=pI (A:=A) (d:=d) (i:=i) (pre:=pre) (c:=c) (by omega);refine⟨fun t j hj=>?_,h.obj⟩;simp only[GSt.st,lk]at hj;by_cases e:4=t
    ·rw[if_pos e]at hj;simp[refs]at hj;omega
    ·rw[if_neg e]at hj;exact h.env t j hj
  ·refine⟨rfl,by simp[kept],rfl,⟨3,dY 2000 pre++[nC 1001 c]⟩,rfl,rfl,?_,by simp⟩;rw[List.take_of_length_le (by simp[l9]),map_append];have hq:ExpL ((⟨(4,jo pre)::cK A d i (jo pre),(OO A d i pre c).obj,[]⟩:GSt).st (hsF pre)).obj (some 1000) [] (nC 1001 c) (JG c):=
    ⟨rfl,rfl,⟨by simp,by simp[kept],⟨2,eF c.column⟩,c.column.map AB,rfl,by rw[List.drop_zero];exact List.take_of_length_le (by simp[aG]),by simp,rfl⟩,trivial⟩
   refine ExpRows.app hq (aeW pre 2000 (by omega) fun j s hj=>?_);simp only[GSt.st,OO,lk];rw[if_neg (by omega),if_neg (by omega)];show hsF pre (2000+j)=_;unfold hsF;rw[if_pos (by omega),Nat.add_sub_cancel_left,hj];rfl
theorem NY (d:Int):∀ (A:List aj) (k:Nat) (l:List aX),Sz k l->Sz (k+A.length) (A.foldl (fM d) l)
 |[],_,_,h=>h
 |r::A,k,l,h=>by
  have:=NY d A (k+1) _ (SA h d r);simp only[List.foldl_cons,length_cons]
  rwa [show k+(A.length+1)=k+1+A.length by omega]
theorem aeX {A:List aj} {d:Int} (hA:A.length < 500000):
 Ev Tryz.prog Tryz.f64.ntmps hsC (af7 (kN tab) Tryz.f64.results.toList (.one (.fresh 3 ((A.foldl (fM d) []).map JG))) []) ((⟨[(0,.t (.sl (A.map iW))),(1,tn d)],[],[]⟩:GSt).st fun _=>none):=by
 have old:∀ E:List (Nat×AV),(∀ p∈E,∀ k∈refs p.2,k < 1000000)->Old ((⟨E,[],[]⟩:GSt).st fun _=>none):=fun E hE=>Aa hE (fun p hp'=>by cases hp') (fun k o h=>by cases h);have hfit:=NY d A 0 [] ⟨by simp,by simp⟩;show Ev _ _ (Code.seq (cA hsC) (Code.seq (cA (cB hsC)) (Code.seq (Code.seq (cA (cA (cB (cB hsC)))) (Code.block 0 (Code.loop hsB))) (cB (cB (cB hsC)))))) _ _;refine gH ?_;refine dL (ops:=cO (cA hsC)) (σ2:=(⟨[(0,.t (.sl (A.map iW))),(1,tn d)],[],[]⟩:GSt).st fun _=>none) lV (by kernel_rfl) ahb trivial ?_ ?_
 ·refine eT (fun p hp'=>?_) (fun _ _ h=>h) rfl (old _ fun p hp' k hk=>?_)
  ·simp only[mem_cons,List.not_mem_nil,or_false]at hp';rcases hp' with rfl |rfl<;>exact⟨rfl,rfl⟩
  ·simp only[mem_cons,List.not_mem_nil,or_false]at hp';rcases hp' with rfl |rfl<;>simp[refs]at hk
 refine gH ?_;refine dL (ops:=cO (cA (cB hsC))) (σ2:=(⟨[(0,.t (.sl (A.map iW))),(1,tn d),(5,.nilsl)],[],[]⟩:GSt).st fun _=>none) lV (by kernel_rfl) ahc trivial ?_ ?_
 ·refine eT (fun p hp'=>?_) (fun _ _ h=>h) rfl (old _ fun p hp' k hk=>?_)
  ·simp only[mem_cons,List.not_mem_nil,or_false]at hp';rcases hp' with rfl |rfl |rfl<;>exact⟨rfl,rfl⟩
  ·simp only[mem_cons,List.not_mem_nil,or_false]at hp';rcases hp' with rfl |rfl |rfl<;>simp[refs]at hk
 refine gH (gH ?_);refine dL (ops:=cO (cA (cA (cB (cB hsC))))) (σ2:=(Xl A d 0).st fun _=>none) lV (by kernel_rfl) ahe (by simp[fF]) ?_ ?_
 ·refine eT (fun p hp'=>?_) (fun _ _ h=>h) rfl Sv;simp only[Xl,cK,mem_cons,List.not_mem_nil,or_false]at hp';rcases hp' with rfl |rfl |rfl |rfl |rfl<;>exact⟨rfl,rfl⟩
 refine I4 (afJ hA ?_);exact agE (by have:=hfit.1;omega)
theorem abo:aJ 64 Sm:=by
 have hb:Tryz.f64.body=some hsC:=by kernel_rfl
 have hn : (Tryz.f64.name == "runtime.NumGoroutine") = false := by kernel_rfl
 refine cok (o9 Tryz.func64 hb hn) (fun a r e=>?_) rfl;simp only[Sm,EK]at e;split at e
 ·rename_i hA;injection e with e;subst e;exact Uq (args:=[.t (.sl (List.map iW a.1)),tn a.2.1]) (os:=[]) (os':=[]) lV Tryz.func64 hb hn (by show 2<=Tryz.f64.ntmps;decide +kernel) (fun k hk=>by simp[aY,refs]at hk) (by simp) rfl (aeX hA)
 ·cases e
def Zy (n:Nat):Sig xx:=⟨[.d (.sl (.st SI.ospan)),.d (.sl (.st SI.ospan))],[.fresh (.st SI.ospan)],fun a=>FX n a.1 a.2.1,none⟩
def Zz:Hn SI:=(.s .z (.s .z (.s (.s .z (.b (.l ⟨[(5,(.o 1320)),(13,(.v ah))],[(1320,.l (.st SI.ospan))],[1,11,12],[],1321,[(5,(.st SI.ospan))]⟩ 0 ⟨[(5,(.o 1320))],[(1320,.l (.st SI.ospan))],[],[],1321,[]⟩ (.s .z (.s .z (.s (.b (.s .z (.s .z (.b (.l ⟨[(5,(.o 1833)),(19,(.v ah))],[(1833,.l (.st SI.ospan))],[1,7,11,12,13,17,18],[1513],1834,[]⟩ 2 ⟨[(5,(.o 1833))],[(1833,.l (.st SI.ospan))],[1,11,12,13],[],1834,[]⟩ (.s .z (.s .z (.s (.j ⟨[(5,(.o 1898))],[(1898,.l (.st SI.ospan))],[1,7,11,12,13,17,18,19],[1513],1899,[]⟩ .z) .z)))))))) .z)))))) .z)))
theorem ZA (n:Nat):aJ 107 (Zy n) :=cq aB Tryz.func107 Zz n (by kernel_rfl) rfl fun _=>by kernel_rfl
def SB (n:Nat):Sig xx:=⟨[.d (.st SI.slab),.mref .bool,.mref ah,.mref ah,.mref ah,.mref .bool,.mref (.sl (.st SI.ospan))],[.mr .bool,.mr ah,.mr ah,.mr ah,.mr .bool,.mr (.sl (.st SI.ospan))],fun a=>Cq n a.1 a.2.1 a.2.2.1 a.2.2.2.1 a.2.2.2.2.1 a.2.2.2.2.2.1 a.2.2.2.2.2.2.1,none⟩
def SC:Hn SI:=(.s .z (.b (.s (.j ⟨[(14,(.v .bool))],[],[1,2,5,6,7],[0,1,2,3,4,5,1000],1064,[]⟩ .z) .z)))
theorem SF (n:Nat):aJ 106 (SB n) :=cq (au (ZA n) aB) Tryz.func106 SC n (by kernel_rfl) rfl fun _=>by kernel_rfl
def ZB (n:Nat):Sig xx:=⟨[.d (.sl (.st SI.slab)),.d ah,.d ah],[.d (.sl (.st SI.ospan))],fun a=>AQ n a.1 a.2.1 a.2.2.1,none⟩
def ZC:Hn SI:=(.s .z (.s .z (.s .z (.s .z (.s (.s .z (.b (.l ⟨[(20,(.v ah))],[(1000,.c 1 [[(.v ah)]]),(1064,.c 1 [[(.v ah)]]),(1384,.c 1 [[(.v ah)]]),(1448,.c 1 [[(.v .bool)]]),(1512,.c 1 [[(.v .bool)]]),(1768,.c 1 [[(.v (.sl (.st SI.ospan)))]])],[4,5,7,8,10,11,18,19],[],2152,[]⟩ 0 ⟨[],[(1000,.c 1 [[(.v ah)]]),(1064,.c 1 [[(.v ah)]]),(1384,.c 1 [[(.v ah)]]),(1448,.c 1 [[(.v .bool)]]),(1768,.c 1 [[(.v (.sl (.st SI.ospan)))]])],[4,5,7,8,10],[],2152,[]⟩ .z))) (.s (.s (.j ⟨[(35,(.v .bool))],[],[10],[1768],2152,[]⟩ .z) .z) .z))))))
theorem ZE (n:Nat):aJ 67 (ZB n) :=cq (au (SF n) aB) Tryz.func67 ZC n (by kernel_rfl) rfl fun _=>by kernel_rfl
def MC (n:Nat):Sig xx:=⟨[.d (.sl (.st SI.ospan)),.d (.sl (.st SI.ospan))],[.d .bool],fun a=>qj n a.1 a.2.1,none⟩
def ME:Hn SI:=(.s .z (.s .z (.s (.s .z (.b (.lx ⟨[(13,(.v ah))],[],[0,1,12],[],1576,[]⟩ 0 ⟨[],[],[],[],1576,[]⟩ .z))) .z)))
theorem MF (n:Nat):aJ 68 (MC n) :=cq aB Tryz.func68 ME n (by kernel_rfl) rfl fun _=>by kernel_rfl
def ZF (n:Nat):Sig xx:=⟨[.d (.sl ak),.d ah],[.fresh ak,.d ah],fun a=>FY n a.1 a.2.1,none⟩
def ZG:Hn SI:=(.s .z (.s .z (.s (.f [3]) (.s .z (.s (.s .z (.b (.l ⟨[(7,(.o 1896)),(27,(.v ah))],[(1896,.l ah)],[1,6,25,26],[],1897,[(7,ah)]⟩ 0 ⟨[(7,(.o 1896))],[(1896,.l ah)],[1,6],[],1897,[]⟩ .z))) (.s .z (.s (.f [2]) (.s .z (.s .z (.s .z (.s (.s .z (.b (.l ⟨[(10,(.o 2473)),(11,(.v (.sl (.st SI.ospan)))),(12,(.v ah)),(13,(.v ah))],[(2473,.l ak)],[1,6,7],[],2474,[(10,ak)]⟩ 2 ⟨[(10,(.o 2473))],[(2473,.l ak)],[],[],2474,[]⟩ (.s .z (.s (.j ⟨[(10,(.o 2730)),(11,(.v (.sl (.st SI.ospan)))),(12,(.v ah))],[(2730,.l ak)],[1,6,7,13],[],2731,[]⟩ (.b (.s .z (.s (.s (.j ⟨[(80,(.v .bool))],[],[1,6,7,10,11,12,13,14],[2473],3306,[]⟩ .z) (.s (.s (.s .z (.b (.l ⟨[(15,(.v ah))],[(2473,.l ak)],[1,6,7,10,11,12,13],[],3434,[]⟩ 4 ⟨[],[(2473,.l ak)],[1,6,7,10,11,12,13],[],3434,[]⟩ .z))) .z) .z)) (.s .z (.s .z (.b (.l ⟨[(10,(.o 3818)),(101,(.v ah))],[(3818,.l ak)],[1,6,7,11,12,13,99,100],[],3819,[]⟩ 6 ⟨[(10,(.o 3818))],[(3818,.l ak)],[1,6,7,11,12,13],[],3819,[]⟩ .z)))))))) .z))))) .z)))))))))))
theorem ZH (n:Nat):aJ 32 (ZF n) :=cq (au (abn n) (au abo (au (oo n) (au (jZ n) (au (ZE n) (au (MF n) aB)))))) Tryz.func32 ZG n (by kernel_rfl) rfl fun _=>by kernel_rfl
def abp (n:Nat):Sig xx:=⟨[.d (.sl ak)],[.d ak,.d .bool],fun a=>JP n a.1,none⟩
def abq:Hn SI:=(.s .z (.s (.s .z (.b (.l ⟨[(3,(.v .bool)),(8,(.v ah))],[(1000,.c 4 [[(.v ah),(.v ah),(.v ah),(.v ah)]])],[2,6,7],[],1320,[]⟩ 0 ⟨[(3,(.v .bool))],[(1000,.c 4 [[(.v ah),(.v ah),(.v ah),(.v ah)]])],[2],[],1320,[]⟩ (.s .z (.s .z (.s (.j ⟨[(3,(.v .bool))],[(1000,.c 4 [[(.v ah),(.v ah),(.v ah),(.v ah)]])],[2,6,7,8],[],1384,[]⟩ .z) .z)))))) .z))
theorem abr (n:Nat):aJ 50 (abp n) :=cq (au Bg aB) Tryz.func50 abq n (by kernel_rfl) rfl fun _=>by kernel_rfl
def ZI (n:Nat):Sig xx:=⟨[.d (.sl ak)],[.d ak,.d .bool],fun a=>AR n a.1,none⟩
def ZJ:Hn SI:=(.s .z (.s (.s (.j ⟨[(11,(.v .bool))],[],[0,2],[1000],1128,[]⟩ .z) .z) .z))
theorem ZK (n:Nat):aJ 21 (ZI n) :=cq (au (rV n) (au (abr n) aB)) Tryz.func21 ZJ n (by kernel_rfl) rfl fun _=>by kernel_rfl
def Kw (n:Nat):Sig xx:=⟨[.d (.st SI.Town),.d ah,.d ah],[.fresh dM],fun a=>iM n a.1 a.2.1 a.2.2.1,none⟩
def Ky:Hn SI:=(.s .z (.s .z (.s (.s .z (.b (.l ⟨[(7,(.o 1576)),(15,(.v ah))],[(1576,.l dM)],[13,14],[1384],1577,[(7,dM)]⟩ 0 ⟨[(7,(.o 1576))],[(1576,.l dM)],[],[],1577,[]⟩ (.s .z (.s .z (.s (.j ⟨[(7,(.o 1641))],[(1641,.l dM)],[13,14,15],[1384],1642,[]⟩ .z) .z)))))) .z)))
theorem y8 (n:Nat):aJ 14 (Kw n) :=cq (au (Br n) aB) Tryz.func14 Ky n (by kernel_rfl) rfl fun _=>by kernel_rfl
def Fv (n:Nat):Sig xx:=⟨[.d (.sl dM),.clo [dM] .bool],[.d ah],fun a=>oN n a.1 a.2.1,none⟩
def Fw:Hn SI:=(.s .z (.s (.s .z (.b (.lx ⟨[(8,(.v ah))],[],[0,1,7],[],1256,[]⟩ 0 ⟨[],[],[],[],1256,[]⟩ .z))) .z))
theorem Fx (n:Nat):aJ 124 (Fv n) :=cq aB Tryz.func124 Fw n (by kernel_rfl) rfl fun _=>by kernel_rfl
def Bu (n:Nat):Sig xx:=⟨[.d (.sl dM),.clo [dM] .bool],[.d .bool],fun a=>iG n a.1 a.2.1,none⟩
theorem Bv (n:Nat):aJ 98 (Bu n) :=cq (au (Fx n) aB) Tryz.func98 .z n (by kernel_rfl) rfl fun _=>by kernel_rfl
def SG:Sig xx:=⟨[.d ah,.d ah,.d ah],[.d .bool],fun a=>je a.1 a.2.1 a.2.2.1,none⟩
theorem Fy:aJ 57 SG :=cq aB Tryz.func57 .z 0 (by kernel_rfl) rfl fun _=>by kernel_rfl
def TY:Sig xx:=⟨[.d dM],[.d .bool],fun a=>yS a.1,none⟩
theorem T9:aJ 26 TY :=cq (au Fy aB) Tryz.func26 .z 0 (by kernel_rfl) rfl fun _=>by kernel_rfl
def MH:Sig xx:=⟨[.d dM],[.d .bool],fun a=>qp a.1,none⟩
theorem MI:aJ 99 MH :=cq (au T9 aB) Tryz.func99 .z 0 (by kernel_rfl) rfl fun _=>by kernel_rfl
def Ua (n:Nat):Sig xx:=⟨[.d ak,.d (.sl dM)],[.d .bool],fun a=>yT n a.1 a.2.1,none⟩
theorem Ub (n:Nat):aJ 58 (Ua n) :=cq (au Bg (au (Bv n) (au MI aB))) Tryz.func58 .z n (by kernel_rfl) rfl fun _=>by kernel_rfl
def MJ:Sig xx:=⟨[.d ah,.d ah],[.d ah],fun a=>qw a.1 a.2.1,none⟩
def MK:Hn SI:=(.s .z (.s .z (.s (.j ⟨[(5,(.v ah))],[],[],[],1320,[]⟩ .z) .z)))
theorem ML:aJ 126 MJ :=cq aB Tryz.func126 MK 0 (by kernel_rfl) rfl fun _=>by kernel_rfl
def Xq (n:Nat):Sig xx:=⟨[.d ak,.d (.sl dM),.d ah],[.d ak,.d .bool],fun a=>Hu n a.1 a.2.1 a.2.2.1,none⟩
def Xr:Hn SI:=(.s .z (.s .z (.s (.s .z (.b (.lx ⟨[(15,(.v ah))],[(1256,.c 4 [[(.v ah),(.v ah),(.v ah),(.v ah)]])],[2,3,6,8,13,14],[1000,1064],1576,[]⟩ 0 ⟨[],[(1256,.c 4 [[(.v ah),(.v ah),(.v ah),(.v ah)]])],[6,8],[1064],1576,[]⟩ (.s .z (.s .z (.s (.jx ⟨[],[(1256,.c 4 [[(.v ah),(.v ah),(.v ah),(.v ah)]])],[2,3,6,8,13,14,15],[1000,1064],1640,[]⟩ .z) .z)))))) .z)))
theorem Xt (n:Nat):aJ 108 (Xq n) :=cq (au ML aB) Tryz.func108 Xr n (by kernel_rfl) rfl fun _=>by kernel_rfl
def Xu (n:Nat):Sig xx:=⟨[.d ak,.d (.sl dM),.d ah],[.fresh ak,.d ah],fun a=>Cr n a.1 a.2.1 a.2.2.1,none⟩
theorem Xv (n:Nat):aJ 69 (Xu n) :=cq (au (Ub n) (au Fy (au (Xt n) aB))) Tryz.func69 .z n (by kernel_rfl) rfl fun _=>by kernel_rfl
def OT:Sig xx:=⟨[.d ak,.d ak],[.d ak,.d .bool],fun a=>nW a.1 a.2.1,none⟩
theorem Dr:aJ 70 OT :=cq aB Tryz.func70 .z 0 (by kernel_rfl) rfl fun _=>by kernel_rfl
def SH (n:Nat):Sig xx:=⟨[.d (.sl ak),.d ak],[.fresh ak],fun a=>vO n a.1 a.2.1,none⟩
def SK:Hn SI:=(.s .z (.s .z (.s (.s .z (.b (.l ⟨[(5,(.o 1384)),(14,(.v ah))],[(1384,.l ak)],[3,12,13],[1000],1385,[(5,ak)]⟩ 0 ⟨[(5,(.o 1384))],[(1384,.l ak)],[],[],1385,[]⟩ (.s .z (.s .z (.s (.j ⟨[(5,(.o 1449))],[(1449,.l ak)],[3,12,13,14],[1000],1450,[]⟩ (.b (.s .z (.s .z (.s .z (.s .z (.b (.l ⟨[(5,(.o 4905)),(68,(.v ah))],[(4905,.l ak)],[3,12,13,14,66,67],[1000,4713],4906,[]⟩ 2 ⟨[(5,(.o 4905))],[(4905,.l ak)],[3,12,13,14],[1000],4906,[]⟩ (.s .z (.s .z (.s (.j ⟨[(5,(.o 4970))],[(4970,.l ak)],[3,12,13,14,66,67,68],[1000,4713],4971,[]⟩ (.b (.s .z (.s (.j ⟨[(83,(.v .bool))],[],[3,5,11,12,13,14,66,67,68],[1000,4713,4905,5098],5226,[]⟩ .z) .z)))) .z))))))))))) .z)))))) .z)))
theorem SL (n:Nat):aJ 71 (SH n) :=cq (au Dr aB) Tryz.func71 SK n (by kernel_rfl) rfl fun _=>by kernel_rfl
def Iy:Sig xx:=⟨[.d ak,.d ak],[.d .bool],fun a=>jN a.1 a.2.1,none⟩
theorem Iz:aJ 109 Iy :=cq aB Tryz.func109 .z 0 (by kernel_rfl) rfl fun _=>by kernel_rfl
def rW (n:Nat):Sig xx:=⟨[.mut ak,.d ah,.d ah,.clo [ak,ak] ah],[.mu ak],fun a=>uP n a.1 a.2.1 a.2.2.1 a.2.2.2.1,none⟩
def rX:Hn SI:=(.s .z (.b (.l ⟨[(8,(.v ah))],[(0,.l ak)],[0,1,2,3],[],1192,[]⟩ 0 ⟨[],[(0,.l ak)],[],[],1192,[]⟩ (.s .z (.s (.b (.s .z (.b (.l ⟨[(9,(.v ah))],[(0,.l ak)],[0,1,2,3,8],[],1512,[]⟩ 2 ⟨[],[(0,.l ak)],[0,1,2,3,8],[],1512,[]⟩ (.s (.s (.j ⟨[(34,(.v .bool))],[],[0,1,2,3,8,9],[0],1512,[]⟩ .z) .z) .z))))) .z)))))
theorem rY (n:Nat):aJ 181 (rW n) :=cq aB Tryz.func181 rX n (by kernel_rfl) rfl fun _=>by kernel_rfl
def yj (n:Nat):Sig xx:=⟨[.mut ak,.d ah,.d ah,.d ah,.clo [ak,ak] ah],[.mu ak],fun a=>AU n a.1 a.2.1 a.2.2.1 a.2.2.2.1 a.2.2.2.2.1,none⟩
def yu:Hn SI:=(.s .z (.b (.lx ⟨[(10,(.v ah))],[(0,.l ak)],[0,2,3,4],[],1128,[]⟩ 0 ⟨[],[(0,.l ak)],[],[],1128,[]⟩ (.b (.s .z (.s .z (.s (.j ⟨[(11,(.v ah))],[],[0,2,3,4,10],[0],1576,[]⟩ (.s (.j ⟨[(40,(.v .bool))],[],[0,2,3,4,10,11],[0],1576,[]⟩ .z) .z)) .z)))))))
theorem yw (n:Nat):aJ 203 (yj n) :=cq aB Tryz.func203 yu n (by kernel_rfl) rfl fun _=>by kernel_rfl
def yx (n:Nat):Sig xx:=⟨[.mut ak,.d ah,.d ah,.clo [ak,ak] ah],[.mu ak],fun a=>AX n a.1 a.2.1 a.2.2.1 a.2.2.2.1,none⟩
def yA:Hn SI:=(.s .z (.s .z (.s .z (.s (.s .z (.b (.l ⟨[(11,(.v ah))],[(0,.l ak)],[0,3,8,9,10],[],1704,[]⟩ 0 ⟨[],[(0,.l ak)],[0,3,8,9,10],[],1704,[]⟩ .z))) (.s .z (.b (.l ⟨[(12,(.v ah))],[(0,.l ak)],[0,3,8,9],[],1896,[]⟩ 2 ⟨[],[(0,.l ak)],[],[],1896,[]⟩ .z)))))))
theorem yB (n:Nat):aJ 182 (yx n) :=cq (au (yw n) aB) Tryz.func182 yA n (by kernel_rfl) rfl fun _=>by kernel_rfl
def rZ (n:Nat):Sig xx:=⟨[.mut ak,.d ah,.d ah,.clo [ak,ak] ah],[.mu ak],fun a=>uQ n a.1 a.2.1 a.2.2.1 a.2.2.2.1,none⟩
def sj:Hn SI:=(.s .z (.s .z (.s (.s .z (.s .z (.s .z (.b (.l ⟨[(11,(.v ah))],[(0,.l ak),(1512,.c 1 [[(.v (.int .u64))]])],[0,1,8,9,10],[],2280,[]⟩ 0 ⟨[],[(0,.l ak)],[],[],2280,[]⟩ (.s .z (.s (.b (.s .z (.s (.j ⟨[(12,(.v ah))],[],[0,1,8,9,10,11],[0,1512],3176,[]⟩ .z) .z))) .z))))))) .z)))
theorem su (n:Nat):aJ 183 (rZ n) :=cq (au nK (au oQ aB)) Tryz.func183 sj n (by kernel_rfl) rfl fun _=>by kernel_rfl
def Bw:Sig xx:=⟨[.d (.sl ak),.d ah,.d ah,.mref ah,.clo [ak,ak] ah],[.d ah,.d ah,.mr ah],fun a=>Dw a.1 a.2.1 a.2.2.1 a.2.2.2.1 a.2.2.2.2.1,none⟩
theorem Bz:aJ 215 Bw :=cq aB Tryz.func215 .z 0 (by kernel_rfl) rfl fun _=>by kernel_rfl
def BA:Sig xx:=⟨[.d (.sl ak),.d ah,.d ah,.d ah,.mref ah,.clo [ak,ak] ah],[.d ah,.mr ah],fun a=>Dx a.1 a.2.1 a.2.2.1 a.2.2.2.1 a.2.2.2.2.1 a.2.2.2.2.2.1,none⟩
theorem pJ:aJ 205 BA :=cq (au Bz aB) Tryz.func205 .z 0 (by kernel_rfl) rfl fun _=>by kernel_rfl
def qK:Sig xx:=⟨[.d (.sl ak),.d ah,.mref ah,.clo [ak,ak] ah],[.d ah,.mr ah],fun a=>tQ a.1 a.2.1 a.2.2.1 a.2.2.2.1,none⟩
theorem qL:aJ 204 qK :=cq (au pJ aB) Tryz.func204 .z 0 (by kernel_rfl) rfl fun _=>by kernel_rfl
def uX:Sig xx:=⟨[.d (.sl ak),.d ah,.d ah,.clo [ak,ak] ah],[.d ah,.d ah],fun a=>xh a.1 a.2.1 a.2.2.1 a.2.2.2.1,none⟩
def uY:Hn SI:=(.s .z (.s .z (.s .z (.s .z (.s .z (.s .z (.s (.j ⟨[(13,(.v ah))],[(1384,.c 1 [[(.v ah)]])],[11],[],2600,[]⟩ (.s .z (.s (.s (.j ⟨[(12,(.v ah)),(13,(.v ah)),(14,(.v ah))],[(1384,.c 1 [[(.v ah)]])],[0,3,11],[],2728,[]⟩ .z) .z) .z))) .z)))))))
theorem uZ:aJ 184 uX :=cq (au qL (au pJ aB)) Tryz.func184 uY 0 (by kernel_rfl) rfl fun _=>by kernel_rfl
def uD (n:Nat):Sig xx:=⟨[.mut ak,.d ah,.d ah,.clo [ak,ak] ah],[.mu ak],fun a=>vP n a.1 a.2.1 a.2.2.1 a.2.2.2.1,none⟩
def uE:Hn SI:=(.s .z (.s .z (.b (.l ⟨[(8,(.v ah)),(9,(.v ah))],[(0,.l ak)],[0],[],1320,[]⟩ 0 ⟨[],[(0,.l ak)],[],[],1320,[]⟩ .z))))
theorem uF (n:Nat):aJ 185 (uD n) :=cq aB Tryz.func185 uE n (by kernel_rfl) rfl fun _=>by kernel_rfl
def ng (n:Nat):Sig xx:=⟨[.mut ak,.d ah,.d ah,.clo [ak,ak] ah],[.d .bool,.mu ak],fun a=>nX n a.1 a.2.1 a.2.2.1 a.2.2.2.1,none⟩
def ni:Hn SI:=(.s .z (.s .z (.s (.s .z (.b (.lx ⟨[(9,(.v ah)),(10,(.v ah))],[(0,.l ak)],[0,1,2,3],[],1320,[]⟩ 0 ⟨[],[(0,.l ak)],[],[],1320,[]⟩ (.s .z (.s (.jx ⟨[(9,(.v ah))],[(0,.l ak)],[0,1,2,3,10],[],1448,[]⟩ (.b (.s (.b (.l ⟨[(9,(.v ah))],[],[0,1,2,3,10],[0],1448,[]⟩ 2 ⟨[(9,(.v ah))],[],[0,1,2,3,10],[0],1448,[]⟩ (.s (.s (.j ⟨[(36,(.v .bool))],[],[0,1,2,3,9,10],[0],1448,[]⟩ .z) .z) .z))) (.s .z (.s .z (.s .z (.s (.j ⟨[],[(0,.l ak)],[0,1,2,3,9,10],[],3048,[]⟩ (.s .z (.s (.s .z (.b (.l ⟨[(11,(.v ah))],[(0,.l ak)],[0,1,2,3,9,10],[],3496,[]⟩ 4 ⟨[],[(0,.l ak)],[0,1,2,3,9,10],[],3496,[]⟩ .z))) .z))) (.s .z (.s (.s .z (.b (.l ⟨[(12,(.v ah))],[(0,.l ak)],[0,1,2,3,9,10],[],3496,[]⟩ 6 ⟨[],[(0,.l ak)],[0,1,2,3,9,10],[],3496,[]⟩ .z))) .z))))))))) .z))))) .z)))
theorem nk (n:Nat):aJ 186 (ng n) :=cq aB Tryz.func186 ni n (by kernel_rfl) rfl fun _=>by kernel_rfl
def qM (n:Nat):Sig xx:=⟨[.mut ak,.d ah,.d ah,.d ah,.clo [ak,ak] ah],[.d ah,.mu ak],fun a=>tT n a.1 a.2.1 a.2.2.1 a.2.2.2.1 a.2.2.2.2.1,none⟩
def qN:Hn SI:=(.s .z (.s .z (.s .z (.s (.b (.l ⟨[(11,(.v ah)),(12,(.v ah))],[(0,.l ak)],[0,1,4],[],2472,[]⟩ 0 ⟨[(11,(.v ah))],[(0,.l ak)],[],[],2472,[]⟩ (.b (.s (.b (.l ⟨[(11,(.v ah))],[],[0,1,4,12],[0],2472,[]⟩ 2 ⟨[(11,(.v ah))],[],[0,1,4,12],[0],2472,[]⟩ (.s (.s (.j ⟨[(47,(.v .bool))],[],[0,1,4,11,12],[0],2472,[]⟩ .z) .z) .z))) (.s (.b (.l ⟨[(12,(.v ah))],[],[0,1,4,11],[0],2472,[]⟩ 4 ⟨[(12,(.v ah))],[],[0,1,4,11],[0],2472,[]⟩ (.s (.s (.j ⟨[(65,(.v .bool))],[],[0,1,4,11,12],[0],2472,[]⟩ .z) .z) .z))) .z))))) .z))))
theorem qO (n:Nat):aJ 187 (qM n) :=cq aB Tryz.func187 qN n (by kernel_rfl) rfl fun _=>by kernel_rfl
def xL (n:Nat):Sig xx:=⟨[.mut ak,.d ah,.d ah,.d ah,.clo [ak,ak] ah],[.d ah,.d .bool,.mu ak],fun a=>zB n a.1 a.2.1 a.2.2.1 a.2.2.2.1 a.2.2.2.2.1,none⟩
def xM:Hn SI:=(.s .z (.s .z (.s .z (.s (.b (.l ⟨[(12,(.v ah))],[],[0,1,4,13],[0],2536,[]⟩ 0 ⟨[(12,(.v ah))],[],[0,1,4,13],[0],2536,[]⟩ (.s (.s (.j ⟨[(47,(.v .bool))],[],[0,1,4,12,13],[0],2536,[]⟩ .z) .z) .z))) (.s (.b (.l ⟨[(13,(.v ah))],[],[0,1,4,12],[0],2536,[]⟩ 2 ⟨[(13,(.v ah))],[],[0,1,4,12],[0],2536,[]⟩ (.s (.s (.j ⟨[(66,(.v .bool))],[],[0,1,4,12,13],[0],2536,[]⟩ .z) .z) .z))) (.s .z (.s .z (.s .z (.s .z (.s (.b (.l ⟨[(12,(.v ah)),(13,(.v ah))],[(0,.l ak)],[0,1,4],[],4136,[]⟩ 4 ⟨[(13,(.v ah))],[(0,.l ak)],[0,1],[],4136,[]⟩ (.b (.s (.b (.l ⟨[(12,(.v ah))],[],[0,1,4,13],[0],4136,[]⟩ 6 ⟨[(12,(.v ah))],[],[0,1,4,13],[0],4136,[]⟩ (.s (.s (.j ⟨[(120,(.v .bool))],[],[0,1,4,12,13],[0],4136,[]⟩ .z) .z) .z))) (.s (.b (.l ⟨[(13,(.v ah))],[],[0,1,4,12],[0],4136,[]⟩ 8 ⟨[(13,(.v ah))],[],[0,1,4,12],[0],4136,[]⟩ (.s (.s (.j ⟨[(139,(.v .bool))],[],[0,1,4,12,13],[0],4136,[]⟩ .z) .z) .z))) .z))))) .z))))))))))
theorem xN (n:Nat):aJ 188 (xL n) :=cq aB Tryz.func188 xM n (by kernel_rfl) rfl fun _=>by kernel_rfl
def Ab:Hn SI:=(.s .z (.s .z (.b (.lx ⟨[(1,(.v ah)),(2,(.v ah)),(3,(.v ah)),(10,(.v .bool)),(11,(.v .bool))],[(0,.l ak)],[0,4],[],1128,[]⟩ 999999 ⟨[],[],[],[],1128,[]⟩ (.b (.s .z (.s .z (.s .z (.s (.j ⟨[(3,(.v ah))],[(0,.l ak)],[0,1,2,4,10,11,12],[],1640,[]⟩ .z) (.s .z (.s (.j ⟨[(13,(.v ah)),(14,(.v ah))],[(0,.l ak)],[0,1,2,3,4,10,11,12],[],2280,[]⟩ .z) (.s (.jx ⟨[],[(0,.l ak)],[0,1,2,3,4,10,11,12,13],[],2280,[]⟩ (.s (.j ⟨[(75,(.v .bool))],[],[0,1,2,3,4,10,11,12,13],[0],2280,[]⟩ .z) .z)) (.s (.s (.j ⟨[(97,(.v .bool))],[],[0,1,2,3,4,10,11,12,13],[0],2280,[]⟩ .z) .z) .z)))))))))))))
theorem yC (n:Nat) (rc:((List aj))->(Int)->(Int)->(Int)->((aj×aj×Unit)->Option Int)->Option (List aj)) (hr:aJ 166 (iJ rc)):aJ 166 (iJ (fI n rc)) :=cq (au (rY n) (au (yB n) (au (su n) (au uZ (au (uF n) (au (nk n) (au (qO n) (au (xN n) (au hr aB))))))))) Tryz.func166 Ab n (by kernel_rfl) rfl fun _=>by kernel_rfl
theorem nD (n:Nat):∀ m,aJ 166 (iJ (cu n m))
 | 0=>cok (o9 Tryz.func166 (by kernel_rfl:Tryz.f166.body=some (Tryz.f166.body.getD .skip)) (by kernel_rfl)) (fun _ _ h=>(by cases h)) rfl
 |m+1=>yC n _ (nD n m)
def Ac (n:Nat):Sig xx:=⟨[.mut ak,.d ah,.d ah,.d ah,.clo [ak,ak] ah],[.mu ak],fun a=>kH n a.1 a.2.1 a.2.2.1 a.2.2.2.1 a.2.2.2.2.1,none⟩
theorem Ad (n:Nat):aJ 166 (Ac n):=nD n n
def IA (n:Nat):Sig xx:=⟨[.mut ak,.clo [ak,ak] ah],[.mu ak],fun a=>mR n a.1 a.2.1,none⟩
theorem IB (n:Nat):aJ 141 (IA n) :=cq (au CJ (au (Ad n) aB)) Tryz.func141 .z n (by kernel_rfl) rfl fun _=>by kernel_rfl
def Fz:Sig xx:=⟨[.d ak,.d ak],[.d ah],fun a=>kI a.1 a.2.1,none⟩
theorem FB:aJ 142 Fz :=cq (au lJ aB) Tryz.func142 .z 0 (by kernel_rfl) rfl fun _=>by kernel_rfl
def Kz (n:Nat):Sig xx:=⟨[.d (.sl ak),.d ah,.d ah],[.fresh ak],fun a=>oF n a.1 a.2.1 a.2.2.1,none⟩
def KA:Hn SI:=(.s .z (.s .z (.s (.s .z (.b (.l ⟨[(7,(.o 1320)),(15,(.v ah))],[(1320,.l ak)],[1,2,13,14],[],1321,[(7,ak)]⟩ 0 ⟨[(7,(.o 1320))],[(1320,.l ak)],[],[],1321,[]⟩ (.s .z (.s .z (.s (.j ⟨[(7,(.o 1385))],[(1385,.l ak)],[1,2,13,14,15],[],1386,[]⟩ (.b (.s .z (.s (.j ⟨[(28,(.v .bool))],[],[1,2,7,9,13,14,15],[1320,1513],1641,[]⟩ .z) .z)))) .z)))))) (.s .z (.s .z (.s (.s .z (.b (.l ⟨[(10,(.v ah)),(44,(.v ah))],[(1320,.l ak)],[7,42,43],[],1705,[]⟩ 2 ⟨[(10,(.v ah))],[(1320,.l ak)],[7],[],1705,[]⟩ (.s .z (.s .z (.s (.j ⟨[(10,(.v ah))],[(1320,.l ak)],[7,42,43,44],[],1769,[]⟩ (.b (.s .z (.s (.s (.j ⟨[(60,(.v .bool))],[],[7,10,12,42,43,44],[1320,1897],2025,[]⟩ .z) .z) .z)))) .z)))))) .z))))))
theorem KC (n:Nat):aJ 110 (Kz n) :=cq (au (IB n) (au FB aB)) Tryz.func110 KA n (by kernel_rfl) rfl fun _=>by kernel_rfl
def Ae (n:Nat):Sig xx:=⟨[.d (.sl ak),.d (.sl ak),.clo [ak,ak] .bool],[.d .bool],fun a=>gP n a.1 a.2.1 a.2.2.1,none⟩
def Af:Hn SI:=(.s .z (.s .z (.s (.s .z (.b (.lx ⟨[(17,(.v ah))],[],[1,2,15,16],[],1576,[]⟩ 0 ⟨[],[],[],[],1576,[]⟩ .z))) .z)))
theorem Ag (n:Nat):aJ 111 (Ae n) :=cq aB Tryz.func111 Af n (by kernel_rfl) rfl fun _=>by kernel_rfl
def OU (n:Nat):Sig xx:=⟨[.d (.sl ak)],[.fresh ak],fun a=>sO n a.1,none⟩
def OV:Hn SI:=(.s .z (.s .z (.s (.s .z (.b (.l ⟨[(3,(.o 1320)),(14,(.v ah))],[(1320,.l ah)],[0,12,13],[],1321,[(3,ah)]⟩ 0 ⟨[(3,(.o 1320))],[(1320,.l ah)],[0],[],1321,[]⟩ .z))) (.s .z (.s .z (.s .z (.s .z (.s (.s .z (.b (.l ⟨[(6,(.o 2153)),(7,(.o 2154)),(34,(.v ah))],[(2153,.l ak),(2154,.l ak)],[0,3,8,33],[1320],2155,[(6,ak),(7,ak)]⟩ 2 ⟨[(6,(.o 2153))],[(2153,.l ak)],[],[],2154,[]⟩ (.s .z (.s .z (.s (.b (.s .z (.s .z (.s (.j ⟨[(6,(.o 3115))],[(3115,.l ak)],[0,3,8,10,33,34],[1320,2987],3116,[]⟩ (.s (.j ⟨[(56,(.v .bool))],[],[0,3,6,8,9,10,33,34],[1320,2153,2987],3115,[]⟩ .z) (.s (.s .z (.b (.l ⟨[(11,(.v ah))],[(2153,.l ak)],[0,3,6,8,9,10,33,34],[1320,2987],3499,[]⟩ 4 ⟨[],[(2153,.l ak)],[0,3,6,8,10,33,34],[1320,2987],3499,[]⟩ .z))) .z))) .z)))) .z)))))) .z))))))))
theorem OW (n:Nat):aJ 72 (OU n) :=cq (au (oo n) (au (jZ n) (au (KC n) (au (Ag n) (au Iz aB))))) Tryz.func72 OV n (by kernel_rfl) rfl fun _=>by kernel_rfl
def OX (n:Nat):Sig xx:=⟨[.d (.sl ak),.d ak,.d (.sl dM),.d (.sl (.st SI.Easement)),.d ah],[.fresh ak,.d ah],fun a=>lg n a.1 a.2.1 a.2.2.1 a.2.2.2.1 a.2.2.2.2.1,none⟩
def OY:Hn SI:=(.s .z (.s .z (.s .z (.s .z (.s (.s .z (.b (.l ⟨[(14,(.o 2216)),(37,(.v ah))],[(2216,.l ak)],[3,4,12,35,36],[1576],2217,[(14,ak)]⟩ 0 ⟨[(14,(.o 2216))],[(2216,.l ak)],[3,4],[],2217,[]⟩ (.s .z (.s .z (.s (.b (.s .z (.s .z (.b (.l ⟨[(14,(.o 2729)),(43,(.v ah))],[(2729,.l ak)],[3,4,12,16,35,36,37,41,42],[1576,2409],2730,[]⟩ 2 ⟨[(14,(.o 2729))],[(2729,.l ak)],[3,4,12,35,36,37],[1576],2730,[]⟩ (.s .z (.s .z (.s (.j ⟨[(14,(.o 2794))],[(2794,.l ak)],[3,4,12,16,35,36,37,41,42,43],[1576,2409],2795,[]⟩ .z) .z)))))))) .z)))))) (.s (.s .z (.b (.l ⟨[(14,(.o 2409)),(62,(.v ah))],[(2409,.l ak)],[4,60,61],[],2410,[]⟩ 4 ⟨[(14,(.o 2409))],[(2409,.l ak)],[],[],2410,[]⟩ (.s .z (.s .z (.s (.j ⟨[(14,(.o 2474))],[(2474,.l ak)],[4,60,61,62],[],2475,[]⟩ (.b (.s .z (.s .z (.s .z (.b (.l ⟨[(14,(.o 3242)),(73,(.v ah))],[(3242,.l ak)],[4,60,61,62,71,72],[],3243,[]⟩ 6 ⟨[(14,(.o 3242))],[(3242,.l ak)],[4,60,61,62],[],3243,[]⟩ .z))))))) .z)))))) .z))))))
theorem OZ (n:Nat):aJ 33 (OX n) :=cq (au (Xv n) (au Dr (au (SL n) (au (OW n) aB)))) Tryz.func33 OY n (by kernel_rfl) rfl fun _=>by kernel_rfl
def MN (n:Nat):Sig xx:=⟨[.d (.st SI.Town),.d ah,.d ah,.d ah],[.fresh (.sl ak),.d ah],fun a=>envelope_Rooms n a.1 a.2.1 a.2.2.1 a.2.2.2.1,none⟩
def MO:Hn SI:=(.s .z (.s .z (.s (.b (.s .z (.s .z (.s (.j ⟨[(36,(.v .bool))],[],[1,2,3,4,10],[1000,1640],2024,[]⟩ .z) .z)))) (.s .z (.s (.jx ⟨[(12,(.o 2088))],[(2088,.l ak)],[1,2,3,4,10],[1000,1640],2089,[(12,ak)]⟩ .z) (.s .z (.s (.s .z (.b (.l ⟨[(16,(.o 2409)),(69,(.v ah))],[(2409,.l (.st SI.Easement))],[1,2,3,4,10,12,67,68],[1000,1640,2088],2410,[(16,(.st SI.Easement))]⟩ 1 ⟨[(16,(.o 2409))],[(2409,.l (.st SI.Easement))],[1,2,3,4,10,12],[1000,1640,2088],2410,[]⟩ (.s .z (.s .z (.s (.j ⟨[(16,(.o 2474))],[(2474,.l (.st SI.Easement))],[1,2,3,4,10,12,67,68,69],[1000,1640,2088],2475,[]⟩ (.b (.s .z (.s (.j ⟨[(81,(.v .bool))],[],[1,2,3,4,10,12,16,18,67,68,69],[1000,1640,2088,2409,2602],2730,[]⟩ .z) .z)))) .z)))))) (.s .z (.s .z (.s .z (.s (.s .z (.b (.lx ⟨[(22,(.o 3498)),(98,(.v ah))],[(3498,.l (.sl ak))],[12,16,19,21,97],[2088,2409,2794,3178],3499,[(22,(.sl ak))]⟩ 3 ⟨[(22,(.o 3498))],[(3498,.l (.sl ak))],[],[],3499,[]⟩ .z))) .z)))))))))))
theorem BB (n:Nat):aJ 9 (MN n) :=cq (au (Me n) (au (rV n) (au (vo n) (au (ZH n) (au (ZK n) (au (y8 n) (au (OZ n) aB))))))) Tryz.func9 MO n (by kernel_rfl) rfl fun _=>by kernel_rfl
def abt (n:Nat):Sig xx:=⟨[.d (.sl ak),.d (.sl ak)],[.d .bool],fun a=>JQ n a.1 a.2.1,none⟩
def abu:Hn SI:=(.s .z (.s .z (.s (.s .z (.b (.lx ⟨[(5,(.v ah))],[],[0,1],[],1448,[]⟩ 0 ⟨[],[],[],[],1448,[]⟩ .z))) .z)))
theorem abv (n:Nat):aJ 29 (abt n) :=cq aB Tryz.func29 abu n (by kernel_rfl) rfl fun _=>by kernel_rfl
def FC (n:Nat):Sig xx:=⟨[.d (.sl (.sl ak)),.clo [(.sl ak)] .bool],[.d ah],fun a=>xk n a.1 a.2.1,none⟩
def FD:Hn SI:=(.s .z (.s (.s .z (.b (.lx ⟨[(8,(.v ah))],[],[0,1,7],[],1256,[]⟩ 0 ⟨[],[],[],[],1256,[]⟩ .z))) .z))
theorem FE (n:Nat):aJ 88 (FC n) :=cq aB Tryz.func88 FD n (by kernel_rfl) rfl fun _=>by kernel_rfl
def BD (n:Nat):Sig xx:=⟨[.d (.sl (.sl ak)),.clo [(.sl ak)] .bool],[.d .bool],fun a=>qU n a.1 a.2.1,none⟩
theorem BF (n:Nat):aJ 44 (BD n) :=cq (au (FE n) aB) Tryz.func44 .z n (by kernel_rfl) rfl fun _=>by kernel_rfl
def Gj (n:Nat):Sig xx:=⟨[.d (.sl ak)],[.d .bool],fun a=>yU n a.1,none⟩
theorem Gl (n:Nat):aJ 45 (Gj n) :=cq (au (rV n) aB) Tryz.func45 .z n (by kernel_rfl) rfl fun _=>by kernel_rfl
def MP (n:Nat):Sig xx:=⟨[.d (.sl (.sl ak))],[.fresh (.st SI.Slab),.d ah],fun a=>xq n a.1,none⟩
def MQ:Hn SI:=(.s .z (.s (.s (.j ⟨[(14,(.v .bool))],[],[0],[],1128,[]⟩ .z) .z) (.s .z (.s (.s .z (.b (.l ⟨[(4,(.o 1384)),(17,(.v ah))],[(1384,.l (.st SI.Slab))],[15,16],[],1385,[(4,(.st SI.Slab))]⟩ 0 ⟨[(4,(.o 1384))],[(1384,.l (.st SI.Slab))],[],[],1385,[]⟩ (.s .z (.s .z (.s (.j ⟨[(4,(.o 1449))],[(1449,.l (.st SI.Slab))],[15,16,17],[],1450,[]⟩ (.b (.s .z (.s .z (.b (.s .z (.s .z (.s (.j ⟨[(39,(.v .bool))],[],[4,5,6,7,15,16,17],[1384],2217,[]⟩ .z) .z)))))))) .z)))))) .z))))
theorem MR (n:Nat):aJ 16 (MP n) :=cq (au (BF n) (au (Gl n) (au (Dq n) (au Dn aB)))) Tryz.func16 MQ n (by kernel_rfl) rfl fun _=>by kernel_rfl
def ZL (n:Nat):Sig xx:=⟨[],[.d .bool],fun _=>AY n,none⟩
def ZM:Hn SI:=(.s .z (.s .z (.s (.f [5]) (.s .z (.s .z (.s (.j ⟨[(5,(.v .bool))],[],[1,2,3],[1128],2216,[]⟩ .z) .z))))))
theorem ZN (n:Nat):aJ 6 (ZL n) :=cq (au TM (au (BB n) (au (abv n) (au (MR n) (au (vo n) (au (y8 n) aB)))))) Tryz.func6 ZM n (by kernel_rfl) rfl fun _=>by kernel_rfl
def adq (n:Nat):Sig xx:=⟨[.d (.st SI.Town)],[.d .bool],fun a=>FZ n a.1,none⟩
def adr:Hn SI:=(.s .z (.s .z (.s (.s (.j ⟨[(48,(.v .bool))],[],[1,3],[1000,1256],1384,[]⟩ .z) .z) (.s (.s .z (.b (.lx ⟨[(4,(.v ah))],[],[1,3],[1000,1256],1448,[]⟩ 0 ⟨[],[],[1],[1000],1448,[]⟩ (.s .z (.s (.b (.s (.j ⟨[(73,(.v .bool))],[],[1,3,4],[1000,1256],1768,[]⟩ .z) .z)) .z))))) (.s (.s .z (.b (.lx ⟨[(5,(.v ah))],[],[1],[1000],1512,[]⟩ 2 ⟨[],[],[1],[1000],1512,[]⟩ .z))) (.s (.s .z (.b (.lx ⟨[(6,(.v ah))],[],[1],[1000],1576,[]⟩ 4 ⟨[],[],[],[],1576,[]⟩ .z))) .z))))))
theorem ads (n:Nat):aJ 7 (adq n) :=cq aB Tryz.func7 adr n (by kernel_rfl) rfl fun _=>by kernel_rfl
def qP (n:Nat):Sig xx:=⟨[.d (.sl (.st SI.strip)),.d ah,.clo [(.st SI.strip),ah] ah],[.d ah,.d .bool],fun a=>fO n a.1 a.2.1 a.2.2.1,none⟩
def qQ:Hn SI:=(.s .z (.s .z (.s .z (.s (.b (.l ⟨[(9,(.v ah)),(10,(.v ah))],[],[0,1,2,8],[],1512,[]⟩ 0 ⟨[(9,(.v ah))],[],[0,1,2,8],[],1512,[]⟩ .z)) .z))))
theorem qR (n:Nat):aJ 155 (qP n) :=cq aB Tryz.func155 qQ n (by kernel_rfl) rfl fun _=>by kernel_rfl
def abw:Sig xx:=⟨[.d (.st SI.strip),.d ah],[.d ah],fun a=>tV a.1 a.2.1,none⟩
theorem abx:aJ 156 abw :=cq aB Tryz.func156 .z 0 (by kernel_rfl) rfl fun _=>by kernel_rfl
def afK (n:Nat):Sig xx:=⟨[.d (.sl (.st SI.strip)),.d ah],[.d (.sl (.st SI.span))],fun a=>Ro n a.1 a.2.1,none⟩
def afL:Hn SI:=(.s .z (.s .z (.s (.s (.j ⟨[(25,(.v .bool))],[],[0,5],[],1576,[]⟩ .z) .z) .z)))
theorem afM (n:Nat):aJ 122 (afK n) :=cq (au (qR n) (au abx aB)) Tryz.func122 afL n (by kernel_rfl) rfl fun _=>by kernel_rfl
def SQ:Sig xx:=⟨[.nil,.d ah],[.fresh (.st SI.span)],fun a=>JU a.1 a.2.1,none⟩
theorem SS:aJ 176 SQ :=cq aB Tryz.func176 .z 0 (by kernel_rfl) rfl fun _=>by kernel_rfl
def MS (n:Nat):Sig xx:=⟨[.d (.sl (.sl (.st SI.span)))],[.fresh (.st SI.span)],fun a=>xu n a.1,none⟩
def MU:Hn SI:=(.s .z (.s .z (.s (.s .z (.b (.l ⟨[(3,(.v ah)),(11,(.v ah))],[],[0,9,10],[],1320,[]⟩ 0 ⟨[(3,(.v ah))],[],[0],[],1320,[]⟩ .z))) (.s .z (.s (.s .z (.b (.l ⟨[(6,(.o 1704)),(27,(.v ah))],[(1704,.l (.st SI.span))],[25,26],[],1705,[]⟩ 2 ⟨[(6,(.o 1704))],[(1704,.l (.st SI.span))],[],[],1705,[]⟩ .z))) .z)))))
theorem MV (n:Nat):aJ 153 (MS n) :=cq (au SS aB) Tryz.func153 MU n (by kernel_rfl) rfl fun _=>by kernel_rfl
def sw (n:Nat):Sig xx:=⟨[.d (.sl (.st SI.span)),.d ah,.clo [(.st SI.span),ah] ah],[.d ah,.d .bool],fun a=>gF n a.1 a.2.1 a.2.2.1,none⟩
def sD:Hn SI:=(.s .z (.s .z (.s .z (.s (.b (.l ⟨[(9,(.v ah)),(10,(.v ah))],[],[0,1,2,8],[],1512,[]⟩ 0 ⟨[(9,(.v ah))],[],[0,1,2,8],[],1512,[]⟩ .z)) .z))))
theorem sF (n:Nat):aJ 177 (sw n) :=cq aB Tryz.func177 sD n (by kernel_rfl) rfl fun _=>by kernel_rfl
def SV:Sig xx:=⟨[.d (.st SI.span),.d ah],[.d ah],fun a=>jg a.1 a.2.1,none⟩
theorem SY:aJ 178 SV :=cq aB Tryz.func178 .z 0 (by kernel_rfl) rfl fun _=>by kernel_rfl
def ZO (n:Nat):Sig xx:=⟨[.d (.sl (.st SI.span)),.d ah],[.d .bool],fun a=>AZ n a.1 a.2.1,none⟩
theorem ZP (n:Nat):aJ 154 (ZO n) :=cq (au (sF n) (au SY aB)) Tryz.func154 .z n (by kernel_rfl) rfl fun _=>by kernel_rfl
def aby (n:Nat):Sig xx:=⟨[.d (.sl (.st SI.span)),.d (.sl (.st SI.span)),.clo [.bool,.bool] .bool],[.fresh (.st SI.span)],fun a=>EL n a.1 a.2.1 a.2.2.1,none⟩
def abz:Hn SI:=(.s .z (.s .z (.s (.s .z (.b (.l ⟨[(7,(.o 1512)),(19,(.v ah))],[(1512,.l ah)],[0,1,2,17,18],[1320],1513,[(7,ah)]⟩ 0 ⟨[(7,(.o 1512))],[(1512,.l ah)],[0,1,2],[],1513,[]⟩ .z))) (.s .z (.s .z (.s .z (.s (.s .z (.b (.l ⟨[(10,(.o 1961)),(11,(.v ah))],[(1961,.l (.st SI.span))],[0,1,2,7],[1512],1962,[(10,(.st SI.span))]⟩ 2 ⟨[(10,(.o 1961))],[(1961,.l (.st SI.span))],[],[],1962,[]⟩ (.s .z (.s (.j ⟨[(10,(.o 2218))],[(2218,.l (.st SI.span))],[0,1,2,7,11],[1512],2219,[]⟩ (.b (.s .z (.s .z (.s .z (.s (.j ⟨[(68,(.v .bool))],[],[0,1,2,7,10,11,12,13],[1512,1961],3370,[]⟩ .z) .z)))))) .z))))) .z)))))))
theorem abA (n:Nat):aJ 121 (aby n) :=cq (au (MV n) (au (oo n) (au (jZ n) (au (ZP n) aB)))) Tryz.func121 abz n (by kernel_rfl) rfl fun _=>by kernel_rfl
def Xw (n:Nat):Sig xx:=⟨[.d (.sl ak),.d (.sl ak),.clo [.bool,.bool] .bool],[.d (.sl ak),.d ah],fun a=>Cs n a.1 a.2.1 a.2.2.1,none⟩
def Xx:Hn SI:=(.s .z (.s (.s (.j ⟨[(20,(.v .bool))],[],[0,1,2],[],1128,[]⟩ .z) .z) (.s (.f [6,7]) (.s .z (.s (.s .z (.b (.l ⟨[(33,(.v ah))],[(1832,.l (.st SI.strip))],[2,8,9,10,31,32],[],2152,[]⟩ 0 ⟨[],[(1832,.l (.st SI.strip))],[10],[],2152,[]⟩ .z))) .z)))))
theorem Xy (n:Nat):aJ 90 (Xw n) :=cq (au (rV n) (au (NU n) (au (afM n) (au (abA n) (au (Sd n) (au Kl aB)))))) Tryz.func90 Xx n (by kernel_rfl) rfl fun _=>by kernel_rfl
def Uc:Sig xx:=⟨[.d .bool,.d .bool],[.d .bool],fun a=>yV a.1 a.2.1,none⟩
theorem Ud:aJ 91 Uc :=cq aB Tryz.func91 .z 0 (by kernel_rfl) rfl fun _=>by kernel_rfl
def abB (n:Nat):Sig xx:=⟨[.d (.sl ak),.d (.sl ak)],[.d (.sl ak),.d ah],fun a=>JX n a.1 a.2.1,none⟩
theorem abC (n:Nat):aJ 49 (abB n) :=cq (au (Xy n) (au Ud aB)) Tryz.func49 .z n (by kernel_rfl) rfl fun _=>by kernel_rfl
def Xz (n:Nat):Sig xx:=⟨[.d (.sl ak),.d (.sl ak)],[.d .bool],fun a=>oO n a.1 a.2.1,none⟩
theorem XA (n:Nat):aJ 20 (Xz n) :=cq (au (abC n) aB) Tryz.func20 .z n (by kernel_rfl) rfl fun _=>by kernel_rfl
def CV (n:Nat):Sig xx:=⟨[.d (.st SI.Town),.d ah,.d ah,.d (.st SI.Rule),.d (.st SI.Easement)],[.d .bool],fun a=>jh n a.1 a.2.1 a.2.2.1 a.2.2.2.1 a.2.2.2.2.1,none⟩
def CW:Hn SI:=(.s .z (.s .z (.s .z (.s .z (.s .z (.s .z (.s (.s (.j ⟨[(57,(.v .bool))],[],[1,2,5,11,12,13],[1000,1448,2024,2344,2856],3048,[]⟩ .z) .z) (.s .z (.s .z (.s .z (.s .z (.s .z (.s .z (.s (.s .z (.b (.lx ⟨[(22,(.v ah))],[],[11,14,16,17,18,19,20],[3240,3816,4392,5352],5800,[]⟩ 0 ⟨[],[],[11],[],5800,[]⟩ (.s .z (.s (.b (.s .z (.s (.j ⟨[(23,(.v (.sl ak)))],[],[11,14,16,17,18,19,20,22],[3240,3816,4392,5352],6248,[]⟩ .z) (.s (.s (.j ⟨[(147,(.v .bool))],[],[11,14,16,17,18,19,20,22],[3240,3816,4392,5352],6248,[]⟩ .z) .z) (.s (.j ⟨[(173,(.v .bool))],[],[11,14,16,17,18,19,20,22],[3240,3816,4392,5352],6248,[]⟩ .z) .z))))) .z))))) .z))))))))))))))
theorem CX (n:Nat):aJ 4 (CV n) :=cq (au (ZN n) (au (ads n) (au (BB n) (au (Me n) (au (XA n) aB))))) Tryz.func4 CW n (by kernel_rfl) rfl fun _=>by kernel_rfl
end
end Go.Proofs
