import Derived.Test.YthkmffljjjfbjaaGreatW1
import Derived.Maps.RangeRun
import Derived.ChangeSame
import Derived.Carry
import Derived.OpenShut
import Derived.SizedLaws
import Derived.WalkKit
import Derived.ProofKit
import Derived.Lib.LaidTab
open List (mem_map all_eq_true cons_append length_map append_nil map_map take_of_length_le map_congr_left flatten_cons map_nil all_cons map_take map_drop mem_flatMap map_append mem_append_right)
namespace Go.Gb
open Go.RowKit
def el(P:Program)(β:Nat->Option cA)(w:World)(I:Nat->Prop)(x:AV)(ok:Option Bool)(v:Value):Prop:=
 match ok with
 |none=>VR P β w I x v
 |some b=>(b=true->VR P β w I x v)/\(b=false->v=undef)
theorem el.mono{P:Program}{β β':Nat->Option cA}{w w':World}{I I':Nat->Prop}(hb:∀k B,β k=some B->β' k=some B)(hs:Same I w w')(hi:∀b,I b->I' b){x:AV}{ok:Option Bool}{v:Value}(h:el P β w I x ok v):el P β' w' I' x ok v:=by
 cases ok with
 |none=>exact VR.mono hb hs hi _ _ h
 |some b=>exact⟨λ hh=>VR.mono hb hs hi _ _ (h.1 hh),h.2⟩
structure Rel(P:Program)(w0:World)(O0:js)(N:Nat)(β:Nat->Option cA)(I:Nat->Prop)(σ:St)(a:Act)(w:World):Prop where
 defers:a.defers=[]
 size:a.tmps.size=N
 env:∀t,el P β w I (σ.env t) (σ.ok t) (a.tmps.getD t undef)
 mem:Mem P w0 O0 β I σ.obj w
section
variable {P:Program} {T:ea} {w0:World} {O0:js} {N:Nat} {β:Nat->Option cA} {I:Nat->Prop} {σ:St} {a:Act} {w:World} {al:Array Oper} {cQ:Nat->lO}
def Fr(un:Nat->Prop)(β:Nat->Option cA):Prop:=∀i k,un i->gC (cy i) k->β k=none
theorem Xz(hgv:jt w I){x:Operand}(h:∀t,x= .tmp t->VR P β w I (σ.env t) (a.tmps.getD t undef)):VR P β w I (ky σ.env x) (a.eval x):=by
 cases x with
 |tmp t=>exact h t rfl
 |const v=>exact VR.cv
 |global g=>
  simp only[ky];split
  ·rename_i row hg;simp only[VR,Act.eval];exact⟨g,0,rfl,(hgv.1 g row hg).1,(hgv.1 g row hg).2⟩
  ·simp[VR]
 |func f=>simp only[ky,VR,Act.eval];exact⟨#[],#[],rfl,by simp[be],by simp[be]⟩
theorem xW(hr:Rel P w0 O0 N β I σ a w){x:Operand}(h:∀p∈uV σ.ok x,p):VR P β w I (ky σ.env x) (a.eval x):=by
 refine Xz hr.mem.vars λt hx=>?_;subst hx;have h1:=hr.env t;simp only[uV]at h;cases hk:σ.ok t with
 |none=>rw[hk]at h1;exact h1
 |some b=>rw[hk]at h1 h;exact h1.1 (h _ (by simp))
theorem abV(hT:eY P T){i:Nat}{o:Oper}{co:ij}{rd:List Nat}{ab:Out}(hr:Rel P w0 O0 N β I σ a w)(hn:∀k,gC (cy i) k->β k=none)(ha:jb P T i o co (ky σ.env) (dw rd σ.obj)=some ab)
 (cD:ab.ob) (hnd:∀p∈needs σ.env σ.ok o.op,p):qe P w0 O0 β I σ.obj w i ab ((execOp a.eval o).run P w)\/xV P w0 O0 β I σ.obj w i ab ((execOp a.eval o).run P w):=by
 have hg:∀k ob,dw rd σ.obj k=some ob->σ.obj k=some ob:=λk ob hk=>by
  simp only[dw]at hk;split at hk
  ·exact hk
  ·cases hk
 by_cases hp:∃c x y,o.op= .pick c x y
 ·obtain⟨c,x,y,he⟩:=hp;obtain⟨dst,op,ty,ao,after,guard⟩:=o;simp only at he;subst he;have ha:nK T i ⟨dst,.pick c x y,ty,ao,after,guard⟩ co (ky σ.env) (dw rd σ.obj)=some ab:=by
   unfold jb at ha;split at ha
   ·cases ha
   ·cases ha
   ·exact ha
  simp only[nK]at ha;simp only[needs]at hnd;split at ha
  ·rename_i t hc;rw[hc]at hnd;simp only[pv,ay]at ha;subst ha;have h1:=xW hr (x:=c) (λ p hp=>hnd p (by simp[hp]));rw[hc]at h1;simp only[VR,TR]at h1;refine .inl ⟨if t then a.eval x else a.eval y,w,β,I,.inl ?_,Step.refl ..,hr.mem,?_⟩
   ·simp only[execOp,h1.1,asBool];simp
   ·rw[QD];cases t
    ·exact xW hr λp hp=>hnd (false=false->p) (by simp only[aY,mem_map];exact .inr (.inr ⟨p,hp,rfl⟩)) rfl
    ·exact xW hr λp hp=>hnd (true=true->p) (by simp only[aY,mem_map];exact .inr (.inl ⟨p,hp,rfl⟩)) rfl
  ·cases ha
 ·have hnd':∀x∈o.op.operands,∀p∈uV σ.ok x,p:=λx hx p hp'=>hnd p (by
   unfold needs;split
   ·rename_i c x y he;exact absurd ⟨c,x,y,he⟩ hp
   ·exact mem_flatMap.2 ⟨x,by simpa using hx,hp'⟩)
  have hρ:∀x,VR P β w I ((λ x=>open Classical in if x∈o.op.operands then ky σ.env x else .undef) x) (a.eval x):=λx=>by
   by_cases hx:x∈o.op.operands
   ·simp only[hx,if_true];exact xW hr (hnd' x hx)
   ·simp only[hx,if_false,VR]
  rw[JD (ρ':=λx=>open Classical in if x∈o.op.operands then ky σ.env x else .undef) (λ x hx=>by simp only[hx,if_true])]at ha;generalize (λ x=>open Classical in if x∈o.op.operands then ky σ.env x else AV.undef)=ρ at ha hρ;unfold jb at ha;split at ha
  ·exact .inl (UU hT hr.mem (hn _ (.inl rfl)) hg hρ ha cD)
  ·exact .inl (Xu hT hr.mem (hn _ (.inl rfl)) hg hρ ha cD)
  ·split at ha
   ·rename_i f args cW heq;obtain⟨dst,op,ty,ao,after,guard⟩:=o;simp only at heq;subst heq;exact .inr (Q0 hr.mem hn hg ha cD (hρ f) (by rw[Array.toList_map];exact be.map hρ _) rfl rfl)
   ·exact .inl (NG hT hr.mem (hn _ (.inl rfl)) hg hρ ha cD)
theorem aeE(hr:Rel P w0 O0 N β I σ a w){o:Oper}{b:Bool}(hb:want al o σ.env σ.ok=some b):Region.wanted o (yielded al a.tmps)=b:=by
 unfold want at hb;unfold Region.wanted;cases hg:o.guard with
 |none=>simp only[hg,ay]at hb ⊢;exact hb
 |some gw=>
  obtain⟨g,bw⟩:=gw;simp only[hg]at hb ⊢;unfold yielded;cases ht:(al[g]?).bind (·.dst)with
  |none=>simp[ht]at hb
  |some t=>
   simp only[ht]at hb;have he:=hr.env t;have val:∀v:Bool,a.tmps.getD t undef= .bool v->a.tmps[t]? =some (.bool v):=λv hv=>by
    cases hh:a.tmps[t]? with
    |none=>simp[hh,undef]at hv
    |some u=>simp[hh]at hv;rw[hv]
   split at hb
   ·rename_i v e1 e2;rw[e1,e2]at he;simp only[el,VR,TR]at he;cases hb;simp only[af,val v he.1];cases v<;>cases bw<;>rfl
   ·rename_i v q e1 e2;rw[e1,e2]at he;simp only[el,VR,TR]at he;cases hb;cases q with
    |true=>
     simp only[af,val v (he.1 rfl).1];cases v<;>cases bw<;>rfl
    |false=>
     have h0:=he.2 rfl;simp only[af];cases hh:a.tmps[t]? with
     |none=>simp
     |some u=>simp[hh,undef]at h0;subst h0;simp
   ·rename_i e1 e2;rw[e1,e2]at he;cases hb;have h0:=he.2 rfl;simp only[af];cases hh:a.tmps[t]? with
    |none=>simp
    |some u=>simp[hh,undef]at h0;subst h0;simp
   ·cases hb
theorem JE:∀(l:List Prop),jJ l->∀p∈l,p
 |[],_,_,hp=>by simp at hp
 |[q],h,p,hp=>by rw[aT]at hp;rw[hp];exact h
 |q::r::l,h,p,hp=>by
  rcases aN.1 hp with e |hp
  ·rw[e];exact h.1
  ·exact JE (r::l) h.2 p hp
theorem NR(hT:eY P T){i:Nat}{K:St->Prop}{Q:Exit->Act->World->Prop}{K':Act->World->Prop}{un:Nat->Prop}(hd:∀(j:Nat)(o:Oper)(d:Tmp),al[j]? =some o->o.dst=some d->d<N)
 (hr:Rel P w0 O0 N β I σ a w) (hf:Fr un β) (hi:un i)
 (hK:∀ σ' a' w' β' I',Rel P w0 O0 N β' I' σ' a' w'->Fr (λ j=>un j/\j≠i) β'->K σ'->K' a' w') (h:ur P T al cQ i K σ):wpOp P al Q i K' a w:=by
 obtain⟨o,⟨ab,H4⟩,h1,h2,h3,h4⟩:=h;have put:∀(v':Value) (w':World) (β':Nat->Option cA) (I':Nat->Prop),Step β I w (cy i) β' I' w'->Mem P w0 O0 β' I' (bR σ.obj ab.upd) w'->el P β' w' I' ab.v H4 v'->K' (a.put o.dst v') w':=by
  intro v' w' β' I' k1 k2 k3;refine hK (σ.app o.dst (ab,H4)) _ w' β' I' ⟨?_,?_,?_,k2⟩ ?_ h4
  ·cases hdst:o.dst<;>simp[Act.put,hr.defers]
  ·cases hdst:o.dst<;>simp[Act.put,hr.size]
  ·intro t;have hold:=el.mono k1.ext k1.same k1.inc (hr.env t);simp only[St.app,yZ];cases hdst:o.dst with
   |none=>simpa[Act.put]using hold
   |some d=>
    simp only[Act.put,ay];by_cases hdt:d=t
    ·subst hdt;rw[bn rfl,bn rfl];have hlt:d<a.tmps.size:=Nat.lt_of_lt_of_eq (hd i o d h1 hdst) hr.size.symm;have e:(a.tmps.setIfInBounds d v').getD d undef=v':=(by simp[hlt]);rw[e];exact k3
    ·rw[bf hdt,bf hdt];simpa[Array.getElem?_setIfInBounds_ne hdt]using hold
  ·intro j k hj hk;rw[k1.other k (by have:=hj.2;simp only[gC,cy]at hk ⊢;omega)];exact hf j k hj.1 hk
 unfold opAt at h2;simp only[h1,af]at h2;unfold wpOp;simp only[h1];have hn:=λk=>hf i k hi;cases hw:want al o σ.env σ.ok with
 |none=>simp[hw]at h2
 |some g=>
  simp only[hw,af]at h2;rw[aeE hr hw]
  have run:∀(out':Out),jb P T i o (cQ i).co (ky σ.env) (dw (cQ i).rd σ.obj)=some out'->(∀ p∈needs σ.env σ.ok o.op++out'.obs,p)->out'.v=ab.v->(out'.upd=ab.upd)->(∀ β' w' I' v',VR P β' w' I' ab.v v'->el P β' w' I' ab.v H4 v')->
   o.wp P a w K' Q:=by
   intro out' ha cD e1 e2 p0;have LS:=abV hT hr hn ha (pM _ λp hp=>cD p (by simp[hp])) (λ p hp=>cD p (by simp[hp]));unfold Oper.wp;rcases LS with ⟨v',w',β',I',hrun,k1,k2,k3⟩ |⟨F,args,hrun,xz⟩
   ·rw[e1]at k3;rw[e2]at k2;rcases hrun with hrun |⟨hrun,rfl⟩
    ·rw[hrun];exact put v' w' β' I' k1 k2 (p0 _ _ _ _ k3)
    ·rw[hrun];exact put _ w' β' I' k1 k2 (p0 _ _ _ _ k3)
   ·rw[hrun];refine xz.mono ?_;rintro e w' ⟨v',β',I',rfl,k1,k2,k3⟩;rw[e1]at k3;rw[e2]at k2;exact put v' w' β' I' k1 k2 (p0 _ _ _ _ k3)
  split at h2
  ·cases ha:jb P T i o (cQ i).co (ky σ.env) (dw (cQ i).rd σ.obj)with
   |none=>simp[ha]at h2
   |some out'=>
    simp only[ha,af]at h2;split at h2
    ·rename_i hem;simp only[ay,Prod.mk.injEq]at h2;obtain⟨rfl,rfl⟩:=h2;have xv:out'.upd=[]:=(by simpa using hem);have h3:=JE _ h3;cases g with
     |true=>
      simp only[if_true];refine .inl (run out' ha (λ p hp=>h3 (true=true->p) (mem_map.2 ⟨p,hp,rfl⟩) rfl) rfl xv λ_ _ _ _ hv=>⟨λ _=>hv,λh=>by cases h⟩)
     |false=>
      simp only[Bool.false_eq_true,if_false];exact put _ w β I (Step.refl ..) hr.mem ⟨λ h=>(by cases h),λ_=>rfl⟩
    ·cases h2
  ·split at h2
   ·cases ha:jb P T i o (cQ i).co (ky σ.env) (dw (cQ i).rd σ.obj)with
    |none=>simp[ha]at h2
    |some out'=>
     simp only[ha,af]at h2;split at h2
     ·simp only[ay,Prod.mk.injEq]at h2;obtain⟨rfl,rfl⟩:=h2;simp only[if_true];exact .inl (run out' ha (JE _ h3) rfl rfl λ_ _ _ _ hv=>hv)
     ·cases h2
   ·simp only[ay,Prod.mk.injEq]at h2;obtain⟨rfl,rfl⟩:=h2;simp only[Bool.false_eq_true,if_false];exact put _ w β I (Step.refl ..) hr.mem ⟨λ h=>(by cases h),λ_=>rfl⟩
theorem H7(hT:eY P T){md:Region.Mode}{Q:St->Prop}{Q':Exit->Act->World->Prop}(hd:∀(j:Nat)(o:Oper)(d:Tmp),al[j]? =some o->o.dst=some d->d<N)
 (hQ:∀ σ a w β I,Rel P w0 O0 N β I σ a w->Q σ->Q' .normal a w):∀(fuel:Nat) (listed:Array Bool) (σ:St) (a:Act) (w:World) (β:Nat->Option cA) (I:Nat->Prop),Rel P w0 O0 N β I σ a w->
  Fr (λ j=>listed.getD j true=false) β->AE P T al cQ md Q fuel listed σ->wpAny P md al Q' fuel listed a w
 | 0,_,_,_,_,_,_,hr,_,h=>⟨h.1,hQ _ _ _ _ _ hr h.2⟩
 |fuel+1,listed,σ,a,w,β,I,hr,hf,h=>by
  refine⟨λ h0=>hQ _ _ _ _ _ hr (h.1 h0),λi hi=>?_⟩;have hun:listed.getD i true=false:=(mem_ready.1 hi).1;refine NR hT hd hr hf hun (λ σ' a' w' β' I' hr' hf' hK=>?_) (h.2 i hi);refine H7 hT hd hQ fuel _ σ' a' w' β' I' hr' (λ j k hj hk=>hf' j k ?_ hk) hK;have hj:(listed.setIfInBounds i true).getD j true=false:=hj;by_cases hji:i=j
  ·subst hji;rcases Nat.lt_or_ge i listed.size with h1 |h1
   ·simp[h1]at hj
   ·simp[Array.getElem?_eq_none h1]at hun
  ·rw[getD_set_ne true hji]at hj;exact⟨hj,λe=>hji e.symm⟩
theorem H8(hT:eY P T){Q:St->Prop}{Q':Exit->Act->World->Prop}(hd:∀(j:Nat)(o:Oper)(d:Tmp),al[j]? =some o->o.dst=some d->d<N)
 (hQ:∀ σ a w β I,Rel P w0 O0 N β I σ a w->Q σ->Q' .normal a w):∀(l:List Nat) (σ:St) (a:Act) (w:World) (β:Nat->Option cA) (I:Nat->Prop),l.Nodup->Rel P w0 O0 N β I σ a w->
  Fr (λ j=>j∈l) β->OQ P T al cQ Q l σ->wpOps P al Q' l a w
 |[],_,_,_,_,_,_,hr,_,h=>hQ _ _ _ _ _ hr h
 |i::l,σ,a,w,β,I,hn,hr,hf,h=>by
  rw[wpOps_cons];refine NR hT hd hr hf (by simp) (λ σ' a' w' β' I' hr' hf' hK=>?_) h;refine H8 hT hd hQ l σ' a' w' β' I' (List.nodup_cons.1 hn).2 hr' (λ j k hj hk=>hf' j k ⟨by simp[hj],λe=>?_⟩ hk) hK
  grind
def XA(N:Nat)(al:Array Oper):Bool:=al.all λo=>match o.dst with |some d=>decide (d<N) |none=>true
theorem NS(h:XA N al=true)(j:Nat)(o:Oper)(d:Tmp)(hj:al[j]? =some o)(hd:o.dst=some d):d<N:=by
 have:=Array.all_eq_true_iff_forall_mem.1 h o (Array.mem_of_getElem? hj);simpa[hd]using this
structure sn(σ:St):Prop where
 env:∀t k,k∈refs (σ.env t)->k<1000000
 obj:∀k o,σ.obj k=some o->k<1000000/\∀r∈o.rows,∀x∈r,∀j∈refs x,j<1000000
mutual
theorem VR.restrict{β':Nat->Option cA}(h:∀k,k<1000000->β' k=β k):∀(x:AV)(v:Value),(∀ k∈refs x,k<1000000)->VR P β w I x v->VR P β' w I x v
 | .t _,_,_,hv=>by simpa[VR]using hv
 | .agg cs,_,hk,hv=>by
  simp only[VR]at hv ⊢;obtain⟨vs,h1,h2⟩:=hv;exact⟨vs,h1,be.restrict h cs _ (by simpa[refs]using hk) h2⟩
 | .eE cs,_,hk,hv=>by
  simp only[VR]at hv ⊢;obtain⟨vs,h1,h2⟩:=hv;exact⟨vs,h1,be.restrict h cs _ (by simpa[refs]using hk) h2⟩
 | .own k _ _,_,hk,hv=>by simp only[VR,h k (hk k (by simp[refs]))]at hv ⊢;exact hv
 | .ptr k _ _,_,hk,hv=>by simp only[VR,h k (hk k (by simp[refs]))]at hv ⊢;exact hv
 | .ef _ _,_,_,hv=>by simpa[VR]using hv
 | .fn f first caps,_,hk,hv=>by
  simp only[VR]at hv ⊢;obtain⟨fs,cs,h1,h2,h3⟩:=hv;exact⟨fs,cs,h1,be.restrict h first _ (λ k hk'=>hk k (by simp[refs,hk'])) h2,be.restrict h caps _ (λ k hk'=>hk k (by simp[refs,hk'])) h3⟩
 | .du _,_,_,hv=>by simpa[VR]using hv
 | .mp k,_,hk,hv=>by simp only[VR,h k (hk k (by simp[refs]))]at hv ⊢;exact hv
 | .oz k _,_,hk,hv=>by simp only[VR,h k (hk k (by simp[refs]))]at hv ⊢;exact hv
 | .cL,_,_,hv=>by simpa[VR]using hv
 | .ub,_,_,hv=>by simpa[VR]using hv
 | .undef,_,_,_=>by simp[VR]
theorem be.restrict{β':Nat->Option cA}(h:∀k,k<1000000->β' k=β k):∀(xs:List AV)(vs:List Value),(∀ k∈dU xs,k<1000000)->be P β w I xs vs->be P β' w I xs vs
 |[],[],_,_=>by simp[be]
 |x::xs,v::vs,hk,hv=>by
  simp only[be]at hv ⊢;exact⟨VR.restrict h x v (λ k hk'=>hk k (by simp[dU,hk'])) hv.1,be.restrict h xs vs (λ k hk'=>hk k (by simp[dU,hk'])) hv.2⟩
 |[],_::_,_,hv=>by simp[be]at hv
 |_::_,[],_,hv=>by simp[be]at hv
end
theorem VY:∀{xs:List AV}{k:Nat},k∈dU xs->∃x∈xs,k∈refs x
 |[],_,h=>by simp[dU]at h
 |x::xs,k,h=>by
  simp only[dU,aY]at h;rcases h with h |h
  ·exact⟨x,by simp,h⟩
  ·have⟨y,h1,h2⟩:=VY h;exact⟨y,by simp[h1],h2⟩
theorem Rel.restrict(ho:sn σ)(hr:Rel P w0 O0 N β I σ a w):Rel P w0 O0 N (λ k=>if k<1000000 then β k else none) I σ a w:=by
 have hb:∀k,k<1000000->(λ k=>if k<1000000 then β k else none) k=β k:=λk hk=>by simp[hk]
 have p0:∀t,el P (λ k=>if k<1000000 then β k else none) w I (σ.env t) (σ.ok t) (a.tmps.getD t undef):=λt=>by
  have h1:=hr.env t;cases hk:σ.ok t with
  |none=>rw[hk]at h1;exact VR.restrict hb _ _ (ho.env t) h1
  |some b=>rw[hk]at h1;exact⟨λ h=>VR.restrict hb _ _ (ho.env t) (h1.1 h),h1.2⟩
 refine⟨hr.defers,hr.size,p0,?_⟩;have hm:=hr.mem;constructor
 ·intro k o hk;have⟨B,hB,hO⟩:=hm.cE k o hk;have⟨h1,h2⟩:=ho.obj k o hk;refine⟨B,by simp only[h1,if_true];exact hB,?_⟩;cases B with
  |none=>exact hO
  | «at» b s n=>
   obtain⟨g1,c,e,g2,g3,g4⟩:=hO;refine⟨g1,c,e,g2,g3,?_⟩;rw[mX]at g4 ⊢;intro i r hir;have⟨q1,q2⟩:=g4 i r hir;refine⟨q1,?_⟩;rw[iW]at q2 ⊢;intro j x hx;have⟨v,p1,p2,p3⟩:=q2 j x hx;exact⟨v,p1,VR.restrict hb _ _ (h2 r (bW hir) x (bW hx)) p2,p3⟩
  |mp b=>
   obtain⟨es,cl,g1,gl,g2,g3⟩:=hO;refine⟨es,cl,g1,gl,λe=>ct.tell rfl (λ j r q' a b vs hv=>?_) (g2 e),g3⟩;rw[a]at b;cases b;exact be.restrict hb _ _ (λ k hk=>by
    have⟨x,hx,hk⟩:=VY hk;exact h2 r (bW a) x hx k hk) hv
 ·intro k k' o o' B B' b h1 h2 h3 h4;simp only[(ho.obj k o h1).1,(ho.obj k' o' h2).1,if_true]at h3 h4;exact hm.fY k k' o o' B B' b h1 h2 h3 h4
 ·intro k o B b h1 h2;simp only[(ho.obj k o h1).1,if_true]at h2;exact hm.ownB k o B b h1 h2
 ·exact hm.lt
 ·exact hm.up
 ·exact hm.keep
 ·exact hm.le
 ·exact hm.os
 ·exact hm.tape
 ·exact hm.output
 ·intro j B hj;have:=O0.lt j B hj;show(if j<1000000 then β j else none)=some B;rw[bn (by omega)];exact hm.anch j B hj
 ·exact hm.vars
theorem Rel.drew(hr:Rel P w0 O0 N β I σ a w):Rel P w0 O0 N β I σ a w.drew:=
 ⟨hr.defers,hr.size,λt=>el.mono (w:=w) (w':=w.drew) (λ _ _ h=>h) (λ _ _=>rfl) (λ _ h=>h) (hr.env t),hr.mem.drew⟩
theorem aeF(hT:eY P T){id:Nat}{Q:St->Prop}(hd:XA N al=true)(ho:sn σ)(h:OQ P T al cQ Q (List.range al.size) σ)(hr:Rel P w0 O0 N β I σ a w):
 (Code.region id al false).wp P (λ e a' w'=>∃ β' I' σ',Rel P w0 O0 N β' I' σ' a' w'/\e= .normal/\Q σ') a w:=by
 refine wp_region (H8 hT (NS hd) (Q:=Q) (λ σ a w β I hr hq=>⟨β,I,σ,hr,rfl,hq⟩) _ σ a w _ I List.nodup_range (hr.restrict ho) (λ j k _ hk=>?_) h);exact bf (by simp only[gC,cy]at hk;omega)
theorem Q6(hT:eY P T)(hm:P.follows .mixedOrders=true){id:Nat}{Q:St->Prop}(hd:XA N al=true)(hB:HI al cQ=true)(ho:sn σ)(h:OQ P T al cQ Q (List.range al.size) σ)(hr:Rel P w0 O0 N β I σ a w):
 (Code.region id al true).wp P (λ e a' w'=>∃ β' I' σ',Rel P w0 O0 N β' I' σ' a' w'/\e= .normal/\Q σ') a w:=by
 refine wp_region_any hm (H7 hT (md:= .any) (cQ:=cQ) (NS hd) (Q:=Q) (λ σ a w β I hr hq=>⟨β,I,σ,hr,rfl,hq⟩) _ _ σ a _ _ I (hr.restrict ho).drew (λ j k _ hk=>?_) ?_)
 ·exact bf (by simp only[gC,cy]at hk;omega)
 ·refine Zl al.size 0 _ σ hB ?_;have e:(List.range al.size).map (λ x=>0+x)=List.range al.size:=by simp
  rw[e];exact h
end
def Ev(P:Program)(N:Nat)(c:Code)(Q:Exit->St->Prop)(σ:St):Prop:=
 ∀(w0:World) (O0:js) (β:Nat->Option cA) (I:Nat->Prop) (a:Act) (w:World),Rel P w0 O0 N β I σ a w->sn σ->
  c.wp P (λ e a' w'=>∃ β' I' σ',Rel P w0 O0 N β' I' σ' a' w'/\sn σ'/\Q e σ') a w
def T8(K:St->Prop)(Q:Exit->St->Prop):Exit->St->Prop
 | .normal,σ=>K σ
 |e,σ=>Q e σ
def PC(id:Nat)(Q:Exit->St->Prop):Exit->St->Prop
 | .exit j,σ=>if j=id then Q .normal σ else Q (.exit j) σ
 |e,σ=>Q e σ
theorem VZ{P:Program}{c:Code}{Q:Exit->Act->World->Prop}(J:Nat->Act->World->Prop)(h0:∀a w,¬J 0 a w)(round:∀n a w,J (n+1) a w->c.wp P (Exit.then (J n) Q) a w)(n:Nat)(a:Act)(w:World)(h:J n a w):
 (Code.loop c).wp P Q a w:=by
 intro b k cs;have key:∀n a w,J n a w->∃e a' w',Q e a' w'/\Arrives P (lone (b.at a (.code c:: .inLoop c::k)) cs w) b k cs e a' w':=by
  intro n
  induction n with
  |zero=>intro a w h;exact(h0 a w h).elim
  |succ n ih=>
   intro a w hI;have⟨e,a₁,w₁,hq,harr⟩:=round n a w hI b (.inLoop c::k) cs;cases e with
   |normal=>
    have⟨e₂,a₂,w₂,hq₂,harr₂⟩:=ih a₁ w₁ hq;exact⟨e₂,a₂,w₂,hq₂,.of_steps (Steps.trans harr (.one step_inLoop)) harr₂⟩
   |exit id=>exact⟨_,a₁,w₁,hq,.pass (x:= .inLoop c) rfl (λ _ _=> .inl (by simp)) harr⟩
   |goto l=>exact⟨_,a₁,w₁,hq,.pass (x:= .inLoop c) rfl (λ _ _=> .inl (by simp)) harr⟩
   |ret=>exact⟨_,a₁,w₁,hq,.pass (x:= .inLoop c) rfl (λ _ _=> .inl (by simp)) harr⟩
   |panic ch=>exact⟨_,a₁,w₁,hq,.pass (x:= .inLoop c) rfl (λ _ _=> .inl (by simp)) harr⟩
   |outgrown=>exact⟨_,a₁,w₁,hq,.pass (x:= .inLoop c) rfl (λ _ _=> .inl (by simp)) harr⟩
 have⟨e,a',w',hq,harr⟩:=key n a w h;exact⟨e,a',w',hq,.of_steps (.one step_loop) harr⟩
section
variable {P:Program} {N:Nat} {Q:Exit->St->Prop} {σ:St}
theorem Ev.mono{c:Code}{Q':Exit->St->Prop}(h:Ev P N c Q σ)(hq:∀e σ,Q e σ->Q' e σ):Ev P N c Q' σ:=
 λw0 O0 β I a w hr ho=>wp_mono (h w0 O0 β I a w hr ho) λ_ _ _ ⟨β',I',σ',h1,h2,h3⟩=>⟨β',I',σ',h1,h2,hq _ _ h3⟩
theorem ah0(h:Q .normal σ):Ev P N .skip Q σ:=λ_ _ β I _ _ hr ho=>wp_skip ⟨β,I,σ,hr,ho,h⟩
theorem ah1{id:Nat}(h:Q (.exit id) σ):Ev P N (.exit id) Q σ:=λ_ _ β I _ _ hr ho=>wp_exit ⟨β,I,σ,hr,ho,h⟩
theorem ajj(h:Q .ret σ):Ev P N .ret Q σ:=λ_ _ β I _ _ hr ho=>wp_ret ⟨β,I,σ,hr,ho,h⟩
theorem af6{l:Nat}(h:Q .normal σ):Ev P N (.label l) Q σ:=λ_ _ β I _ _ hr ho=>wp_label ⟨β,I,σ,hr,ho,h⟩
theorem ajk{x y:Code}(h:Ev P N x (T8 (Ev P N y Q) Q) σ):Ev P N (.seq x y) Q σ:=by
 intro w0 O0 β I a w hr ho;refine wp_seq (wp_mono (h w0 O0 β I a w hr ho) ?_);rintro e a' w' ⟨β',I',σ',h1,h2,h3⟩;cases e<;>first |exact h3 w0 O0 β' I' a' w' h1 h2 |exact⟨β',I',σ',h1,h2,h3⟩
theorem ah2{c:Operand}{x y:Code}(b:Bool)(hk:∀t,c= .tmp t->σ.ok t=none)(hc:ky σ.env c= .t (.sc (.bool b)))(h:Ev P N (bif b then x else y) Q σ):Ev P N (.cond c x y) Q σ:=by
 intro w0 O0 β I a w hr ho;have h1:=Xz (P:=P) (β:=β) (w:=w) (I:=I) (σ:=σ) (a:=a) (x:=c) hr.mem.vars (λ t ht=>by
  have h1:=hr.env t;rw[hk t ht]at h1;exact h1)
 rw[hc]at h1;simp only[VR,TR]at h1;refine wp_cond (t:=b) h1.1 ?_;cases b<;>exact h w0 O0 β I a w hr ho
theorem abX{c:Operand}{x y:Code}(hk:∀t,c= .tmp t->σ.ok t=none)(hc:ky σ.env c= .ub)(h1:Ev P N x Q σ)(h2:Ev P N y Q σ):Ev P N (.cond c x y) Q σ:=by
 intro w0 O0 β I a w hr ho;have h3:=Xz (P:=P) (β:=β) (w:=w) (I:=I) (σ:=σ) (a:=a) (x:=c) hr.mem.vars (λ t ht=>by
  have h1:=hr.env t;rw[hk t ht]at h1;exact h1)
 rw[hc]at h3;simp only[VR]at h3;obtain⟨b,hb⟩:=h3;refine wp_cond (t:=b) hb ?_;cases b
 ·exact h2 w0 O0 β I a w hr ho
 ·exact h1 w0 O0 β I a w hr ho
theorem af7{id:Nat}{c:Code}(h:Ev P N c (PC id Q) σ):Ev P N (.block id c) Q σ:=by
 intro w0 O0 β I a w hr ho;refine wp_block (wp_mono (h w0 O0 β I a w hr ho) ?_);rintro e a' w' ⟨β',I',σ',h1,h2,h3⟩;cases e with
 |exit j=>
  simp only[PC]at h3;simp only[Exit.inBlock];split
  ·rw[bn ‹_›]at h3;exact⟨β',I',σ',h1,h2,h3⟩
  ·rw[bf ‹_›]at h3;exact⟨β',I',σ',h1,h2,h3⟩
 |_=>exact⟨β',I',σ',h1,h2,h3⟩
theorem ah3{c:Code}(J:Nat->St->Prop)(h0:∀ σ,¬J 0 σ)(round:∀n σ,J (n+1) σ->Ev P N c (T8 (J n) Q) σ)(n:Nat)(h:J n σ):Ev P N (.loop c) Q σ:=by
 intro w0 O0 β I a w hr ho;refine VZ (λ n a w=>∃ β I σ,Rel P w0 O0 N β I σ a w/\sn σ/\J n σ) (λ a w ⟨_,_,σ,_,_,h⟩=>h0 σ h) ?_ n a w ⟨β,I,σ,hr,ho,h⟩;rintro n a w ⟨β,I,σ,hr,ho,hJ⟩;refine wp_mono (round n σ hJ w0 O0 β I a w hr ho) ?_;rintro e a' w' ⟨β',I',σ',h1,h2,h3⟩;cases e<;>exact⟨β',I',σ',h1,h2,h3⟩
end
def lk{α:Type}:List (Nat×α)->Nat->Option α
 |[],_=>none
 |(j,x)::r,k=>if j=k then some x else lk r k
structure pL where
 env:List (Nat×AV)
 cE:List (Nat×aS)
def pL.st(L:pL):St:=⟨λ t=>(lk L.env t).getD .undef,λk=>lk L.cE k,λ_=>none⟩
theorem qb{α:Type}:∀{l:List (Nat×α)}{k:Nat}{x:α},lk l k=some x->(k,x)∈l
 |(j,y)::r,k,x,h=>by
  simp only[lk]at h;split at h
  ·cases h;rename_i e;subst e;simp
  ·exact dV _ (qb h)
theorem sH{α:Type}:∀{l:List (Nat×α)}{k:Nat}{x:α},(l.map (·.1)).Nodup->(k,x)∈l->lk l k=some x
 |(j,y)::r,k,x,hn,h=>by
  simp only[aF,List.nodup_cons]at hn;simp only[lk];rcases aN.1 h with h |h
  ·injection h with h1 h2;subst h1;subst h2;simp
  ·have hne:k≠j:=λe=>hn.1 (mem_map.2 ⟨(k,x),h,e⟩);rw[bf (Ne.symm hne)];exact sH hn.2 h
open Go.RowKit Go.MapKept
structure RgI where
 x:Operand
 t:TypeId
 a0:Nat
 it:Nat
 nn:Nat
 b:Nat
 e:Nat
 xx:Nat
 kv:Nat
 j:Nat
 j2:Nat
 body:Code
section
variable {P:Program} {w0:World} {O0:js} {N:Nat} {β:Nat->Option cA} {I:Nat->Prop} {σ:St} {a:Act} {w:World}
def St.put(σ:St)(d:Nat)(x:AV):St:=⟨yZ σ.env (some d) x,σ.obj,yZ σ.ok (some d) none⟩
theorem Rel.put(hr:Rel P w0 O0 N β I σ a w){d:Nat}(hd:d<N){x:AV}{v:Value}(hv:VR P β w I x v):Rel P w0 O0 N β I (σ.put d x) (a.put (some d) v) w:=by
 refine⟨by simpa[Act.put]using hr.defers,by simpa[Act.put]using hr.size,λt=>?_,hr.mem⟩;have hold:=hr.env t;simp only[St.put,yZ,Act.put,ay];by_cases hdt:d=t
 ·subst hdt;rw[bn rfl,bn rfl];have e:(a.tmps.setIfInBounds d v).getD d undef=v:=by simp[Nat.lt_of_lt_of_eq hd hr.size.symm]
  rw[e];exact hv
 ·rw[bf hdt,bf hdt];simpa[Array.getElem?_setIfInBounds_ne hdt]using hold
structure rk(β:Nat->Option cA)(I:Nat->Prop)(obj:Nat->Option aS)(w:World)(r:Nat):Prop where
 lt:r<w.heap.size
 C2:¬I r
 obj:∀k o,obj k=some o->¬fX β k r
theorem Rel.world{w':World}(hr:Rel P w0 O0 N β I σ a w)(hs:Same I w w')(hm:Mem P w0 O0 β I σ.obj w'):Rel P w0 O0 N β I σ a w':=
 ⟨hr.defers,hr.size,λt=>el.mono (λ _ _ h=>h) hs (λ _ h=>h) (hr.env t),hm⟩
end
def kept(os':List (Option dY))(j:Nat):Prop:=∃p,os'[j]? =some (some p)
def LX(get:Nat->Option aS)(fk:Option Nat)(os':List (Option dY)):AV->Tree->Prop
 | .t x,y=>y=x
 | .cL,y=>y= .sl []
 | .oz k len,y=>fk≠some k/\¬kept os' k/\∃o c8,get k=some o/\(o.rows.drop 0).take len=aG c8/\c8.length=len/\y= .sl c8
 | .own k aa len,y=>fk≠some k/\¬kept os' k/\∃o c8,get k=some o/\(o.rows.drop aa).take len=aG c8/\c8.length=len/\y= .sl c8
 |_,_=>False
def kh(get:Nat->Option aS)(fk:Option Nat)(os':List (Option dY)):List AV->List Tree->Prop
 |[],[]=>True
 |x::xs,y::ys=>LX get fk os' x y/\kh get fk os' xs ys
 |_,_=>False
def eb(get:Nat->Option aS)(fk:Option Nat)(os':List (Option dY)):List (List AV)->List (List Tree)->Prop
 |[],[]=>True
 |x::xs,y::ys=>kh get fk os' x y/\eb get fk os' xs ys
 |_,_=>False
def BE(get:Nat->Option aS)(fk:Option Nat)(os':List (Option dY)):AV->RC->Prop
 | .agg cs,.d (.a ts)=>kh get fk os' cs ts
 |x,.d (.s y)=>LX get fk os' x y
 | .cL,.fresh _ rows=>rows=[]
 | .own k aa len,.fresh sz rows=>fk=some k/\¬kept os' k/\aa=0/\∃o,get k=some o/\o.sz=sz/\eb get fk os' (o.rows.take len) rows/\rows.length=len
 | .own k aa len,.whole j len'=>k=j/\aa=0/\len'=len/\kept os' j
 |_,_=>False
def mn(get:Nat->Option aS)(fk:Option Nat)(os':List (Option dY)):List AV->List RC->Prop
 |[],[]=>True
 |x::xs,c::cs=>BE get fk os' x c/\mn get fk os' xs cs
 |_,_=>False
def BC(get:Nat->Option aS)(fk:Option Nat)(os':List (Option dY)):List AV->RV->Prop
 |[x],.one c=>BE get fk os' x c
 |x::y::r,.eE cs=>mn get fk os' (x::y::r) cs
 |[],.eE cs=>cs=[]
 |_,_=>False
def Hp(get:Nat->Option aS)(fk:Option Nat)(os':List (Option dY)):Prop:=
 ∀(j:Nat) p,os'[j]? =some (some p)->fk≠some j/\∃o,get j=some o/\o.sz=p.1/\eb get fk os' (o.rows.take p.2.length) p.2
def Qe(T:ea)(t:TypeId)(x:AV)(obj:Nat->Option aS):Option Out:=
 HV T t x .none obj
def LY(T:ea)(σ:St):ResultVar->Option AV
 | .tmp t=>match σ.ok t with
  |none=>some (σ.env t)
  |some _=>none
 | .cell a t=>match σ.ok a with
  |none=>match Qe T t (σ.env a) σ.obj with
   |some ⟨v,[],[]⟩=>some v
   |_=>none
  |some _=>none
def l6(T:ea)(σ:St):List ResultVar->Option (List AV)
 |[]=>some []
 |r::rs=>(LY T σ r).bind λv=>(l6 T σ rs).bind λvs=>some (v::vs)
def Q7(tmps:Array Value):ResultVar->Sem Value
 | .tmp t=>pure (tmps.getD t undef)
 | .cell a t=>do loadVar t (<- asAddr (tmps.getD a undef))
theorem Q8(fn:Func)(tmps:Array Value):results fn tmps=(fn.results.mapM (Q7 tmps))>>=λvs=>pure (if h:vs.size=1 then vs[0]else .tuple vs):=by
 unfold results;congr 2
def akt(T:ea)(rs:List ResultVar)(rv:RV)(os':List (Option dY)):Exit->St->Prop
 | .normal,σ=>∃xs fk,l6 T σ rs=some xs/\BC σ.obj fk os' xs rv/\Hp σ.obj fk os'
 | .ret,σ=>∃xs fk,l6 T σ rs=some xs/\BC σ.obj fk os' xs rv/\Hp σ.obj fk os'
 |_,_=>False
section
variable {P:Program} {T:ea} {w0:World} {O0:js} {N:Nat} {β:Nat->Option cA} {I:Nat->Prop} {σ:St} {a:Act} {w:World}
theorem XB(hT:eY P T)(hr:Rel P w0 O0 N β I σ a w){r:ResultVar}{x:AV}(h:LY T σ r=some x):
 ∃v,(Q7 a.tmps r).run P w= .ok v w/\VR P β w I x v:=by
 cases r with
 |tmp t=>
  simp only[LY]at h;have h1:=hr.env t;cases hk:σ.ok t with
  |some b=>rw[hk]at h;cases h
  |none=>
   rw[hk]at h h1;cases h;exact⟨_,by simp[Q7],h1⟩
 |cell ad t=>
  simp only[LY]at h;have hx:=hr.env ad;cases hk:σ.ok ad with
  |some b=>rw[hk]at h;cases h
  |none=>
  rw[hk]at h hx;simp only at h;have hx:VR P β w I (σ.env ad) (a.tmps.getD ad undef):=hx;split at h
  ·rename_i v hl;injection h with h;subst h;obtain⟨u,h1,h2⟩:∃u,(Instr.loadAt t (a.tmps.getD ad undef)).run P w= .ok u w/\VR P β w I v u:=by
    obtain⟨u,h1,h2,_⟩:=NF hT hr.mem (λ _ _ h=>h) hl trivial hx;exact⟨u,h1,h2⟩
   refine⟨u,?_,h2⟩;have hp:∃p,a.tmps.getD ad undef= .pointer (some p):=by
    unfold Qe at hl;unfold HV at hl;cases hti:T t with
    |none=>simp[hti]at hl
    |some ti=>
     simp only[hti,af]at hl;split at hl
     ·rename_i heq;rw[heq]at hx;simp only[VR]at hx;obtain⟨b,sz,n,_,h⟩:=hx;exact⟨_,h⟩
     ·rename_i heq;rw[heq]at hx;simp only[VR]at hx;obtain⟨b,o,h,_⟩:=hx;exact⟨_,h⟩
     ·cases hl
   obtain⟨p,hp⟩:=hp;rw[hp]at h1;simp only[Instr.loadAt,Instr.sureAddr,Sem.run_bind,Sem.run_pure,Result.andThen_ok]at h1;simp only[Q7,hp,asAddr,Sem.run_bind,Sem.run_pure,Result.andThen_ok];exact h1
  ·cases h
theorem y5(hT:eY P T)(hr:Rel P w0 O0 N β I σ a w):∀(rs:List ResultVar)(xs:List AV),l6 T σ rs=some xs->
 ∃vs,(rs.mapM (Q7 a.tmps)).run P w= .ok vs w/\be P β w I xs vs
 |[],xs,h=>by simp only[l6,ay]at h;subst h;exact⟨[],by simp,by simp[be]⟩
 |r::rs,xs,h=>by
  simp only[l6]at h;cases h1:LY T σ r with
  |none=>simp[h1]at h
  |some x=>
   cases h2:l6 T σ rs with
   |none=>simp[h1,h2]at h
   |some ys=>
    simp only[h1,h2,af,ay]at h;subst h;have⟨v,g1,g2⟩:=XB hT hr h1;have⟨vs,g3,g4⟩:=y5 hT hr rs ys h2;exact⟨v::vs,by simp only[List.mapM_cons,Sem.run_bind,g1,Result.andThen_ok,g3,Sem.run_pure],by simp only[be];exact⟨g2,g4⟩⟩
def JF(σ:St)(w0 w:World)(β:Nat->Option cA)(I:Nat->Prop)(O0:js)(fk:Option Nat)(os':List (Option dY))(b:Nat):Prop:=
 (I b\/O0.C2 b\/w0.heap.size<=b\/O0.own b)/\b<w.heap.size/\¬∃k,(fk=some k\/kept os' k)/\(∃ o,σ.obj k=some o)/\fX β k b
theorem Zm(hr:Rel P w0 O0 N β I σ a w)(fk:Option Nat)(os':List (Option dY)):∀b,I b->JF σ w0 w β I O0 fk os' b:=λb hb=>
 ⟨.inl hb,hr.mem.lt b hb,λ⟨k,_,⟨o,ho⟩,hβ⟩=>(hr.mem.ip k o b ho hβ).1 hb⟩
theorem JG(hr:Rel P w0 O0 N β I σ a w){fk:Option Nat}{os':List (Option dY)}{k aa len:Nat}{y:Tree}{v:Value}(h:fk≠some k/\¬kept os' k/\∃o c8,σ.obj k=some o/\(o.rows.drop aa).take len=aG c8/\c8.length=len/\y= .sl c8)(hv:VR P β w I (.own k aa len) v):TR w (JF σ w0 w β I O0 fk os') y v:=by
 obtain⟨hne,hnk,o,c8,h1,h2,h3,rfl⟩:=h;simp only[VR]at hv;simp only[TR];rcases hv with ⟨_,rfl,_,h4⟩ |⟨b,sz,n,cap,ad,h4,rfl,h5,h6,h7⟩
 ·exact .inl ⟨List.eq_nil_of_length_eq_zero (by omega),none,0,rfl,λ_=>rfl⟩
 ·have⟨g1,g2,g3⟩:=hr.mem.own k o b sz n h1 h4;refine .inr ⟨b,ad,cap,sz,by rw[h3],by omega,⟨.inr (.inr (g3.elim .inr .inl)),g2,λ⟨k',e1,⟨o',e2⟩,e3⟩=>?_⟩,?_⟩
  ·have:=hr.mem.lE k k' o o' b h1 e2 (.at h4) e3;subst this;exact e1.elim hne hnk
  ·by_cases hc:cap=0
   ·have:c8=[]:=List.eq_nil_of_length_eq_zero (by omega);subst this;simp[cp]
   ·rw[h7 hc];have⟨B,hB,qr⟩:=hr.mem.cE k o h1;rw[h4]at hB;cases hB;obtain⟨hs,c,e,hc',_,qr⟩:=qr;have h8:=br.take len _ _ _ _ (br.drop aa _ _ _ _ qr);rw[h2]at h8;exact cp.kA (Zm hr fk os') hc' c8 _ _ h8
theorem BA(hr:Rel P w0 O0 N β I σ a w){fk:Option Nat}{os':List (Option dY)}{x:AV}{y:Tree}{v:Value}(h:LX σ.obj fk os' x y)(hv:VR P β w I x v):TR w (JF σ w0 w β I O0 fk os') y v:=by
 cases x<;>simp only[LX]at h
 case t x=>subst h;simp only[VR]at hv;exact TR.mono (λ _ _=>rfl) (Zm hr fk os') _ _ hv
 case cL=>subst h;simp only[VR]at hv;simp only[TR];exact .inl ⟨trivial,none,0,hv,λ_=>rfl⟩
 case own k aa len=>exact JG hr h hv
 case oz k len=>
  rcases hv.te with ⟨rfl,rfl⟩ |⟨_,hv⟩
  ·obtain⟨hne,hnk,o,c8,h1,h2,h3,rfl⟩:=h;simp only[TR];exact .inl ⟨List.eq_nil_of_length_eq_zero h3,none,0,rfl,λ_=>rfl⟩
  ·exact JG hr h hv
theorem JH(hr:Rel P w0 O0 N β I σ a w){fk:Option Nat}{os':List (Option dY)}{β':Nat->Option cA}:∀{r:List AV}{t:List Tree}{c:Array Value}{aa:Nat},kh σ.obj fk os' r t->cM P β w I r c aa->cM P β' w (JF σ w0 w β I O0 fk os') (t.map AV.t) c aa
 |[],[],_,_,_,_=>trivial
 |x::xs,y::ys,c,aa,h,⟨⟨v,h1,h2,h3⟩,h4⟩=>⟨⟨v,h1,by simp only[VR];exact BA hr h.1 h2,h3⟩,JH hr h.2 h4⟩
 |[],_::_,_,_,h,_=>h.elim
 |_::_,[],_,_,h,_=>h.elim
theorem kh.length{get:Nat->Option aS}{fk:Option Nat}{os':List (Option dY)}:∀{r:List AV}{t:List Tree},kh get fk os' r t->t.length=r.length
 |[],[],_=>rfl
 |_::_,_::_,h=>by simp[kh.length h.2]
 |[],_::_,h=>h.elim
 |_::_,[],h=>h.elim
theorem y7(hr:Rel P w0 O0 N β I σ a w){fk:Option Nat}{os':List (Option dY)}{β':Nat->Option cA}:∀{rs:List (List AV)}{ts:List (List Tree)}{c:Array Value}{aa sz:Nat},eb σ.obj fk os' rs ts->br P β w I rs c aa sz->br P β' w (JF σ w0 w β I O0 fk os') (aG ts) c aa sz
 |[],[],_,_,_,_,_=>trivial
 |r::rs,t::ts,c,aa,sz,h,⟨h1,h2,h3⟩=>⟨by rw[length_map,h.1.length,h1],JH hr h.1 h2,y7 hr h.2 h3⟩
 |[],_::_,_,_,_,h,_=>h.elim
 |_::_,[],_,_,_,h,_=>h.elim
theorem eb.length{get:Nat->Option aS}{fk:Option Nat}{os':List (Option dY)}:∀{rs:List (List AV)}{ts:List (List Tree)},eb get fk os' rs ts->rs.length=ts.length
 |[],[],_=>rfl
 |_::_,_::_,h=>by simp only[bI,h.2.length]
 |[],_::_,h=>h.elim
 |_::_,[],h=>h.elim
theorem H9(hr:Rel P w0 O0 N β I σ a w){fk:Option Nat}{os':List (Option dY)}{β':Nat->Option cA}:∀{r:List AV}{t:List Tree}{vs:List Value},kh σ.obj fk os' r t->be P β w I r vs->be P β' w (JF σ w0 w β I O0 fk os') (t.map AV.t) vs
 |[],[],[],_,_=>by simp[be]
 |x::xs,y::ys,v::vs,h,hv=>by
  simp only[be]at hv;simp only[aF,be,VR];exact⟨BA hr h.1 hv.1,H9 hr h.2 hv.2⟩
 |[],_::_,_,h,_=>h.elim
 |_::_,[],_,h,_=>h.elim
 |[],[],_::_,_,hv=>by simp[be]at hv
 |_::_,_::_,[],_,hv=>by simp[be]at hv
theorem EH(hr:Rel P w0 O0 N β I σ a w){fk:Option Nat}{os':List (Option dY)}{β':Nat->Option cA}:∀{rs:List (List AV)}{ts:List (List Tree)}{es:List MapEntry},eb σ.obj fk os' rs ts->ct P β w I rs es->ct P β' w (JF σ w0 w β I O0 fk os') (aG ts) es
 |[],[],[],_,_=>trivial
 |_::_,_::_,_::_,h,hm=>⟨H9 hr h.1 hm.1,EH hr h.2 hm.2⟩
 |[],_::_,_,h,_=>h.elim
 |_::_,[],_,h,_=>h.elim
 |[],[],_::_,_,hm=>hm.elim
 |_::_,_::_,[],_,hm=>hm.elim
theorem eb.nil{get:Nat->Option aS}{fk:Option Nat}{os':List (Option dY)}{t:List (List Tree)}(h:eb get fk os' [] t):t=[]:=by
 cases t with
 |nil=>rfl
 |cons=>exact h.elim
theorem Q9(hr:Rel P w0 O0 N β I σ a w){F:Nat->Prop}{βi:Nat->Option cA}{fk:Option Nat}{os':List (Option dY)}(hF:∀k o b,fk=some k->σ.obj k=some o->¬kept os' k->fX β k b->F b)(hi:∀j,kept os' j->β j=βi j){x:AV}{c:RC}{v:Value}
 (h:BE σ.obj fk os' x c) (hv:VR P β w I x v):ut P F βi c w (JF σ w0 w β I O0 fk os') v:=by
 unfold BE at h;split at h
 ·rename_i cs ts;simp only[VR]at hv;obtain⟨vs,rfl,hv⟩:=hv;refine⟨vs,rfl,?_⟩;have:∀(cs:List AV)(ts:List Tree)(vs:List Value),kh σ.obj fk os' cs ts->be P β w I cs vs->ek w (JF σ w0 w β I O0 fk os') ts vs:=by
   intro cs
   induction cs with
   |nil=>intro ts vs h hv;cases ts<;>cases vs<;>first |trivial |exact h.elim |(simp [be]at hv)
   |cons x xs ih=>
    intro ts vs h hv;cases ts with
    |nil=>exact h.elim
    |cons t ts=>
     cases vs with
     |nil=>simp[be]at hv
     |cons u us=>simp only[be]at hv;exact⟨BA hr h.1 hv.1,ih ts us h.2 hv.2⟩
  exact this cs ts vs.toList h hv
 ·exact BA hr h hv
 ·subst h;simp only[VR]at hv;exact .inl ⟨rfl,hv⟩
 ·rename_i k aa len sz rows;obtain⟨rfl,hnk,rfl,o,h1,rfl,h2,h3⟩:=h;simp only[VR]at hv;rcases hv with ⟨_,rfl,_,h4⟩ |⟨b,sz,n,cap,ad,h4,rfl,h5,h6,h7⟩
  ·exact .inl ⟨List.eq_nil_of_length_eq_zero (by omega),rfl⟩
  ·have⟨g1,g2,g3⟩:=hr.mem.own k o b sz n h1 h4;have⟨B,hB,qr⟩:=hr.mem.cE k o h1;rw[h4]at hB;cases hB;obtain⟨hs,c,e,hc',hn,qr⟩:=qr;refine .inr ⟨b,c,e,cap,ad,n.s,by rw[h3],hF k o b rfl h1 hnk (.at h4),λhI=>hI.2.2 ⟨k,.inl rfl,⟨o,h1⟩,.at h4⟩,hc',by omega,?_,?_,λhc=>by simpa using h7 hc⟩
   ·rw[<- hs,hn];simpa using h6
   ·rw[<- hs];exact y7 hr h2 (br.take len _ _ _ _ qr)
 ·rename_i k aa len j len';obtain⟨rfl,rfl,rfl,hk⟩:=h;show VR P βi w (JF σ w0 w β I O0 fk os') (.own k 0 len') v;simp only[VR]at hv ⊢;rw[<- hi k hk];exact hv
 ·exact h.elim
theorem y8{α:Type}(l:List α)(t:Nat):lk ((List.range l.length).zip l) t=l[t]? :=by
 have pd:∀(l:List α)(s t:Nat),(lk ((List.range' s l.length).zip l) t)=if s<=t/\t<s+l.length then l[t -s]? else none:=by
  intro l
  induction l with
  |nil=>intro s t;simp[lk]
  |cons x xs ih=>
   intro s t;simp only[bI,List.range'_succ,List.zip_cons_cons,lk];by_cases hst:s=t
   all_goals grind
 rw[List.range_eq_range',pd];by_cases ht:t<l.length
 ·simp[ht]
 ·rw[bf (by omega)];simp[List.getElem?_eq_none (Nat.le_of_not_lt ht)]
theorem LZ{x:AV}:∀{l:List AV},x∈l->∀k∈refs x,k∈dU l
 |[],h,_,_=>by simp at h
 |y::ys,h,k,hk=>by
  simp only[dU,aY];rcases aN.1 h with rfl |h
  ·exact .inl hk
  ·exact .inr (LZ h k hk)
theorem aeI(hT : eY P T){f : FuncId}{fn : Func}{c : Code}{args : List AV}{os : List dY}{os' : List (Option dY)}{rv : RV}(hfn : P.funcs[f]? = some fn)(hb : fn.body = some c)(hname : (fn.name == "runtime.NumGoroutine") = false)(hN : args.length <= fn.ntmps)(hargs : ∀ k ∈ dU args, k < 1000)(hos : os.length <= 1000)(hlen : os'.length = os.length)
 (h:Ev P fn.ntmps c (akt T fn.results.toList rv os') (pL.st ⟨(List.range args.length).zip args,(List.range (os.map gc).length).zip (os.map gc)⟩)):py P f args os os' rv:=by
 refine⟨⟨fn,hfn,by rw[hb];rfl,hname⟩,λw β I vs hβ hM hv=>?_⟩;have hvl:=be.length _ _ hv;simp only[Array.length_toList]at hvl;have gE:∀k,lk ((List.range (os.map gc).length).zip (os.map gc)) k=pT os k:=λk=>by rw[y8];simp[pT]
 refine calls_of_wp hfn hb ?_;have hrel:Rel P w (nZ β I) fn.ntmps β I (pL.st ⟨(List.range args.length).zip args,(List.range (os.map gc).length).zip (os.map gc)⟩) { tmps:=vs++Array.replicate (fn.ntmps -vs.size) undef,defers:=[] } w:=by
  refine⟨rfl,by simp;omega,λt=>?_,?_⟩
  ·simp only[pL.st,y8,el];by_cases ht:t<args.length
   ·obtain⟨v,g1,g2⟩:=be.get _ _ t _ hv (cZ ht);rw[cZ ht];simp only[Option.getD_some];have:(vs++Array.replicate (fn.ntmps -vs.size) undef).getD t undef=v:=by
     rw[Array.getElem?_toList]at g1;simp only[Array.getD_eq_getD_getElem?,Array.getElem?_append,show t<vs.size by omega,if_true,g1,Option.getD_some]
    rw[this];exact g2
   ·rw[List.getElem?_eq_none (Nat.le_of_not_lt ht)];simp[VR]
  ·have:(pL.st ⟨(List.range args.length).zip args,(List.range (os.map gc).length).zip (os.map gc)⟩).obj=pT os:=funext gE;rw[this];exact hM
 have hold:sn (pL.st ⟨(List.range args.length).zip args,(List.range (os.map gc).length).zip (os.map gc)⟩):=by
  refine⟨λ t k hk=>?_,λk o hk=>?_⟩
  ·simp only[pL.st,y8]at hk;cases ht:args[t]? with
   |none=>rw[ht]at hk;simp[refs]at hk
   |some x=>rw[ht]at hk;have:=hargs k (LZ (bW ht) k hk);omega
  ·have hk:pT os k=some o:=(gE k).symm.trans hk;simp only[pT,dR]at hk;obtain⟨p,hp,rfl⟩:=hk;refine⟨by have:=(bX.1 hp).1;omega,λr hr x hx j hj=>?_⟩;simp only[gc,aG,mem_map]at hr;obtain⟨q,_,rfl⟩:=hr;simp only[mem_map]at hx;obtain⟨t,_,rfl⟩:=hx;simp[refs]at hj
 refine wp_mono (h w (nZ β I) β I _ w hrel hold) ?_
 have fin:∀(a':Act) (w':World) (β':Nat->Option cA) (I':Nat->Prop) (σ':St),Rel P w (nZ β I) fn.ntmps β' I' σ' a' w'->(∃ xs fk,l6 T σ' fn.results.toList=some xs/\BC σ'.obj fk os' xs rv/\Hp σ'.obj fk os')->
  a'.defers=[]/\∃v,(results fn a'.tmps).run P w'= .ok v w'/\Hh P w β I os' rv (.returned v) w':=by
  intro a' w' β' I' σ' hr ⟨xs,fk,hx,he,heo⟩;obtain⟨us,g1,g2⟩:=y5 hT hr _ _ hx;have A5:=be.length _ _ g2;have hm:=hr.mem;have hrun:(fn.results.mapM (Q7 a'.tmps)).run P w'= .ok us.toArray w':=by rw[Array.mapM_eq_mapM_toList,Sem.run_map,g1];rfl
  have hko:∀j p,os'[j]? =some (some p)->∃B o,β j=some B/\β' j=some B/\σ'.obj j=some o/\OR P β' w' I' o B/\o.sz=p.1/\eb σ'.obj fk os' (o.rows.take p.2.length) p.2:=by
   intro j p hj;have⟨_,o,e1,e2,e3⟩:=heo j p hj;have hjl:j<os.length:=(by rw[<- hlen];exact(bX.1 hj).1);obtain⟨B,hB,_⟩:=hM.cE j (gc os[j]) (by simp[pT,hjl]);have hB':=hm.anch j B (by simp only[nZ];rw[bn (by omega)];exact hB);have⟨B',hB2,hO⟩:=hm.cE j o e1;rw[hB']at hB2;cases hB2;exact⟨B,o,hB,hB',e1,hO,e2,e3⟩
  have hkept:∀j,kept os' j->β' j=β j:=λj ⟨p,hp⟩=>by
   have⟨B,o,h1,h2,_⟩:=hko j p hp;rw[h1,h2]
  have p4:∀j o,Ae os' j=some o->∃p,os'[j]? =some (some p)/\o=gc p:=by
   intro j o hj;simp only[Ae,dR,Option.join_eq_some_iff]at hj;obtain⟨p,hp,rfl⟩:=hj;exact⟨p,hp,rfl⟩
  have pc:∀b,I b->¬QL β b/\b<w.heap.size:=by
   intro b hb;refine⟨?_,hM.lt b hb⟩;rintro⟨j,B,hj,hB⟩;rcases Nat.lt_or_ge j os.length with hjl |hjl
   ·exact(hM.ownB j (gc os[j]) B b (by simp[pT,hjl]) hj hB).1 hb
   ·rw[hβ j hjl]at hj;cases hj
  have R2:∀b,I b->JF σ' w w' β' I' (nZ β I) fk os' b:=by
   intro b hb;have⟨g1,g2⟩:=pc b hb;refine⟨.inr (.inl hb),Nat.lt_of_lt_of_le g2 hm.le,?_⟩;rintro⟨k,_,⟨o,ho⟩,hβk⟩;rcases (hm.ip k o b ho hβk).2.2 with g |g
   ·exact g1 g
   ·omega
  have hmem:Mem P w (nZ β I) β (JF σ' w w' β' I' (nZ β I) fk os') (Ae os') w':=by
   constructor
   ·intro j o hj;obtain⟨p,hp,rfl⟩:=p4 j o hj;have⟨B,o1,b1,b2,b3,b4,b5,b6⟩:=hko j p hp;refine⟨B,b1,?_⟩;cases B with
    |none=>
     simp only[OR]at b4 ⊢;rw[b4]at b6;have:=eb.nil (by simpa using b6);simp[gc,aG,this]
    | «at» b s n=>
     obtain⟨c1,c,e,c2,c3,c4⟩:=b4;refine⟨by rw[c1,b5];rfl,c,e,c2,c3,?_⟩;exact y7 hr b6 (br.take _ _ _ _ _ c4)
    |mp b=>
     obtain⟨es,cl,c1,cl',c2,c3⟩:=b4;have hl:=b6.length;simp only[List.length_take]at hl;refine⟨es,cl,c1,by simp only[gc,aG,length_map];omega,λe=>?_,c3⟩;have e':p.1=p.2.length:=(by simpa[gc,aG]using e);rw[take_of_length_le (by omega)]at b6;exact EH hr b6 (c2 (by omega))
   ·intro j j' o o' B B' b h1 h2 h3 h4 h5 h6;obtain⟨p,hp,rfl⟩:=p4 j o h1;obtain⟨p',hp',rfl⟩:=p4 j' o' h2;have⟨_,o1,_,_,b3,_⟩:=hko j p hp;have⟨_,o1',_,_,b3',_⟩:=hko j' p' hp';rw[<- hkept j ⟨p,hp⟩]at h3;rw[<- hkept j' ⟨p',hp'⟩]at h4;exact hm.fY j j' o1 o1' B B' b b3 b3' h3 h4 h5 h6
   ·intro j o B b h1 h2 h5;obtain⟨p,hp,rfl⟩:=p4 j o h1;have⟨_,o1,_,_,b3,_⟩:=hko j p hp;rw[<- hkept j ⟨p,hp⟩]at h2;have⟨_,c2,c3⟩:=hm.ownB j o1 B b b3 h2 h5;exact⟨λ hb=>hb.2.2 ⟨j,.inr ⟨p,hp⟩,⟨o1,b3⟩,B,h2,h5⟩,c2,c3⟩
   ·exact λb hb=>hb.2.1
   ·intro b hb;rcases hb.1 with g |g |g |g
    ·exact hm.up b g
    ·exact .inl g
    ·exact .inr (.inr g)
    ·exact .inr (.inl g)
   ·exact hm.keep
   ·exact hm.le
   ·exact hm.os
   ·exact hm.tape
   ·exact hm.output
   ·intro j B hj;simp only[nZ]at hj;split at hj
    ·exact hj
    ·cases hj
   ·exact hM.vars.mono (λ b hb=>hm.keep b (pc b hb).2 (pc b hb).1) R2
  have hF:∀k o b,fk=some k->σ'.obj k=some o->¬kept os' k->fX β' k b->Y6 w β os' b:=by
   intro k o b _ h2 h3 h4;refine⟨(hm.ip k o b h2 h4).2.2,λj o' h5 h6=>?_⟩;obtain⟨p,hp,rfl⟩:=p4 j o' h5;have⟨_,o1,_,_,b3,_⟩:=hko j p hp;have h6':fX β' j b:=by
    obtain⟨B,e1,e2⟩:=h6;exact⟨B,by rw[hkept j ⟨p,hp⟩];exact e1,e2⟩
   have:=hm.lE k j o o1 b h2 b3 h4 h6';subst this;exact h3 ⟨p,hp⟩
  have ret:∀v,pH P (Y6 w β os') β rv w' (JF σ' w w' β' I' (nZ β I) fk os') v->Hh P w β I os' rv (.returned v) w':=λv hv'=>⟨v,_,rfl,hmem,R2,hv'⟩;refine⟨hr.defers,?_⟩;have hlist:∀(xs:List AV)(cs:List RC)(us:List Value),mn σ'.obj fk os' xs cs->be P β' w' I' xs us->OJ P (Y6 w β os') β cs w' (JF σ' w w' β' I' (nZ β I) fk os') us:=by
   intro xs
   induction xs with
   |nil=>intro cs us h1 h2;cases cs<;>cases us<;>first |trivial |exact h1.elim |(simp [be]at h2)
   |cons x xs ih=>
    intro cs us h1 h2;cases cs with
    |nil=>exact h1.elim
    |cons c cs=>
     cases us with
     |nil=>simp[be]at h2
     |cons u us=>simp only[be]at h2;exact⟨Q9 hr hF hkept h1.1 h2.1,ih cs us h1.2 h2.2⟩
  simp only[Q8,Sem.run_bind,hrun,Result.andThen_ok,Sem.run_pure];refine⟨_,rfl,ret _ ?_⟩
  match xs,us,rv,he,g2 with
  |[x],[u],.one c,he,g2=>
   simp only[be]at g2;simpa[pH]using Q9 hr hF hkept he g2.1
  |x::y::r,u::u'::us,.eE cs,he,g2=>
   have:=hlist _ _ _ he g2;rw[dif_neg (by simp)];exact⟨_,rfl,by simpa using this⟩
  |[],[],.eE cs,he,g2=>
   simp only[BC]at he;subst he;rw[dif_neg (by simp)];exact⟨_,rfl,trivial⟩
  |[x],[u],.eE cs,he,_=>exact he.elim
  |[],_,.one c,he,_=>exact he.elim
  |x::y::r,_,.one c,he,_=>exact he.elim
  |[],_::_,.eE _,_,g2=>simp[be]at g2
  |[_],[],_,_,g2=>simp[be]at g2
  |[_],_::_::_,_,_,g2=>simp[be]at g2
  |_::_::_,[],_,_,g2=>simp[be]at g2
  |_::_::_,[_],_,_,g2=>simp[be]at g2
 rintro e a' w' ⟨β',I',σ',h1,h2,h3⟩;cases e with
 |normal=>exact fin a' w' β' I' σ' h1 h3
 |ret=>exact fin a' w' β' I' σ' h1 h3
 |_=>exact h3.elim
def Hm(P:Program)(get:Nat->Option aS)(xs:List AV)(os':List (Nat×aS))(rv:AV):Prop:=
 ∀(w0:World) (O0:js) (β:Nat->Option cA) (I:Nat->Prop) (w:World) (vs:Array Value),Mem P w0 O0 β I get w->be P β w I xs vs.toList->∃ β' I',Mem P w0 O0 β' I' (ov os') w/\(∀ b,I b->I' b)/\VR P β' w I' rv (if h:vs.size=1 then vs[0]else .tuple vs)
def ajW(P:Program)(T:ea)(rs:List ResultVar)(rv:AV)(os':List (Nat×aS)):Exit->St->Prop
 | .normal,σ=>∃xs,l6 T σ rs=some xs/\Hm P σ.obj xs os' rv
 | .ret,σ=>∃xs,l6 T σ rs=some xs/\Hm P σ.obj xs os' rv
 |_,_=>False
theorem aeJ(hT : eY P T){f : FuncId}{fn : Func}{c : Code}{args : List AV}{os : List aS}{os' : List (Nat × aS)}{rv : AV}(hfn : P.funcs[f]? = some fn)(hb : fn.body = some c)(hname : (fn.name == "runtime.NumGoroutine") = false)(hN : args.length <= fn.ntmps)(hargs : ∀ k ∈ dU args, k < 1000)(hos : os.length <= 1000)
 (Jn:∀o∈os,∀r∈o.rows,∀x∈r,∀j∈refs x,j<1000)
 (h:Ev P fn.ntmps c (ajW P T fn.results.toList rv os') (pL.st ⟨(List.range args.length).zip args,(List.range os.length).zip os⟩)):AM P f args os os' rv:=by
 refine⟨⟨fn,hfn,by rw[hb];rfl,hname⟩,λw β I vs hβ hM hv=>?_⟩;have hvl:=be.length _ _ hv;simp only[Array.length_toList]at hvl;have gE:∀k,lk ((List.range os.length).zip os) k=sx os k:=λk=>by rw[y8];rfl
 refine calls_of_wp hfn hb ?_;have hrel:Rel P w (nZ β I) fn.ntmps β I (pL.st ⟨(List.range args.length).zip args,(List.range os.length).zip os⟩) { tmps:=vs++Array.replicate (fn.ntmps -vs.size) undef,defers:=[] } w:=by
  refine⟨rfl,by simp;omega,λt=>?_,?_⟩
  ·simp only[pL.st,y8,el];by_cases ht:t<args.length
   ·obtain⟨v,g1,g2⟩:=be.get _ _ t _ hv (cZ ht);rw[cZ ht];simp only[Option.getD_some];have:(vs++Array.replicate (fn.ntmps -vs.size) undef).getD t undef=v:=by
     rw[Array.getElem?_toList]at g1;simp only[Array.getD_eq_getD_getElem?,Array.getElem?_append,show t<vs.size by omega,if_true,g1,Option.getD_some]
    rw[this];exact g2
   ·rw[List.getElem?_eq_none (Nat.le_of_not_lt ht)];simp[VR]
  ·have:(pL.st ⟨(List.range args.length).zip args,(List.range os.length).zip os⟩).obj=sx os:=funext gE;rw[this];exact hM
 have hold:sn (pL.st ⟨(List.range args.length).zip args,(List.range os.length).zip os⟩):=by
  refine⟨λ t k hk=>?_,λk o hk=>?_⟩
  ·simp only[pL.st,y8]at hk;cases ht:args[t]? with
   |none=>rw[ht]at hk;simp[refs]at hk
   |some x=>rw[ht]at hk;have:=hargs k (LZ (bW ht) k hk);omega
  ·have hk:sx os k=some o:=(gE k).symm.trans hk;simp only[sx]at hk;refine⟨by have:=(bX.1 hk).1;omega,λr hr x hx j hj=>?_⟩;have:=Jn o (bW hk) r hr x hx j hj;omega
 refine wp_mono (h w (nZ β I) β I _ w hrel hold) ?_
 have fin:∀(a':Act) (w':World) (β':Nat->Option cA) (I':Nat->Prop) (σ':St),Rel P w (nZ β I) fn.ntmps β' I' σ' a' w'->(∃ xs,l6 T σ' fn.results.toList=some xs/\Hm P σ'.obj xs os' rv)->
  a'.defers=[]/\∃v,(results fn a'.tmps).run P w'= .ok v w'/\TC P w β I os' rv (.returned v) w':=by
  intro a' w' β' I' σ' hr ⟨xs,hx,he⟩;obtain⟨us,g1,g2⟩:=y5 hT hr _ _ hx;have hrun:(fn.results.mapM (Q7 a'.tmps)).run P w'= .ok us.toArray w':=by rw[Array.mapM_eq_mapM_toList,Sem.run_map,g1];rfl
  have pc:∀b,I b->¬QL β b/\b<w.heap.size:=by
   intro b hb;refine⟨?_,hM.lt b hb⟩;rintro⟨j,B,hj,hB⟩;rcases Nat.lt_or_ge j os.length with hjl |hjl
   ·exact(hM.ownB j os[j] B b (by simp[sx,hjl]) hj hB).1 hb
   ·rw[hβ j hjl]at hj;cases hj
  obtain⟨β2,I2,hm,hI2,hv2⟩:=he w (nZ β I) β' I' w' us.toArray hr.mem (by simpa using g2);have hmem:Mem P w (nZ β I) β2 (λ b=>I2 b\/I b) (ov os') w':=by
   constructor
   ·intro k o hk;have⟨B,hB,hO⟩:=hm.cE k o hk;exact⟨B,hB,OR.mono (λ _ _ h=>h) (λ _ _=>rfl) (λ b hb=> .inl hb) (λ _ _=>rfl) hO⟩
   ·exact hm.fY
   ·intro k o B b h1 h2 h3;have⟨a1,a2,a3⟩:=hm.ownB k o B b h1 h2 h3;refine⟨?_,a2,a3⟩;rintro (hb |hb)
    ·exact a1 hb
    ·have⟨c1,c2⟩:=pc b hb;rcases a3 with a3 |a3
     ·exact c1 a3
     ·omega
   ·rintro b (hb |hb)
    ·exact hm.lt b hb
    ·exact Nat.lt_of_lt_of_le (pc b hb).2 hm.le
   ·rintro b (hb |hb)
    ·exact hm.up b hb
    ·exact .inl hb
   ·exact hm.keep
   ·exact hm.le
   ·exact hm.os
   ·exact hm.tape
   ·exact hm.output
   ·exact hm.anch
   ·exact hm.vars.mono (λ _ _=>rfl) (λ b hb=> .inl hb)
  refine⟨hr.defers,?_⟩;simp only[Q8,Sem.run_bind,hrun,Result.andThen_ok,Sem.run_pure];exact⟨_,rfl,_,β2,_,rfl,hmem,λb hb=> .inr hb,VR.mono (λ _ _ h=>h) (λ _ _=>rfl) (λ b hb=> .inl hb) _ _ hv2⟩
 rintro e a' w' ⟨β',I',σ',h1,h2,h3⟩;cases e with
 |normal=>exact fin a' w' β' I' σ' h1 h3
 |ret=>exact fin a' w' β' I' σ' h1 h3
 |_=>exact h3.elim
theorem pH.CN{F F':Nat->Prop}{βi:Nat->Option cA}{w':World}{I':Nat->Prop}(hF:∀b,F b->F' b){rv:RV}{v:Value}(h:pH P F βi rv w' I' v):pH P F' βi rv w' I' v:=by
 have hc:∀(c:RC)(v:Value),ut P F βi c w' I' v->ut P F' βi c w' I' v:=by
  intro c v h;cases c with
  |d x=>exact h
  |fresh sz rows=>
   rcases h with h |⟨b,c,e,cap,o,s,h1,h2,h3⟩
   ·exact .inl h
   ·exact .inr ⟨b,c,e,cap,o,s,h1,hF b h2,h3⟩
  |whole j len=>exact h
 cases rv with
 |one c=>exact hc c v h
 |eE cs=>
  obtain⟨vs,rfl,h⟩:=h;refine⟨vs,rfl,?_⟩;have:∀(cs:List RC)(vs:List Value),OJ P F βi cs w' I' vs->OJ P F' βi cs w' I' vs:=by
   intro cs
   induction cs with
   |nil=>intro vs h;cases vs with
    |nil=>trivial
    |cons=>exact h.elim
   |cons c cs ih=>intro vs h;cases vs with
    |nil=>exact h.elim
    |cons v vs=>exact⟨hc c v h.1,ih vs h.2⟩
  exact this cs vs.toList h
theorem Ra{f:FuncId}{args:List AV}{rv:RV}(h:py P f args [] [] rv):rm P f args rv:=by
 refine⟨h.1,λw I vs hlt hgv hv=>?_⟩;have hM:Mem P w (nZ ly I) ly I (pT []) w:=by
  refine⟨λ k o hk=>by simp[pT]at hk,λk k' o o' B B' b hk=>by simp[pT]at hk,λk o B b hk=>by simp[pT]at hk,hlt,λb hb=> .inl hb,λ_ _ _=>rfl,aB _,rfl,rfl,rfl,λj B hj=>?_,hgv⟩;simp only[nZ,ly,ite_self]at hj;cases hj
 refine(h.2 w ly I vs (λ _ _=>rfl) hM hv).mono ?_;rintro e w' ⟨v,I',rfl,g1,g2,g3⟩;have hno:∀b,¬(nZ ly I).own b:=λb ⟨j,B,hj,_⟩=>by cases hj
 refine⟨v,I',rfl,⟨g1.os,g1.tape,g1.output,g1.le,λb hb=>g1.keep b hb (hno b)⟩,g2,g1.lt,λb hb=>?_,pH.CN (λ b hb=>?_) g3⟩
 ·rcases g1.up b hb with h |h |h
  ·exact .inl h
  ·exact(hno b h).elim
  ·exact .inr h
 ·rcases hb.1 with h |h
  ·exact(hno b h).elim
  ·exact h
end
open Go.RowKit Go.WideShapes Go.ChangeShapes
inductive CS where
 |int (k:IntKind)
 |bool
 |str
 |sl (row:List CS)
 |any
  |mu (row:List CS)
 |back
def aku:CS->Tree->Prop
 | .int k,x=>∃n,x= .sc (.int k n)/\(Lit.int k n).wf=true
 | .bool,x=>∃b,x= .sc (.bool b)
 | .str,x=>∃s,x= .sc (.string s)/\s.size<=maxLen
 |_,_=>False
def ajX:CS->Nat
 | .int .i64=>8
 | .int _=>1
 | .bool=>1
 | .str=>16
 |_=>24
def HH:CS->Nat
 | .int .i64=>8
 | .int _=>1
 | .bool=>1
 |_=>8
def Nm:Nat->List CS->Nat
 |o,[]=>o
 |o,c::cs=>Nm ((o+(HH c -1))/HH c*HH c+ajX c) cs
def Hk(r:List CS):Nat:=bif r.any (λ c=>HH c==8)then(Nm 0 r+7)/8*8 else Nm 0 r
mutual
inductive B5(row:List CS):Tree->Prop
 |mk (rows:List (List Tree)) (hl:rows.length<=maxLen) (h:oe row rows):B5 row (.sl rows)
inductive oe(row:List CS):List (List Tree)->Prop
 |nil:oe row []
 |cons {r:List Tree} {rs:List (List Tree)} (h:ir row row r) (t:oe row rs):oe row (r::rs)
inductive ir(row:List CS):List CS->List Tree->Prop
 |nil:ir row [] []
 |back {cs:List CS} {x:Tree} {xs:List Tree} (h:B5 row x) (t:ir row cs xs):ir row (.back::cs) (x::xs)
 |one {c:CS} {cs:List CS} {x:Tree} {xs:List Tree} (h:aku c x) (t:ir row cs xs):ir row (c::cs) (x::xs)
end
mutual
def Fit:CS->Tree->Prop
 | .int k,x=>∃n,x= .sc (.int k n)/\(Lit.int k n).wf=true
 | .bool,x=>∃b,x= .sc (.bool b)
 | .str,x=>∃s,x= .sc (.string s)/\s.size<=maxLen
 | .sl row,x=>∃rows,x= .sl rows/\(rows.length<=maxLen/\rows.length*Hk row<=reachBytes)/\∀r∈rows,cX row r
 | .any,_=>True
 | .mu row,x=>B5 row x
 | .back,_=>False
def cX:List CS->List Tree->Prop
 |[],[]=>True
 |c::cs,x::xs=>Fit c x/\cX cs xs
 |_,_=>False
end
mutual
def mL:Tree->Nat
 | .sc (.string s)=>s.size+1
 | .sc _=>1
 | .sl rows=>y9 rows+1
def y9:List (List Tree)->Nat
 |[]=>0
 |r::rs=>jZ r+y9 rs
def jZ:List Tree->Nat
 |[]=>0
 |x::xs=>mL x+jZ xs
end
theorem xX:∀a b:List Tree,jZ (a++b)=jZ a+jZ b
 |[],b=>by simp[jZ]
 |x::a,b=>by simp only[cons_append,jZ,xX a b];omega
structure Bk(H:Type) where
 b:DataW H->Nat
 a:List (DataW H)->Nat
 str:∀l,b (.lit (.string l))=l.length+1
 int:∀k n,b (.lit (.int k n))=1
 bool:∀v,b (.lit (.bool v))=1
 nil:b .nil=1
 sl:∀e s,b (.slice e s)=a e+a s+1
 agg:∀p,b (.agg p)=a p+1
 a0:a []=0
 a1:∀d r,a (d::r)=b d+a r
theorem Bk.app{H:Type}(K:Bk H)(l r:List (DataW H)):K.a (l++r)=K.a l+K.a r:=by
 induction l with
 |nil=>simp[K.a0]
 |cons x l ih=>simp only[cons_append,K.a1,ih];omega
theorem Bk.drop{H:Type}(K:Bk H){l:List (DataW H×List MemPlace)}{j:Nat}{y:DataW H×List MemPlace}(h:l[j]? =some y):K.a ((l.map (·.1)).drop j)=K.b y.1+K.a ((l.map (·.1)).drop (j+1)):=by
 obtain⟨hj,rfl⟩:=bX.1 h;rw[List.drop_eq_getElem_cons (by simpa using hj),K.a1];simp
def XC(P:Program)(go:TypeId->Option (List CS)):Nat->List Field->Option (List CS)
 |_,[]=>some []
 |o,f::fs=>(go f.type).bind λa=>if f.offset=o/\a.length=P.cellsOf f.type then(XC P go (o+a.length) fs).map (a++ ·)else none
def PB(P:Program)(t u:TypeId):Option (List CS):=if u=t then some [.back]else match P.underlying u with
 |some (.int k)=>some [.int k]
 |some .bool=>some [.bool]
 |some .string=>some [.str]
 |_=>none
def HG(P:Program)(t e:TypeId):Option (List CS):=match P.underlying e with
 |some (.struct fs)=>(XC P (PB P t) 0 fs.toList).bind λr=>if r.length=P.cellsOf e/\0<r.length then some r else none
 |_=>none
def uv(P:Program)(cut:List TypeId):Nat->TypeId->Option (List CS)
 | 0,_=>none
 |n+1,t=>match P.underlying t with
  |some (.int k)=>some [.int k]
  |some .bool=>some [.bool]
  |some .string=>some [.str]
  |some (.slice e)=>if cut.contains t then(match HG P t e with |some row=>some [.mu row] |none=>some [.any])else(uv P cut n e).bind λr=>if r.length=P.cellsOf e/\0<r.length/\Hk r<=P.bytesOf e then some [.sl r]else none
  |some (.struct fs)=>(XC P (uv P cut n) 0 fs.toList).bind λr=>if r.length=P.cellsOf t then some r else none
  |some (.array m e)=>(uv P cut n e).bind λr=>if r.length=P.cellsOf e/\m*r.length=P.cellsOf t then some (List.replicate m r).flatten else none
  |_=>none
theorem cX.length:∀(cs:List CS)(ts:List Tree),cX cs ts->ts.length=cs.length
 |[],[],_=>rfl
 |c::cs,x::xs,h=>by simp only[cX]at h;simp[cX.length cs xs h.2]
 |[],_::_,h=>by simp[cX]at h
 |_::_,[],h=>by simp[cX]at h
theorem cX.append:∀(cs:List CS)(ts:List Tree){cs':List CS}{ts':List Tree},cX cs ts->cX cs' ts'->cX (cs++cs') (ts++ts')
 |[],[],_,_,_,h=>h
 |c::cs,x::xs,_,_,h,h'=>by simp only[cX,cons_append]at h ⊢;exact⟨h.1,cX.append cs xs h.2 h'⟩
 |[],_::_,_,_,h,_=>by simp[cX]at h
 |_::_,[],_,_,h,_=>by simp[cX]at h
def Here(w:World)(b:Nat):Prop:=b<w.heap.size
section
variable {w:World} {I:Nat->Prop}
theorem ek.append:∀(ts:List Tree)(cs:List Value){ts':List Tree}{cs':List Value},ek w I ts cs->ek w I ts' cs'->ek w I (ts++ts') (cs++cs')
 |[],[],_,_,_,h=>h
 |_::xs,_::vs,_,_,h,h'=>⟨h.1,ek.append xs vs h.2 h'⟩
 |[],_::_,_,_,h,_=>h.elim
 |_::_,[],_,_,h,_=>h.elim
theorem ek.length:∀(ts:List Tree)(cs:List Value),ek w I ts cs->ts.length=cs.length
 |[],[],_=>rfl
 |_::xs,_::vs,h=>by simp[ek.length xs vs h.2]
 |[],_::_,h=>h.elim
 |_::_,[],h=>h.elim
theorem XD:∀(ts:List Tree)(cs:List Value)(b aa:Nat),ek w I ts cs->(∀ i,i<cs.length->w.cell? ⟨b,aa+i,none⟩=cs[i]?)->dc w I ts b aa
 |[],[],_,_,_,_=>by simp[dc]
 |x::xs,v::vs,b,aa,h,hc=>by
  simp only[dc];refine⟨⟨v,by simpa using hc 0 (by simp),h.1⟩,XD xs vs b (aa+1) h.2 λi hi=>?_⟩;have:=hc (i+1) (by simpa using hi);rw[show aa+(i+1)=aa+1+i by omega]at this;simpa using this
 |[],_::_,_,_,h,_=>h.elim
 |_::_,[],_,_,h,_=>h.elim
end
section
variable {H:Type} {enc:TypeId×Value->H} {P:Program} {w:World} {sp:Nat->Bool} {held:Bool}
theorem L6{a:Addr}{v:Value}(h:w.cell? a=some v):a.spot=none/\a.block<w.heap.size:=by
 simp only[World.cell?]at h;split at h
 ·rename_i c e st hc;split at h
  ·cases h
  ·rename_i hs;exact⟨by simpa using hs,(Array.getElem?_eq_some_iff.1 hc).1⟩
 ·cases h
def HQ(P:Program)(t:TypeId)(x:DataW H×List MemPlace):Prop:=∀k∈x.1.weights P t,k<=reachBytes
theorem wm{e:TypeId}:∀{l:List (DataW H)}{d:DataW H},d∈l->∀k∈d.weights P e,k∈DataW.weightsAll P e l
 |a::l,d,h,k,hk=>by
  simp only[DataW.weightsAll,aY];rcases aN.1 h with rfl |h
  ·exact .inl hk
  ·exact .inr (wm h k hk)
theorem NT(m:Nat)(cs:List Value)(go:TypeId->Option (List CS))(hgo:∀t sh,go t=some sh->∀cs x,DataW.trod enc P w 0 sp held m t cs=some x->HQ P t x->∃ts,ek w (Here w) ts cs/\cX sh ts/\∀K:Bk H,jZ ts<=K.b x.1):
 ∀(fs:List Field)(l:List (DataW H×List MemPlace))(o:Nat)(sh:List CS),XC P go o fs=some sh->l.length=fs.length->(∀ (i:Nat) (f:Field) (x:DataW H×List MemPlace),fs[i]? =some f->l[i]? =some x->DataW.trod enc P w 0 sp held m f.type ((cs.drop f.offset).take (P.cellsOf f.type))=some x/\HQ P f.type x)->
  ∃ts,ek w (Here w) ts ((cs.drop o).take sh.length)/\cX sh ts/\∀K:Bk H,jZ ts<=K.a (l.map (·.1))
 |[],l,o,sh,h,_,_=>by
  simp only[XC,ay]at h;subst h;exact⟨[],by simp[ek],by simp[cX],λK=>by simp[jZ]⟩
 |f::fs,[],o,sh,h,hl,hf=>by simp at hl
 |f::fs,x::l,o,sh,h,hl,hf=>by
  simp only[XC,ah]at h;obtain⟨a,h1,h2⟩:=h;split at h2
  ·rename_i hc;obtain⟨hc1,hc2⟩:=hc;simp only[dR]at h2;obtain⟨r,h3,rfl⟩:=h2;have⟨hx,hz⟩:=hf 0 f x rfl rfl;obtain⟨ts,g1,g2,k1⟩:=hgo _ _ h1 _ _ hx hz;obtain⟨ts',g3,g4,k2⟩:=NT m cs go hgo fs l _ _ h3 (by simpa using hl) λi f' x' hf' hx'=>hf (i+1) f' x' hf' hx';refine⟨ts++ts',?_,cX.append _ _ g2 g4,λK=>by have:=k1 K;have:=k2 K;rw[xX,aF,K.a1];omega⟩;rw[dG,List.take_add,List.drop_drop];rw[hc1,<- hc2]at g1;exact ek.append _ _ g1 g3
  ·cases h2
theorem ir.append{row:List CS}:∀{a b:List CS}{x y:List Tree},ir row a x->ir row b y->ir row (a++b) (x++y)
 |_,_,_,_,.nil,h=>h
 |_,_,_,_,.back h t,h'=> .back h (t.append h')
 |_,_,_,_,.one h t,h'=> .one h (t.append h')
theorem JI{row:List CS}(m:Nat)(cs:List Value)(go:TypeId->Option (List CS))(hgo:∀t sh,go t=some sh->∀cs x,DataW.trod enc P w 0 sp held m t cs=some x->∃ts,ek w (Here w) ts cs/\ir row sh ts/\∀K:Bk H,jZ ts<=K.b x.1):
 ∀(fs:List Field)(l:List (DataW H×List MemPlace))(o:Nat)(sh:List CS),XC P go o fs=some sh->l.length=fs.length->(∀ (i:Nat) (f:Field) (x:DataW H×List MemPlace),fs[i]? =some f->l[i]? =some x->DataW.trod enc P w 0 sp held m f.type ((cs.drop f.offset).take (P.cellsOf f.type))=some x)->
  ∃ts,ek w (Here w) ts ((cs.drop o).take sh.length)/\ir row sh ts/\∀K:Bk H,jZ ts<=K.a (l.map (·.1))
 |[],l,o,sh,h,_,_=>by
  simp only[XC,ay]at h;subst h;exact⟨[],by simp[ek],.nil,λK=>by simp[jZ]⟩
 |f::fs,[],o,sh,h,hl,hf=>by simp at hl
 |f::fs,x::l,o,sh,h,hl,hf=>by
  simp only[XC,ah]at h;obtain⟨a,h1,h2⟩:=h;split at h2
  ·rename_i hc;obtain⟨hc1,hc2⟩:=hc;simp only[dR]at h2;obtain⟨r,h3,rfl⟩:=h2;have hx:=hf 0 f x rfl rfl;obtain⟨ts,g1,g2,k1⟩:=hgo _ _ h1 _ _ hx;obtain⟨ts',g3,g4,k2⟩:=JI m cs go hgo fs l _ _ h3 (by simpa using hl) λi f' x' hf' hx'=>hf (i+1) f' x' hf' hx';refine⟨ts++ts',?_,g2.append g4,λK=>by have:=k1 K;have:=k2 K;rw[xX,aF,K.a1];omega⟩;rw[dG,List.take_add,List.drop_drop];rw[hc1,<- hc2]at g1;exact ek.append _ _ g1 g3
  ·cases h2
theorem ah7{t e:TypeId}{row:List CS}(hk:P.underlying t=some (.slice e))(hm:HG P t e=some row):∀(fuel:Nat)(cs:List Value)(x:DataW H×List MemPlace),DataW.trod enc P w 0 sp held fuel t cs=some x->∃tr,ek w (Here w) [tr] cs/\B5 row tr/\∀K:Bk H,mL tr<=K.b x.1:=by
 intro fuel
 induction fuel using Nat.strongRecOn with
 |_ fuel ih=>
 intro cs x hx;have one:∀m,m<fuel->∀sg y,DataW.trod enc P w 0 sp held m e sg=some y->∃ts,ek w (Here w) ts sg/\ir row row ts/\ts.length=row.length/\∀K:Bk H,jZ ts<=K.b y.1:=by
  intro m hmf sg y hy;unfold HG at hm;split at hm
  ·rename_i fs hke;simp only[ah]at hm;obtain⟨r,h1,h2⟩:=hm;split at h2
   ·rename_i hr;injection h2 with h2;subst h2;obtain⟨xs,m',hm',rfl,hl,hxs,hf⟩:=DataW.trod_struct hke hy;obtain⟨ts,g1,g2,k1⟩:=JI (row:=r) m' sg (PB P t) (λ u sh hsh cs x hx=>by
     unfold PB at hsh;split at hsh
     ·rename_i hu;cases hsh;rw[hu]at hx;obtain⟨tr,a1,a2,a3⟩:=ih m' (by omega) cs x hx;exact⟨[tr],a1,.back a2 .nil,λK=>by have:=a3 K;simp only[jZ];omega⟩
     ·split at hsh
      ·rename_i k xn;cases hsh;obtain⟨v,rfl,rfl,hw⟩:=DataW.trod_int xn hx;exact⟨[.sc (.int k v)],by simp[ek,TR,oneCell],.one ⟨v,rfl,hw⟩ .nil,λK=>by simp[jZ,mL,K.int]⟩
      ·rename_i xn;cases hsh;obtain⟨v,rfl,rfl⟩:=DataW.trod_bool xn hx;exact⟨[.sc (.bool v)],by simp[ek,TR,oneCell],.one ⟨v,rfl⟩ .nil,λK=>by simp[jZ,mL,K.bool]⟩
      ·rename_i xn;cases hsh;obtain⟨v,rfl,rfl,hw⟩:=DataW.trod_string xn hx;exact⟨[.sc (.string v)],by simp[ek,TR,oneCell],.one ⟨v,rfl,hw⟩ .nil,λK=>by simp[jZ,mL,K.str]⟩
      ·cases hsh) fs.toList xs 0 r h1 (by simpa using hxs) (λ i f x hi hxi=>by
     have hi':fs[i]? =some f:=(by simpa using hi);rw[hf i f hi',hxi])
    rw[List.drop_zero,take_of_length_le (by omega)]at g1;refine⟨ts,g1,g2,?_,λK=>by have:=k1 K;rw[K.agg];omega⟩;rw[ek.length _ _ g1];omega
   ·cases h2
  ·cases hm
 have rl:row.length=P.cellsOf e/\0<row.length:=by
  unfold HG at hm;split at hm
  ·simp only[ah]at hm;obtain⟨r,h1,h2⟩:=hm;split at h2
   ·rename_i hr;cases h2;exact hr
   ·cases h2
  ·cases hm
 rcases DataW.trod_slice hk hx with ⟨rfl,rfl⟩ |⟨a,len,cap,elems,ag,m,hfm,rfl,rfl,_,hl,hmx,hlen,hel,_,_⟩
 ·refine⟨.sl [],?_,.mk [] (by simp[maxLen]) .nil,λK=>by simp[mL,y9,K.nil]⟩;simp only[ek,TR];exact⟨.inl ⟨trivial,none,0,rfl,λ_=>rfl⟩,trivial⟩
 ·have each:∀i,i<len->∃sg y,w.cells? 0 (a.add (i*P.cellsOf e)) (P.cellsOf e)=some sg/\DataW.trod enc P w 0 sp held m e sg=some y/\elems[i]? =some y:=by
   intro i hi;have h3:=hel i hi;have h6:elems[i]? =some (elems[i]'(by omega)):=cZ (by omega);rw[h6,ah]at h3;obtain⟨sg,h4,h5⟩:=h3;exact⟨sg,_,h4,h5,h6⟩
  by_cases h0:len=0
  ·subst h0;refine⟨.sl [],?_,.mk [] (by simp[maxLen]) .nil,λK=>by simp[mL,y9,K.sl]⟩;simp only[ek,TR];exact⟨.inl ⟨trivial,some a,cap,rfl,λh=>by cases h⟩,trivial⟩
  ·obtain⟨cs0,y0,c0,_,_⟩:=each 0 (by omega);obtain⟨_,c1,c2⟩:=World.cells?_some c0;have c3:=c2 0 (by omega);rw[cZ (by omega)]at c3;have c4:=L6 c3;simp only[Nat.zero_mul,Addr.add,if_true]at c4;obtain⟨b,aa,s⟩:=a;simp only at c4;obtain⟨rfl,hb⟩:=c4;have rows:∀q j,j+q=len->∃rows:List (List Tree),rows.length=q/\cp w (Here w) rows b (aa+j*P.cellsOf e) (P.cellsOf e)/\oe row rows/\∀K:Bk H,y9 rows<=K.a ((elems.map (·.1)).drop j):=by
    intro q
    induction q with
    |zero=>intro j _;exact⟨[],rfl,by simp[cp],.nil,λK=>by simp[y9]⟩
    |succ q ihq=>
     intro j hj;obtain⟨rows,g1,g2,g3,k3⟩:=ihq (j+1) (by omega);obtain⟨csj,y,g4,g5,gy⟩:=each j (by omega);obtain⟨ts,g6,g7,_,k6⟩:=one m (by omega) _ _ g5;obtain⟨_,g8,g9⟩:=World.cells?_some g4;refine⟨ts::rows,by simp[g1],?_,.cons g7 g3,λK=>by have:=k3 K;have:=k6 K;rw[K.drop gy,y9];omega⟩;simp only[cp];refine⟨(ek.length _ _ g6).trans g8,XD _ _ _ _ g6 λi hi=>?_,?_⟩
     ·rw[<- g9 i (by omega),addr_add,addr_add]
     ·rw[show aa+j*P.cellsOf e+P.cellsOf e=aa+(j+1)*P.cellsOf e by rw[Nat.add_mul];omega];exact g2
   obtain⟨rows,g1,g2,g3,k3⟩:=rows len 0 (by omega);refine⟨.sl rows,?_,.mk rows (by omega) g3,λK=>by have:=k3 K;rw[List.drop_zero]at this;rw[K.sl,mL];omega⟩;simp only[ek,TR];exact⟨.inr ⟨b,aa,cap,P.cellsOf e,by rw[g1],by omega,hb,by simpa using g2⟩,trivial⟩
theorem BB{cut:List TypeId}:∀(n:Nat)(t:TypeId)(sh:List CS),uv P cut n t=some sh->∀(fuel:Nat)(cs:List Value)(x:DataW H×List MemPlace),DataW.trod enc P w 0 sp held fuel t cs=some x->HQ P t x->
 ∃ts,ek w (Here w) ts cs/\cX sh ts/\∀K:Bk H,jZ ts<=K.b x.1
 | 0,_,_,h,_,_,_,_,_=>by simp[uv]at h
 |n+1,t,sh,h,fuel,cs,x,hx,hz=>by
  unfold uv at h;split at h
  ·rename_i k hk;cases h;obtain⟨v,rfl,rfl,hw⟩:=DataW.trod_int hk hx;exact⟨[.sc (.int k v)],by simp[ek,TR,oneCell],by simp only[cX,Fit];exact⟨⟨v,rfl,hw⟩,trivial⟩,λK=>by simp[jZ,mL,K.int]⟩
  ·rename_i hk;cases h;obtain⟨v,rfl,rfl⟩:=DataW.trod_bool hk hx;exact⟨[.sc (.bool v)],by simp[ek,TR,oneCell],by simp only[cX,Fit];exact⟨⟨v,rfl⟩,trivial⟩,λK=>by simp[jZ,mL,K.bool]⟩
  ·rename_i hk;cases h;obtain⟨v,rfl,rfl,hw⟩:=DataW.trod_string hk hx;exact⟨[.sc (.string v)],by simp[ek,TR,oneCell],by simp only[cX,Fit];exact⟨⟨v,rfl,hw⟩,trivial⟩,λK=>by simp[jZ,mL,K.str]⟩
  ·rename_i e hk;split at h
   ·split at h
    ·rename_i row hmr;cases h;have⟨tr,g1,g2,k1⟩:=ah7 hk hmr fuel cs x hx;exact⟨[tr],g1,by simp only[cX,Fit];exact⟨g2,trivial⟩,λK=>by have:=k1 K;simp only[jZ];omega⟩
    cases h;rcases DataW.trod_slice hk hx with ⟨rfl,rfl⟩ |⟨a,len,cap,elems,ag,m,_,rfl,rfl,_,hl,hm,hlen,hel,_,_⟩
    ·exact⟨[.sc (.slice none 0 0)],by simp[ek,TR,oneCell],by simp[cX,Fit],λK=>by simp[jZ,mL,K.nil]⟩
    ·exact⟨[.sc (.slice (some a) len cap)],by simp[ek,TR,oneCell],by simp[cX,Fit],λK=>by simp[jZ,mL,K.sl]⟩
   simp only[ah]at h;obtain⟨r,h1,h2⟩:=h;split at h2
   ·rename_i hr;cases h2;rcases DataW.trod_slice hk hx with ⟨rfl,rfl⟩ |⟨a,len,cap,elems,ag,m,_,rfl,rfl,_,hl,hm,hlen,hel,_,_⟩
    ·refine⟨[.sl []],?_,by simp only[cX,Fit];exact⟨⟨[],rfl,by simp[maxLen],by simp⟩,trivial⟩,λK=>by simp[jZ,mL,y9,K.nil]⟩;simp only[ek,TR];exact⟨.inl ⟨trivial,none,0,rfl,λ_=>rfl⟩,trivial⟩
    ·have Q3:∀k,k=(elems.length+ag.length)*P.bytesOf e\/k∈DataW.weightsAll P e (elems.map (·.1))->k<=reachBytes:=by
      intro k hkk;refine hz k ?_;simp only[DataW.weights,hk,aN,aY,length_map];rcases hkk with h |h
      ·exact .inl h
      ·exact .inr (.inl h)
     have each:∀i,i<len->∃sg y,w.cells? 0 (a.add (i*P.cellsOf e)) (P.cellsOf e)=some sg/\DataW.trod enc P w 0 sp held m e sg=some y/\HQ P e y/\elems[i]? =some y:=by
      intro i hi;have h3:=hel i hi;have h6:elems[i]? =some (elems[i]'(by omega)):=cZ (by omega);rw[h6,ah]at h3;obtain⟨sg,h4,h5⟩:=h3;exact⟨sg,_,h4,h5,λk hk=>Q3 k (.inr (wm (mem_map.2 ⟨_,List.getElem_mem (by omega),rfl⟩) k hk)),h6⟩
     have hbytes:len*Hk r<=reachBytes:=by
      have h1:=Q3 _ (.inl rfl);have h2:len*Hk r<=(elems.length+ag.length)*P.bytesOf e:=Nat.mul_le_mul (by omega) hr.2.2;omega
     by_cases h0:len=0
     ·subst h0;refine⟨[.sl []],?_,by simp only[cX,Fit];exact⟨⟨[],rfl,by simp[maxLen],by simp⟩,trivial⟩,λK=>by simp[jZ,mL,y9,K.sl]⟩;simp only[ek,TR];exact⟨.inl ⟨trivial,some a,cap,rfl,λh=>by cases h⟩,trivial⟩
     ·obtain⟨cs0,y0,c0,_,_,_⟩:=each 0 (by omega);obtain⟨_,c1,c2⟩:=World.cells?_some c0;have c3:=c2 0 (by omega);rw[cZ (by omega)]at c3;have c4:=L6 c3;simp only[Nat.zero_mul,Addr.add,if_true]at c4;obtain⟨b,aa,s⟩:=a;simp only at c4;obtain⟨rfl,hb⟩:=c4;have rows:∀m j,j+m=len->∃rows:List (List Tree),rows.length=m/\cp w (Here w) rows b (aa+j*P.cellsOf e) (P.cellsOf e)/\(∀ x∈rows,cX r x)/\∀K:Bk H,y9 rows<=K.a ((elems.map (·.1)).drop j):=by
       intro m
       induction m with
       |zero=>intro j _;exact⟨[],rfl,by simp[cp],by simp,λK=>by simp[y9]⟩
       |succ m ih=>
        intro j hj;obtain⟨rows,g1,g2,g3,k3⟩:=ih (j+1) (by omega);obtain⟨csj,y,g4,g5,g5z,gy⟩:=each j (by omega);obtain⟨ts,g6,g7,k6⟩:=BB n e r h1 _ _ _ g5 g5z;obtain⟨_,g8,g9⟩:=World.cells?_some g4;refine⟨ts::rows,by simp[g1],?_,λx hx=>?_,λK=>by have:=k3 K;have:=k6 K;rw[K.drop gy,y9];omega⟩
        ·simp only[cp];refine⟨(ek.length _ _ g6).trans g8,XD _ _ _ _ g6 λi hi=>?_,?_⟩
         ·rw[<- g9 i (by omega),addr_add,addr_add]
         ·rw[show aa+j*P.cellsOf e+P.cellsOf e=aa+(j+1)*P.cellsOf e by rw[Nat.add_mul];omega];exact g2
        ·rcases aN.1 hx with rfl |hx
         ·exact g7
         ·exact g3 x hx
      obtain⟨rows,g1,g2,g3,k3⟩:=rows len 0 (by omega);refine⟨[.sl rows],?_,by simp only[cX,Fit];exact⟨⟨rows,rfl,⟨by omega,by rw[g1];exact hbytes⟩,g3⟩,trivial⟩,λK=>by have:=k3 K;rw[List.drop_zero]at this;rw[K.sl];simp only[jZ,mL];omega⟩;simp only[ek,TR];exact⟨.inr ⟨b,aa,cap,P.cellsOf e,by rw[g1],by omega,hb,by simpa using g2⟩,trivial⟩
   ·cases h2
  ·rename_i fs hk;simp only[ah]at h;obtain⟨r,h1,h2⟩:=h;split at h2
   ·rename_i hr;injection h2 with h2;subst h2;obtain⟨xs,m,_,rfl,hl,hxs,hf⟩:=DataW.trod_struct hk hx;obtain⟨ts,g1,g2,k1⟩:=NT m cs (uv P cut n) (λ t sh hsh cs x hx hz=>BB n t sh hsh m cs x hx hz) fs.toList xs 0 r h1 (by simpa using hxs) (λ i f x hi hxi=>by
     have hi':fs[i]? =some f:=(by simpa using hi);have:=hf i f hi';rw[hxi]at this;refine⟨this,λk hk'=>hz k ?_⟩;simp only[DataW.weights,hk];exact DataW.weights_mem_each (j:=i) (t:=f.type) (d:=x.1) (by simp[hi']) (by simp[hxi]) k hk')
    refine⟨ts,?_,g2,λK=>by have:=k1 K;rw[K.agg];omega⟩;rw[List.drop_zero,take_of_length_le (by omega)]at g1;exact g1
   ·cases h2
  ·rename_i m e hk;simp only[ah]at h;obtain⟨r,h1,h2⟩:=h;split at h2
   ·rename_i hr;cases h2;obtain⟨xs,q,_,rfl,hl,hxs,hf⟩:=DataW.trod_array hk hx;have part:∀i j,j+i=m->∃ts,ek w (Here w) ts (cs.drop (j*P.cellsOf e))/\cX (List.replicate i r).flatten ts/\∀K:Bk H,jZ ts<=K.a ((xs.map (·.1)).drop j):=by
     intro i
     induction i with
     |zero=>
      intro j hj;refine⟨[],?_,by simp[cX],λK=>by simp[jZ]⟩;have:j=m:=(by omega);subst this;rw[List.drop_of_length_le (by rw[hl,<- hr.2,<- hr.1];omega)];simp[ek]
     |succ i ih=>
      intro j hj;obtain⟨ts,g1,g2,k1⟩:=ih (j+1) (by omega);have:=hf j (by omega);have hxj:xs[j]? =some (xs[j]'(by omega)):=cZ (by omega);rw[hxj]at this;obtain⟨ts0,g3,g4,k3⟩:=BB n e r h1 _ _ _ this (λ k hk'=>hz k (by
       simp only[DataW.weights,hk];exact wm (mem_map.2 ⟨_,List.getElem_mem (by omega),rfl⟩) k hk'))
      refine⟨ts0++ts,?_,?_,λK=>by have:=k1 K;have:=k3 K;rw[K.drop hxj,xX];omega⟩
      ·have:=ek.append _ _ g3 g1;rw[show (j+1)*P.cellsOf e=j*P.cellsOf e+P.cellsOf e by rw[Nat.add_mul];omega,<- List.drop_drop,List.take_append_drop]at this;exact this
      ·rw[List.replicate_succ,flatten_cons];exact cX.append _ _ g4 g2
    obtain⟨ts,g1,g2,k1⟩:=part m 0 (by omega);exact⟨ts,by simpa using g1,g2,λK=>by have:=k1 K;rw[List.drop_zero]at this;rw[K.agg];omega⟩
   ·cases h2
  ·cases h
inductive VS where
 |one (c:CS)
 |agg (cs:List CS)
def Gk(P:Program)(cut:List TypeId)(t:TypeId):Option VS:=
 (uv P cut 12 t).bind λsh=>match P.underlying t with
  |some (.struct _) |some (.array _ _)=>some (.agg sh)
  |_=>match sh with
   |[c]=>some (.one c)
   |_=>none
def By:VS->TV->Prop
 | .one c,x=>∃y,x= .s y/\Fit c y
 | .agg cs,x=>∃ys,x= .a ys/\cX cs ys
def Rb:List VS->List TV->Prop
 |[],[]=>True
 |s::ss,x::xs=>By s x/\Rb ss xs
 |_,_=>False
def GS:TV->Nat
 | .s y=>mL y
 | .a ys=>jZ ys
def Rc:List TV->Nat
 |[]=>0
 |x::xs=>GS x+Rc xs
theorem af9{cut:List TypeId}{t:TypeId}{s:VS}{v:Value}{d:DataW H}{ps:List MemPlace}{b0:Nat}(hs:Gk P cut t=some s)(hval:Value.okWide P w .any b0 t v)(hd:DataW.Trod enc P w 0 sp held t v d ps)(hz:∀k∈d.weights P t,k<=reachBytes):
 ∃x,rj w (Here w) x v/\By s x/\∀K:Bk H,GS x<=K.b d:=by
 obtain⟨fuel,hf⟩:=hd;simp only[Gk,ah]at hs;obtain⟨sh,h1,h2⟩:=hs;obtain⟨ts,g1,g2,k1⟩:=BB 12 t sh h1 _ _ _ hf hz;have hag:∀cs:Array Value,v= .agg cs->s= .agg sh->∃x,rj w (Here w) x v/\By s x/\∀K:Bk H,GS x<=K.b d:=by
  rintro cs rfl rfl;exact⟨.a ts,⟨cs,rfl,by simpa[Value.cells]using g1⟩,⟨ts,rfl,g2⟩,k1⟩
 unfold Value.okWide at hval;split at h2
 ·rename_i hu;injection h2 with h2;rw[hu]at hval;obtain⟨cs,rfl,_⟩:=hval;exact hag cs rfl h2.symm
 ·rename_i hu;injection h2 with h2;rw[hu]at hval;obtain⟨cs,rfl,_⟩:=hval;exact hag cs rfl h2.symm
 ·rename_i hu1 hu2;split at h2
  ·rename_i c;cases h2;have hone:v.cells.toList=[v]:=by
    cases hu:P.underlying t with
    |none=>rw[hu]at hval;simp[Cell.okWide,Cell.ok,hu]at hval
    |some d=>
     rw[hu]at hval;cases v<;>first |rfl |(exfalso;revert hval;cases d<;>simp_all [Cell.okWide,Cell.ok])
   rw[hone]at g1
   match ts,g1,g2,k1 with
   |[y],g1,g2,k1=>
    simp only[cX]at g2;exact⟨.s y,g1.1,⟨y,rfl,g2.1⟩,λK=>by have:=k1 K;simpa[jZ,GS]using this⟩
   |[],g1,_,_=>exact g1.elim
   |_::_::_,g1,_,_=>exact g1.2.elim
  ·cases h2
theorem V3{cut:List TypeId}:∀{ts:List TypeId}{ss:List VS}{vs:List Value}{ds:List (DataW H)}{ps:List MemPlace}{b0:Nat},ts.mapM (Gk P cut)=some ss->
 (∀ (j:Nat) t v,ts[j]? =some t->vs[j]? =some v->Value.okWide P w .any b0 t v)->DataW.TrodAll enc P w 0 sp held ts vs ds ps->(∀ k∈DataW.weightsEach P ts ds,k<=reachBytes)->∃xs,lL w (Here w) xs vs/\Rb ss xs/\∀K:Bk H,Rc xs<=K.a ds
 |[],ss,vs,ds,ps,b0,hs,_,hd,_=>by
  obtain⟨rfl,rfl,rfl⟩:=trodAll_nil hd;simp only[List.mapM_nil,Option.pure_def,ay]at hs;subst hs;exact⟨[],trivial,trivial,λK=>by simp[Rc]⟩
 |t::ts,ss,vs,ds,ps,b0,hs,hval,hd,hz=>by
  obtain⟨v,vs',d,ds',p,q,rfl,rfl,rfl,h0,r0⟩:=trodAll_cons hd;simp only[List.mapM_cons,Option.bind_eq_bind,ah,Option.pure_def,ay]at hs;obtain⟨s,h1,ss',h2,rfl⟩:=hs;obtain⟨x,g1,g2,k1⟩:=af9 h1 (hval 0 t v rfl rfl) h0 (λ k hk=>hz k (by simp only[DataW.weightsEach,aY];exact .inl hk));obtain⟨xs,g3,g4,k2⟩:=V3 h2 (λ j t v h h'=>hval (j+1) t v h h') r0 (λ k hk=>hz k (by simp only[DataW.weightsEach,aY];exact .inr hk));exact⟨x::xs,⟨g1,g3⟩,⟨g2,g4⟩,λK=>by have:=k1 K;have:=k2 K;rw[Rc,K.a1];omega⟩
theorem NU{β:Nat->Option cA}{I:Nat->Prop}:∀(xs:List TV)(vs:List Value),lL w I xs vs->be P β w I (xs.map TV.av) vs
 |[],[],_=>by simp[be]
 |x::xs,v::vs,h=>by
  simp only[aF,be];refine⟨?_,NU xs vs h.2⟩;have h1:=h.1;cases x with
  |s y=>simp only[TV.av,VR];exact h1
  |a cs=>
   obtain⟨us,rfl,h2⟩:=h1;simp only[TV.av,VR];refine⟨us,rfl,?_⟩;have:∀(cs:List Tree) (us:List Value),ek w I cs us->be P β w I (cs.map AV.t) us:=by
    intro cs
    induction cs with
    |nil=>intro us h;cases us<;>first |(simp [be];done) |exact h.elim
    |cons c cs ih=>intro us h;cases us with
     |nil=>exact h.elim
     |cons u us=>simp only[aF,be,VR];exact⟨h.1,ih us h.2⟩
   exact this cs us.toList h2
 |[],_::_,h=>h.elim
 |_::_,[],h=>h.elim
end
section
variable {H:Type} {enc:TypeId×Value->H} {P:Program}
theorem abZ{f:Func}{s:ChangeSpec}{apart fresh handsOn again:Bool}{W W':World}{args:Array Value}{v:Value}{ds gs:List (DataW H)}{before pa pv:List MemPlace}
 (hW:DataW.Whole enc P f.params.toList s.vars apart W args.toList ds gs before)
 (hres:∀(b:Nat)(sp:Nat->Bool)(hd:Bool),DataW.TrodAll enc P W' b sp hd f.resultTypes.toList (v.resultList f.resultTypes.size) (s.fn H (ds++gs)).results [])
 (hargs:∀sp:Nat->Bool,(∀ p∈before,sp p.block=true)->DataW.TrodAll enc P W' 0 sp true f.params.toList args.toList (s.fn H (ds++gs)).args pa)
 (hvars:∀sp:Nat->Bool,(∀ p∈before,sp p.block=true)->DataW.TrodVars enc P W' sp s.vars (s.fn H (ds++gs)).vars pv)
 (hps:before=pa++pv) (hb:Below W.heap.size W W')
 (hok:∀(j:Nat)(t:TypeId)(r:Value),f.resultTypes[j]? =some t->(v.resultList f.resultTypes.size)[j]? =some r->Value.okWide P W' .any 0 t r):
 s.post enc P f apart fresh handsOn again W args v W':=by
 have hlt:∀p∈before,p.block<W.heap.size:=λp hp=>hW.lt p hp;have hold:∀p∈before,(λ b=>decide (b<W.heap.size)) p.block=true:=λp hp=>by simpa using hlt p hp
 refine⟨ds,gs,before,[],pa,pv,hW,hres _ _ _,hargs _ hold,hvars _ hold,World.keptBut_mono (λ p hp=>⟨hp,?_⟩) (hb.frame (· ∈before)),λ_=>?_⟩
 ·rw[hps,aY]at hp;exact Or.inr hp
 ·obtain⟨_,_,_,_,_,hz,hn⟩:=hW;refine⟨hok,_,_,([]++pa)++pv,⟨[]++pa,pv,trodAll_append (hargs _ (λ _ _=>rfl)) (hres _ _ _),hvars _ (λ _ _=>rfl),rfl,?_,?_⟩,?_⟩
  ·intro b aa hp;have hin:MemPlace.cell b aa∈before:=(by rw[hps];simpa using hp);rw[hb.frozen (hlt _ hin)];exact hz b aa hin
  ·intro ha;have:=hn ha;rw[hps]at this;simpa using this
  ·intro p hp _;rw[hps];simpa using hp
theorem Ia(hl:laidOutB P=true){W W':World}(hb:Below W.heap.size W W'):∀{ts:List TypeId}{vs:List Value}{ds:List (DataW H)}{ps:List MemPlace},(∀ t∈ts,P.readableRec t=true/\t<P.types.size)->
 DataW.TrodAll enc P W 0 (λ _=>true) true ts vs ds ps->(∀ x∈ps,x.block<W.heap.size)->∀sp:Nat->Bool,(∀ p∈ps,sp p.block=true)->DataW.TrodAll enc P W' 0 sp true ts vs ds ps
 |[],vs,ds,ps,_,hd,_,sp,_=>by
  obtain⟨rfl,rfl,rfl⟩:=trodAll_nil hd;exact trodAll_mk0
 |t::ts,vs,ds,ps,ht,hd,hlt,sp,hsp=>by
  obtain⟨v,vs',d,ds',p,q,rfl,rfl,rfl,h0,r0⟩:=trodAll_cons hd;obtain⟨h1,h2⟩:=ht t (by simp)
  exact trodAll_cons_mk (WideElems.Trod_stays hl h1 h2 h0 (λ x hx=>hb.same (hlt x (by simp[hx]))) (λ x hx=>hsp x (by simp[hx])))
   (Ia hl hb (λ t ht'=>ht t (by simp[ht'])) r0 (λ x hx=>hlt x (by simp[hx])) sp (λ x hx=>hsp x (by simp[hx])))
theorem NV{w:World}{base:Nat}{sp:Nat->Bool}{held:Bool}:∀{ts:List TypeId}{vs:List Value}{ds:List (DataW H)}{ps:List MemPlace},DataW.TrodAll enc P w base sp held ts vs ds ps->ds.length=ts.length
 |[],_,_,_,h=>by
  obtain⟨_,rfl,_⟩:=trodAll_nil h;rfl
 |_::_,_,_,_,h=>by
  obtain⟨_,_,_,_,_,_,_,rfl,_,_,h2⟩:=trodAll_cons h;simp[NV h2]
theorem Zn:∀{ts:List TypeId}{ds:List (DataW H)}{vt:List TypeId}{gs:List (DataW H)},ds.length=ts.length->∀k∈DataW.weightsEach P ts ds,k∈DataW.weightsEach P (ts++vt) (ds++gs)
 |[],[],_,_,_,k,h=>by simp[DataW.weightsEach]at h
 |t::ts,d::ds,vt,gs,hl,k,h=>by
  simp only[DataW.weightsEach,aY,cons_append]at h ⊢;rcases h with h |h
  ·exact .inl h
  ·exact .inr (Zn (by simpa using hl) k h)
 |[],_::_,_,_,h,_,_=>by simp at h
 |_::_,[],_,_,h,_,_=>by simp at h
theorem XE{cut:List TypeId}{C:Checked}{f:FuncId}{fn:Func}{s:ChangeSpec}{ss:List VS}{tb:TypeId}(hl:laidOutB C.prog=true)(hread:(fn.params.toList.all λt=>C.prog.readableRec t&&decide (t<C.prog.types.size))=true)
 (hss:fn.params.toList.mapM (Gk C.prog cut)=some ss) (hvars:s.vars=[]) (hres:fn.resultTypes=#[tb]) (hb:C.prog.underlying tb=some .bool)
 (hs:∀ds:List (DataW H),ds.length=fn.params.toList.length->s.fn H ds={ results:=[.lit (.bool true)],args:=ds })
 {B:Nat->Prop} (Kf:∀xs,Rb ss xs->(∀ n,B n->Rc xs<=n)->rm C.prog f (xs.map TV.av) (.one (.d (.s (.sc (.bool true))))))
 {W:World} {base:Nat} {args:Array Value} {ds gs:List (DataW H)} {before:List MemPlace}
 (hval:∀(j:Nat) t v,fn.params[j]? =some t->args[j]? =some v->Value.okWide C.prog W .any base t v)
 (hW:DataW.Whole enc C.prog fn.params.toList s.vars false W args.toList ds gs before)
 {vt:List TypeId} (hz:(DataW.weightsEach C.prog (fn.params.toList++vt) (ds++gs)).all (· <=reachBytes)=true) (hv:jt W (Here W)) (hB:∀n,B n->∃K:Bk H,K.a ds<=n):
 Calls C.prog f args W λe W'=>∃v,e= .returned v/\s.post enc C.prog fn false true false false W args v W':=by
 have hW':=hW;obtain⟨p,q,hA,hV,rfl,_,_⟩:=hW;rw[hvars]at hV;obtain⟨rfl,rfl⟩:=trodVars_none hV;have hlen:=NV hA;obtain⟨xs,g1,g2,g3⟩:=V3 hss (λ j t v h1 h2=>hval j t v (by simpa using h1) (by simpa using h2)) hA (λ k hk=>by
  have:=all_eq_true.1 hz k (Zn hlen k hk);simpa using this)
 simp only[append_nil]at hW';have hlt:∀x∈p,x.block<W.heap.size:=λx hx=>hW'.lt x hx;refine((Kf xs g2 (λ n hn=>by have⟨K,hK⟩:=hB n hn;exact Nat.le_trans (g3 K) hK)).2 W (Here W) args (λ _ h=>h) hv (NU _ _ g1)).mono λe W' ⟨v,I',he,hbel,_,_,_,hr⟩=>⟨v,he,?_⟩;simp only[pH,ut,rj,TR]at hr;obtain⟨rfl,_⟩:=hr;have hfn:s.fn H (ds++[])={ results:=[.lit (.bool true)],args:=ds }:=by rw[append_nil];exact hs ds hlen
 refine abZ (pa:=p) (pv:=[]) hW' (λ b sp hd=>?_) (λ sp hsp=>?_) (λ sp _=>?_) (by simp) hbel (ok_one (by rw[hres]) rfl (okWide_bool_mk hb _))
 ·rw[hfn,hres];exact trodAll_mk1 (shut_bool hb _)
 ·rw[hfn];refine Ia hl hbel (λ t ht=>?_) hA hlt sp hsp;have:=all_eq_true.1 hread t ht;simpa using this
 ·rw[hfn,hvars];rfl
end
def Nd:wd->TypeDesc->Bool
 | .slice e,.slice e'=>e==e'
 | .arr n e,.array n' e'=>n==n'&&e==e'
 | .struct fs,.struct fa=>fa.toList.map (λ f=>(f.offset,f.type))==fs
 | .bool,.bool=>true
 | .str,.string=>true
 | .int k,.int k'=>k==k'
 | .map k e,.map k' e'=>k==k'&&e==e'
 | .other,_=>true
 |_,_=>false
def On:Value->Value->Bool
 | .int k a,.int k' b=>k==k'&&a==b
 | .bool a,.bool b=>a==b
 | .string a,.string b=>decide (a=b)
 | .slice none 0 0,.slice none 0 0=>true
 | .pointer none,.pointer none=>true
 | .nilFunc,.nilFunc=>true
 | .nilIface,.nilIface=>true
 | .map none,.map none=>true
 |_,_=>false
theorem Zo{a b:Value}(h:On a b=true):a=b:=by
 unfold On at h;split at h<;>simp_all
def L8:List Value->List Value->Bool
 |[],[]=>true
 |a::as,b::bs=>On a b&&L8 as bs
 |_,_=>false
theorem JJ:∀{a b:List Value},L8 a b=true->a=b
 |[],[],_=>rfl
 |a::as,b::bs,h=>by simp only[L8,aJ]at h;rw[Zo h.1,JJ h.2]
 |[],_::_,h=>by simp[L8]at h
 |_::_,[],h=>by simp[L8]at h
def Ok(P:Program)(t:TypeId)(ti:oc):Bool:=
 match P.info? t,P.underlying t with
 |some info,some d=>match info.zero with
  |some z=>info.size==ti.size&&info.bytes==ti.bytes&&ra d==ti.agg&&Nd ti.k d&&ti.zero.all i9&&ti.zero.length==ti.size&&
   (ti.cmp.isEmpty || match d with
    | .struct fa=>!P.stoodInHeld t&&!P.eqGuardType P.depth t&&fp P 0 fa.toList ti.cmp
    | .array _ _=>ti.cmp==[9]&&!P.eqGuardType P.depth t
    |_=>false)&&L8 z.cells.toList ti.zero&&ro ti.agg z
  |none=>false
 |_,_=>false
theorem ab0{k:wd}{d:TypeDesc}(h:Nd k d=true):Ix k d:=by
 unfold Nd at h;split at h
 ·simp only[beq_iff_eq]at h;subst h;rfl
 ·simp only[aJ,beq_iff_eq]at h;obtain⟨rfl,rfl⟩:=h;rfl
 ·rename_i fs fa;exact⟨fa,rfl,by simpa using h⟩
 ·rfl
 ·rfl
 ·simp only[beq_iff_eq]at h;subst h;rfl
 ·simp only[aJ,beq_iff_eq]at h;obtain⟨rfl,rfl⟩:=h;rfl
 ·trivial
 ·cases h
theorem Zp{P:Program}{t:TypeId}{ti:oc}(h:Ok P t ti=true):k5 P t ti:=by
 unfold Ok at h;split at h
 ·rename_i info d h1 h2;split at h
  ·rename_i z h3;simp only[aJ,beq_iff_eq]at h;obtain⟨⟨⟨⟨⟨⟨⟨⟨a1,a2⟩,a3⟩,a4⟩,a5⟩,a6⟩,a7⟩,a8⟩,a9⟩:=h;refine⟨⟨info,d,z,h1,h2,a1,a2,h3,JJ a8,a3,ab0 a4⟩,a5,a6,λinfo' z' e1 e2=>by rw[h1]at e1;cases e1;rw[h3]at e2;cases e2;exact a9,λhne=>?_⟩
   all_goals grind
  ·cases h
 ·cases h
def Rf(l:List (TypeId×oc)):ea:=λt=>(l.find? λp=>p.1==t).map (·.2)
theorem agc{P:Program}{l:List (TypeId×oc)}(h:(l.all λp=>Ok P p.1 p.2)=true):eY P (Rf l):=by
 intro t ti ht;simp only[Rf,dR]at ht;obtain⟨p,hp,rfl⟩:=ht;have h1:=List.find?_some hp;simp only[beq_iff_eq]at h1;subst h1;exact Zp (all_eq_true.1 h p (List.mem_of_find?_eq_some hp))
inductive CT(ι:Type) where
 |int (k:IntKind)
 |bool
 |str
 |sl (e:CT ι)
 |st (i:ι)
 |any
 |mp (k v:CT ι)
 deriving DecidableEq
structure SE where
 ι:Type
 dec:DecidableEq ι
 T:ι->Type
 row:(i:ι)->T i->List Tree
instance (E:SE):DecidableEq E.ι:=E.dec
section
variable (E:SE)
@[reducible] def CT.T:CT E.ι->Type
 | .int _=>Int
 | .bool=>Bool
 | .str=>ByteArray
 | .sl e=>List (CT.T e)
 | .st i=>E.T i
 | .any=>Tree
 | .mp k v=>List (CT.T k×CT.T v)
def CT.row:(c:CT E.ι)->CT.T E c->List Tree
 | .int k,n=>[.sc (.int k n)]
 | .bool,b=>[.sc (.bool b)]
 | .str,s=>[.sc (.string s)]
 | .sl e,l=>[.sl (List.map (CT.row e) l)]
 | .st i,x=>E.row i x
 | .any,x=>[x]
 | .mp _ _,_=>[.sl []]
def CT.one{ι:Type}:CT ι->Bool
 | .st _=>false
 |_=>true
def CT.tv:(c:CT E.ι)->CT.T E c->TV
 | .int k,n=> .s (.sc (.int k n))
 | .bool,b=> .s (.sc (.bool b))
 | .str,s=> .s (.sc (.string s))
 | .sl e,l=> .s (.sl (List.map (CT.row E e) l))
 | .st i,x=> .a (E.row i x)
 | .any,x=> .s x
 | .mp _ _,_=> .s (.sl [])
def HL:List (CT E.ι)->Type
 |[]=>Unit
 |c::l=>CT.T E c×HL l
def HL.row:(l:List (CT E.ι))->HL E l->List Tree
 |[],_=>[]
 |c::l,h=>CT.row E c h.1++HL.row l h.2
def HL.l4:(l:List (CT E.ι))->HL E l->List TV
 |[],_=>[]
 |c::l,h=>CT.tv E c h.1::HL.l4 l h.2
end
structure Arr(E:SE) where
 i:E.ι
 c:CT E.ι
 f:E.T i->List (CT.T E c)
 g:List (CT.T E c)->Option (E.T i)
structure SX extends SE where
 cW:ι->List (CT ι)
 get:(i:ι)->T i->HL toSE (cW i)
 make:(i:ι)->HL toSE (cW i)->T i
 mN:∀i x,row i x=HL.row toSE (cW i) (get i x)
 fR:∀i h,row i (make i h)=HL.row toSE (cW i) h
 flat:∀i,(cW i).all CT.one=true
 gv:Nat->Option ((c:CT ι)×CT.T toSE c)
 vh:∀g,(gv g).map (λ p=>CT.row toSE p.1 p.2)=(uc g).map λr=>r.map Tree.sc
 ar:TypeId->Option (Arr toSE):=λ_=>none
 SR:∀t a,ar t=some a->a.c.one=true/\(∀ x,row a.i x=((a.f x).map (CT.row toSE a.c)).flatten)/\∀l x,a.g l=some x->a.f x=l:=by intro t a h;cases h
section
variable (X:SX)
abbrev SX.C:=CT X.ι
abbrev SX.t(c:CT X.ι):Type:=CT.T X.toSE c
def CT.sz:CT X.ι->Nat
 | .st i=>(X.cW i).length
 |_=>1
inductive DV where
 |c (t:CT X.ι) (x:CT.T X.toSE t)
 |agg (cs:List DV)
 |eE (vs:List DV)
 |own (k aa len:Nat)
 |ptr (k row aa:Nat)
 |oB (k:Nat) (n:Int) (aa:Nat)
 |rL (k row aa m:Nat) (n:Int)
 |rp (t:CT X.ι) (x:CT.T X.toSE t) (aa:Nat)
 |tP (t:CT X.ι) (x:CT.T X.toSE t) (aa m:Nat) (n:Int)
 |fn (f:FuncId) (first caps:List DV)
 |du (as:List (CT X.ι)) (r:CT X.ι) (φ:HL X.toSE as->Option (CT.T X.toSE r))
 |mp (k:Nat)
 |oz (k len:Nat)
 |raw (v:Value)
 |nil
 |ub
 |skip
 |undef
inductive bp where
 |cells (sz:Nat) (rows:List (List (DV X)))
 |dp (c:CT X.ι) (l:List (CT.T X.toSE c))
 |map (kc vc:CT X.ι) (l:List (CT.T X.toSE kc×CT.T X.toSE vc))
 |hole (c:CT X.ι) (l:List (CT.T X.toSE c)) (n:Int) (aa q len:Nat)
structure cR where
 env:List (Nat×DV X)
 obj:List (Nat×Option (bp X))
 nx:Nat
 log:List Nat
variable {X}
mutual
def den:DV X->AV
 | .c t x=>(CT.tv X.toSE t x).av
 | .agg cs=> .agg (bG cs)
 | .eE vs=> .eE (bG vs)
 | .own k aa len=> .own k aa len
 | .ptr k row aa=> .ptr k row aa
 | .oB k n aa=> .ptr k n.toNat aa
 | .rL k row aa _ n=> .ptr k row (aa+n.toNat)
 | .rp t x aa=> .ef (CT.row X.toSE t x) aa
 | .tP t x aa _ n=> .ef (CT.row X.toSE t x) (aa+n.toNat)
 | .fn f first caps=> .fn f (bG first) (bG caps)
 | .du as r φ=> .du λts u=>∃h x,φ h=some x/\ts=HL.l4 X.toSE as h/\u=CT.tv X.toSE r x
 | .mp k=> .mp k
 | .oz k len=> .oz k len
 | .raw v=>cv v
 | .nil=> .cL
 | .ub=> .ub
 | .skip=> .undef
 | .undef=> .undef
def bG:List (DV X)->List AV
 |[]=>[]
 |x::xs=>den x::bG xs
end
theorem mJ:∀l:List (DV X),bG l=l.map den
 |[]=>rfl
 |x::xs=>by simp only[bG,aF,mJ xs]
def uW(rows:List (List AV))(i aa q len:Nat):List (List AV):=rows.set i (put' (rows.getD i []) aa [.own q 0 len])
def bC:bp X->aS
 | .cells sz rows=>⟨sz,rows.map bG⟩
 | .dp c l=>⟨CT.sz X c,aG (l.map (CT.row X.toSE c))⟩
 | .map kc vc l=>⟨l.length,l.map λp=>[(CT.tv X.toSE kc p.1).av,(CT.tv X.toSE vc p.2).av]⟩
 | .hole c l n aa q len=>⟨CT.sz X c,uW (aG (l.map (CT.row X.toSE c))) n.toNat aa q len⟩
def gW(u:List (Nat×Option (bp X))):List (Nat×Option aS):=u.map λp=>(p.1,p.2.map bC)
def ff(o:List (Nat×Option (bp X)))(k:Nat):Option (bp X):=(lk o k).join
def eo(e:List (Nat×DV X))(t:Nat):DV X:=(lk e t).getD .undef
def cR.st(s:cR X):St:=⟨λ t=>den (eo s.env t),λk=>(ff s.obj k).map bC,λ_=>none⟩
def iX(a b:CT X.ι)(x:CT.T X.toSE a):Option (CT.T X.toSE b):=
 match decEq a b with
 |isTrue h=>some (h ▸ x)
 |isFalse _=>none
theorem qc{a b:CT X.ι}{x:CT.T X.toSE a}{y:CT.T X.toSE b}(h:iX a b x=some y):∃e:a=b,y=e ▸ x:=by
 unfold iX at h;split at h
 ·rename_i e _;injection h with h;exact⟨e,h.symm⟩
 ·cases h
def HL.cells:(l:List (CT X.ι))->HL X.toSE l->List (DV X)
 |[],_=>[]
 |c::l,h=> .c c h.1::HL.cells l h.2
theorem row_one{c:CT X.ι}(h:c.one=true)(x:CT.T X.toSE c):∃t,CT.row X.toSE c x=[t]/\CT.tv X.toSE c x= .s t:=by cases c<;>first |exact⟨_,rfl,rfl⟩ |cases h
theorem HL.pf:∀(l:List (CT X.ι))(h:HL X.toSE l),l.all CT.one=true->bG (HL.cells l h)=(HL.row X.toSE l h).map AV.t
 |[],_,_=>rfl
 |c::l,h,ha=>by
  simp only[all_cons,aJ]at ha;obtain⟨t,h1,h2⟩:=row_one ha.1 h.1;simp only[HL.cells,bG,den,HL.row,h1,h2,TV.av,HL.pf l h.2 ha.2,cons_append,bK,aF]
theorem HL.m8:∀(l:List (CT X.ι))(h:HL X.toSE l),l.all CT.one=true->(HL.row X.toSE l h).length=l.length
 |[],_,_=>rfl
 |c::l,h,ha=>by
  simp only[all_cons,aJ]at ha;obtain⟨t,h1,_⟩:=row_one ha.1 h.1;simp only[HL.row,h1,cons_append,bK,bI,HL.m8 l h.2 ha.2]
theorem BD(c:CT X.ι)(x:CT.T X.toSE c):(CT.row X.toSE c x).length=CT.sz X c:=by
 cases c<;>try rfl
 rename_i i;exact(congrArg List.length (X.mN i x)).trans (HL.m8 _ _ (X.flat i))
def oM:(c:CT X.ι)->CT.T X.toSE c->List (DV X)
 | .st i,x=>HL.cells (X.cW i) (X.get i x)
 |c,x=>[.c c x]
theorem l7(c:CT X.ι)(x:CT.T X.toSE c):bG (oM c x)=(CT.row X.toSE c x).map AV.t:=by
 cases c<;>try rfl
 rename_i i;exact(HL.pf _ _ (X.flat i)).trans (congrArg (List.map AV.t) (X.mN i x).symm)
def tq:DV X->Bool
 | .agg _ | .eE _ | .undef | .skip | .raw _ | .c (.st _) _=>false
 |_=>true
theorem NW{x:DV X}(h:tq x=true):nJ (den x)=true:=by
 cases x<;>try rfl
 case c t x=>cases t<;>first |rfl |simp[tq]at h
 all_goals simp[tq]at h
def cellsD:DV X->Option (List (DV X))
 | .agg cs=>if cs.all tq then some cs else none
 | .c (.st i) x=>some (oM (.st i) x)
 | .eE _ | .undef | .skip | .raw _=>none
 |x=>some [x]
theorem ZS{l:List (DV X)}(h:l.all tq=true):(bG l).all nJ=true:=by
 rw[mJ,List.all_map,all_eq_true];exact λx hx=>NW (all_eq_true.1 h x hx)
theorem BF{x:DV X}{cs:List (DV X)}(h:cellsD x=some cs):cellsOf (den x)=some (bG cs):=by
 cases x
 case c t x=>
  cases t
  case st i=>
   simp only[cellsD,ay]at h;subst h;simp only[den,CT.tv,TV.av,cellsOf,l7];show(if ((X.row i x).map AV.t).all nJ then some ((X.row i x).map AV.t)else none)=some ((X.row i x).map AV.t);rw[bn];rw[List.all_map,all_eq_true];exact λ_ _=>rfl
  all_goals simp only[cellsD,ay]at h;subst h;rfl
 case agg l=>
  simp only[cellsD]at h;split at h
  ·cases h;simp only[den,cellsOf];rw[bn (ZS ‹_›)]
  ·cases h
 all_goals simp only[cellsD,ay,reduceCtorEq]at h;try (subst h;rfl)
def tA:Value->DV X
 | .slice none 0 0=> .nil
 | .int k n=> .c (.int k) n
 | .bool b=> .c .bool b
 | .string s=> .c .str s
 |v=> .raw v
theorem ZD(v:Value):den (tA (X:=X) v)=cv v:=by
 unfold tA;split<;>rfl
theorem Af(l:List Value):bG (l.map (tA (X:=X)))=l.map cv:=by
 rw[mJ,map_map];exact map_congr_left λv _=>ZD v
def UW(env:Nat->DV X):Operand->DV X
 | .tmp t=>env t
 | .const v=>tA v
 | .global g=>match X.gv g with
  |some p=> .rp p.1 p.2 0
  |none=> .undef
 | .func f=> .fn f [] []
theorem Rh(env:Nat->DV X)(x:Operand):den (UW env x)=ky (λ t=>den (env t)) x:=by
 cases x with
 |global g=>
  have h:=X.vh g;simp only[UW,ky];cases h1:X.gv g with
  |none=>
   rw[h1]at h;cases h2:uc g with
   |none=>rfl
   |some r=>rw[h2]at h;cases h
  |some p=>grind [den]
 |const v=>exact ZD _
 |tmp t=>rfl
 |func f=>rfl
end
def bz{α:Type}(l:List α)(n:Int):Option α:=bif decide (0<=n)then l[n.toNat]? else none
def sub{α:Type}(l:List α)(aa len:Nat):List α:=(l.drop aa).take len
def cH(n:Int)(len:Nat):Bool:=decide (0<=n)&&decide (n<(len:Int))
def jc{α β:Type}(a:α)(f:α->β):β:=f a
def bP(lo len ln n bytes:Nat):Bool:=decide (lo=len)&&decide (ln=n)&&decide ((len+n)*bytes<=140737488355328)&&decide (len+n<=maxLen)
def bj(a b:Nat):Bool:=decide (a=b)
def uL(l h:Int)(len:Nat):Bool:=decide (0<=l)&&decide (l<=h)&&decide (h<=(len:Int))
def Ri(a b:ByteArray):Bool:=Op.bytesLess a.toList b.toList
def Rj(a b:ByteArray):Bool:=decide (a.size+b.size<=maxLen)
abbrev iN(n:Int):Int:=n
abbrev bN(b:Bool):Bool:=b
def Rk{A:Type}:List Bool->Option A->Option A
 |[],k=>k
 |c::cs,k=>bif c then Rk cs k else none
section
variable {X:SX} {A:Type}
abbrev KK(X:SX)(A:Type):=DV X->List (Nat×Option (bp X))->List Nat->List Nat->Option A
def Of(t:Bool)(x y:DV X):DV X:=
 match x,y with
 | .c a p,.c b q=>match decEq b a with
  |isTrue h=> .c a (bif t then p else h ▸ q)
  |isFalse _=>bif t then .c a p else .c b q
 |x,y=>bif t then x else y
def C9(agg:Bool)(size:Nat)(cs:List (DV X)):Option (DV X):=
 if cs.length=size then(if agg then some (.agg cs)else match cs with |[x]=>if tq x then some x else none |_=>none)else none
def HF(agg:Bool)(size:Nat)(c:CT X.ι)(y:CT.T X.toSE c)(aa:Nat):Option (DV X):=
 match c,y with
 | .st i,y=>if aa=0/\agg=true/\size=(X.cW i).length then some (.c (.st i) y)else C9 agg size (((oM (.st i) y).drop aa).take size)
 |c,y=>C9 agg size (((oM c y).drop aa).take size)
def GN(d:DV X)(c:CT X.ι):Option (CT.T X.toSE c):=
 match d,c with
 | .c a x,c=>iX a c x
 | .nil,.sl _=>some []
 | .nil,.any=>some (.sl [])
 |_,_=>none
def wo:List (DV X)->(l:List (CT X.ι))->Option (HL X.toSE l)
 |[],[]=>some ()
 |d::ds,c::l=>(GN d c).bind λx=>(wo ds l).bind λh=>some (x,h)
 |_,_=>none
def AG(d:DV X)(i:X.ι):Option (CT.T X.toSE (.st i)):=
 match d with
 | .agg cs=>(wo cs (X.cW i)).bind λh=>some (X.make i h)
 | .c a x=>iX a (.st i) x
 |_=>none
def dat(d:DV X)(c:CT X.ι):Option (CT.T X.toSE c):=
 match c with
 | .st i=>AG d i
 |c=>GN d c
def P3(c:CT X.ι):List (DV X)->Option (CT.T X.toSE c)
 |[d]=>GN d c
 |_=>none
def Ib(c:CT X.ι)(ds:List (DV X)):Option (CT.T X.toSE c):=
 match c with
 | .st i=>(wo ds (X.cW i)).bind λh=>some (X.make i h)
 |c=>P3 c ds
def Zq(r:List (DV X))(aa:Nat)(cs:List (DV X)):List (DV X):=r.take aa++cs++r.drop (aa+cs.length)
variable (T:ea) (am:TypeId->Option (CT X.ι))
def Is(t:TypeId)(x:DV X)(get:Nat->Option (bp X))(k:KK X A):Option A:=
 (T t).bind λti=>match x with
 | .ptr kk row aa=>(get kk).bind λo=>match o with
  | .cells _ rows=>(rows[row]?).bind λr=>(C9 ti.agg ti.size ((r.drop aa).take ti.size)).bind λv=>k v [] [kk] []
  |_=>none
 | .oB kk n aa=>(get kk).bind λo=>match o with
  | .dp c l=>(bz l n).bind λy=>(HF ti.agg ti.size c y aa).bind λv=>k v [] [kk] []
  | .hole c l m CE q len=>(bz l n).bind λy=>bif n==m then(C9 ti.agg ti.size (((Zq (oM c y) CE [.own q 0 len]).drop aa).take ti.size)).bind λv=>k v [] [kk] []else none
  |_=>none
 | .rp c y aa=>(HF ti.agg ti.size c y aa).bind λv=>k v [] [] []
 |_=>none
def HW(t:TypeId)(x y:DV X)(get:Nat->Option (bp X))(k:KK X A):Option A:=
 (T t).bind λti=>(cellsD y).bind λcs=>if cs.length=ti.size then match x with
 | .ptr kk row aa=>(get kk).bind λo=>match o with
  | .cells sz rows=>(rows[row]?).bind λr=>if aa+cs.length<=r.length then k .undef [(kk,some (.cells sz (rows.set row (Zq r aa cs))))] [kk] [kk]else none
  |_=>none
 | .oB kk n aa=>(get kk).bind λo=>match o with
  | .dp c l=>(bz l n).bind λy=>if aa+cs.length<=CT.sz X c then(Ib c (Zq (oM c y) aa cs)).bind λz=>k .undef [(kk,some (.dp c (l.set n.toNat z)))] [kk] [kk]else none
  |_=>none
 |_=>none else none
def Iz(t:TypeId)(x:DV X)(f:Nat)(k:KK X A):Option A:=
 (xR T t f).bind λp=>match x with
 | .ptr kk row aa=>k (.ptr kk row (aa+p.1)) [] [] []
 | .oB kk n aa=>k (.oB kk n (aa+p.1)) [] [] []
 | .rp c y aa=>k (.rp c y (aa+p.1)) [] [] []
 |_=>none
def PP(t:TypeId)(x:DV X)(f:Nat)(k:KK X A):Option A:=
 (xR T t f).bind λp=>match x with
 | .agg cs=>(C9 p.2.agg p.2.size ((cs.drop p.1).take p.2.size)).bind λv=>k v [] [] []
 | .c (.st i) y=>(C9 p.2.agg p.2.size (((oM (.st i) y).drop p.1).take p.2.size)).bind λv=>k v [] [] []
 |_=>none
def IA(t:TypeId)(x j:DV X)(get:Nat->Option (bp X))(k:KK X A):Option A:=
 (T t).bind λti=>match ti.k,j with
 | .slice e,.c (.int _) n=>(T e).bind λei=>match x with
  | .c (.sl c) l=>if CT.sz X c=ei.size then(bz l n).bind λy=>k (.rp c y 0) [] [] []else none
  | .own kk aa len=>(get kk).bind λo=>match o with
   | .dp c _=>if CT.sz X c=ei.size then bif cH n len then k (.oB kk ((aa:Int)+iN n) 0) [] [kk] []else none else none
   | .cells sz _=>if sz=ei.size then bif cH n len then k (.ptr kk (aa+n.toNat) 0) [] [kk] []else none else none
   | .hole c _ _ _ _ _=>if CT.sz X c=ei.size then bif cH n len then k (.oB kk ((aa:Int)+iN n) 0) [] [kk] []else none else none
   | .map _ _ _=>none
  |_=>none
 | .arr m e,.c (.int _) n=>(T e).bind λei=>bif cH n m then match x with
  | .ptr kk row aa=>k (.ptr kk row (aa+n.toNat*ei.size)) [] [] []
  | .oB kk r aa=>k (.oB kk r (aa+n.toNat*ei.size)) [] [] []
  | .rp c y aa=>k (.rp c y (aa+n.toNat*ei.size)) [] [] []
  |_=>none
  else none
 |_,_=>none
def Rl(x:DV X)(j:Nat)(k:KK X A):Option A:=
 match x with
 | .eE vs=>(vs[j]?).bind λv=>k v [] [] []
 |_=>none
def EI(op:BinOp)(kd:IntKind)(a b:Int):(DV X)×Option Bool:=
 match op with
 | .add=>(.c (.int kd) (kd.wrap (a+b)),none)
 | .sub=>(.c (.int kd) (kd.wrap (a -b)),none)
 | .mul=>(.c (.int kd) (kd.wrap (a*b)),none)
 | .quo=>(.c (.int kd) (kd.wrap (a.tdiv b)),some (b !=0))
 | .rem=>(.c (.int kd) (a.tmod b),some (b !=0))
 | .and=>(.c (.int kd) (bits .and kd a b),none)
 | .or=>(.c (.int kd) (bits .or kd a b),none)
 | .xor=>(.c (.int kd) (bits .xor kd a b),none)
 | .andNot=>(.c (.int kd) (bits .andNot kd a b),none)
 | .shl=>(.c (.int kd) (kd.wrap (a*2 ^ b.toNat)),some (decide (0<=b)&&decide (b<=kd.bits)))
 | .shr=>(.c (.int kd) (a/2 ^ b.toNat),some (decide (0<=b)&&decide (b<=kd.bits)))
 | .eql=>(.c .bool (a==b),none)
 | .neq=>(.c .bool (a !=b),none)
 | .lss=>(.c .bool (decide (a<b)),none)
 | .leq=>(.c .bool (decide (a<=b)),none)
 | .gtr=>(.c .bool (decide (a>b)),none)
 | .geq=>(.c .bool (decide (a>=b)),none)
def XF:Nat->DV X->DV X->Option Bool
 | 0,.c (.int j) a,.c (.int k) b=>if j=k then some (iN a==iN b)else none
 | 1,.c .bool a,.c .bool b=>some (bN a==bN b)
 | 2,.c .str a,.c .str b=>some (a.toList==b.toList)
 |_,_,_=>none
def tT:List Nat->List (DV X)->List (DV X)->Option Bool
 |[],[],[]=>some true
 |k::ks,x::xs,y::ys=>(XF k x y).bind λa=>(tT ks xs ys).bind λb=>some (a&&b)
 |_,_,_=>none
def Hj:DV X->Option (List (DV X))
 | .agg cs=>some cs
 | .c (.st i) y=>some (oM (.st i) y)
 |_=>none
def M3(op:BinOp)(t:TypeId)(x y:DV X)(k:KK X A):Option A:=
 match x,y with
 | .c (.int kd) a,.c (.int yk) b=>if kd=yk\/op= .shl\/op= .shr then match (EI op kd a b:DV X×Option Bool).2 with
  |none=>k (EI op kd a b).1 [] [] []
  |some g=>bif g then k (EI op kd a b).1 [] [] []else none
  else none
 | .c .str a,.c .str b=>match op with
  | .eql=>k (.c .bool (a.toList==b.toList)) [] [] []
  | .neq=>k (.c .bool (!(a.toList==b.toList))) [] [] []
  | .lss=>k (.c .bool (Ri a b)) [] [] []
  | .gtr=>k (.c .bool (!(Ri a b || a.toList==b.toList))) [] [] []
  | .add=>bif Rj a b then k (.c .str (a++b)) [] [] []else none
  |_=>none
 | .c .bool a,.c .bool b=>(T t).bind λti=>match ti.k,op with
  | .bool,.eql=>k (.c .bool (bN a==bN b)) [] [] []
  | .bool,.neq=>k (.c .bool (!(bN a==bN b))) [] [] []
  |_,_=>none
 |x,y=>(Hj x).bind λxs=>(Hj y).bind λys=>(T t).bind λti=>if ti.cmp=[]then none else(tT ti.cmp xs ys).bind λb=>match op with
  | .eql=>k (.c .bool b) [] [] []
  | .neq=>k (.c .bool (!b)) [] [] []
  |_=>none
def HT(op:UnOp)(x:DV X)(k:KK X A):Option A:=
 match op,x with
 | .not,.c .bool b=>k (.c .bool (!b)) [] [] []
 | .neg,.c (.int kd) n=>k (.c (.int kd) (kd.wrap (0 -iN n))) [] [] []
 |_,_=>none
def Gf(mx:Bool)(kd:IntKind):Int->List (DV X)->Option Int
 |a,[]=>some a
 |a,.c (.int k') b::r=>if k'=kd then Gf mx kd (if mx then max a b else min a b) r else none
 |_,_=>none
def GW(mx:Bool)(args:List (DV X))(k:KK X A):Option A:=
 match args with
 | .c (.int kd) a::r=>(Gf mx kd a r).bind λn=>k (.c (.int kd) n) [] [] []
 |_=>none
def M2(t:TypeId)(x:DV X)(k:KK X A):Option A:=
 (T t).bind λti=>match ti.k,x with
 | .slice _,.c (.sl _) l=>k (.c (.int .i64) (l.length:Int)) [] [] []
 | .slice _,.own _ _ len=>k (.c (.int .i64) (len:Int)) [] [] []
 | .slice _,.oz _ len=>k (.c (.int .i64) (len:Int)) [] [] []
 | .slice _,.nil=>k (.c (.int .i64) (0:Int)) [] [] []
 | .str,.c .str s=>k (.c (.int .i64) (s.size:Int)) [] [] []
 |_,_=>none
def V4(place:Nat->Option (Nat×Nat)):List (DV X)->List (Nat×DV X)->Option (List (DV X))
 |cells,[]=>some cells
 |cells,(j,x)::ag=>(place j).bind λp=>(cellsD x).bind λcs=>
  if cs.length=p.2/\p.1+cs.length<=cells.length then V4 place (Zq cells p.1 cs) ag else none
def PM(t:TypeId)(parts:List (Nat×DV X))(k:KK X A):Option A:=
 (T t).bind λti=>match ti.k with
 | .struct fs=>if fs.all (λ p=>(T p.2).isSome)then
  (V4 (λ j=>(fs[j]?).bind λp=>(T p.2).bind λui=>some (p.1,ui.size)) (ti.zero.map tA) parts).bind λcells=>k (.agg cells) [] [] []else none
 | .arr _ e=>(T e).bind λei=>(V4 (λ j=>some (j*ei.size,ei.size)) (ti.zero.map tA) parts).bind λcells=>k (.agg cells) [] [] []
 |_=>none
def F0(c:CT X.ι):Nat->List (Nat×DV X)->Option (List (CT.T X.toSE c))
 |_,[]=>some []
 |n,(j,x)::r=>if j=n then(dat x c).bind λy=>(F0 c (n+1) r).bind λl=>some (y::l)else none
def EJ(i:Nat)(t:TypeId)(len:Nat)(parts:List (Nat×DV X))(k:KK X A):Option A:=
 (T t).bind λti=>match ti.k with
 | .slice e=>(T e).bind λei=>(am e).bind λc=>if ei.size=0\/len*ei.size>2 ^ 24\/CT.sz X c≠ei.size\/parts.length≠len then none else
  (F0 c 0 parts).bind λl=>k (.own (cy i) 0 len) [(cy i,some (.dp c l))] [] []
 |_=>none
def PJ(i:Nat)(e:TypeId)(k:KK X A):Option A:=
 (T e).bind λti=>k (.ptr (cy i) 0 0) [(cy i,some (.cells ti.size [ti.zero.map tA]))] [] []
def M1(i:Nat)(x:DV X)(k:KK X A):Option A:=
 (cellsD x).bind λcs=>k (.ptr (cy i) 0 0) [(cy i,some (.cells cs.length [cs]))] [] []
def Zr(d:Int):Option (DV X)->Option Int
 |none=>some d
 |some (.c (.int _) n)=>some n
 |_=>none
def PH(t:TypeId)(x:DV X)(lo hi:Option (DV X))(get:Nat->Option (bp X))(k:KK X A):Option A:=
 (T t).bind λti=>match ti.k with
 | .slice e=>(T e).bind λei=>match x with
  | .own kk aa len=>(get kk).bind λo=>if (bC o).sz=ei.size then(Zr 0 lo).bind λl=>(Zr len hi).bind λh=>
   bif uL l h len then k (.own kk (aa+l.toNat) (h.toNat -l.toNat)) [] [kk] []else none else none
  | .c (.sl c) xs=>if CT.sz X c=ei.size then(Zr 0 lo).bind λl=>(Zr xs.length hi).bind λh=>
   bif uL l h xs.length then k (.c (.sl c) (sub xs l.toNat (h.toNat -l.toNat))) [] [] []else none else none
  |_=>none
 |_=>none
def MY(y:DV X)(c:CT X.ι)(get:Nat->Option (bp X)):Option (Nat×List (CT.T X.toSE c)×List Nat):=
 match y with
 | .own kk aa len=>(get kk).bind λo=>match o with
  | .dp b l=>(iX (.sl b) (.sl c) l).bind λl=>some (len,sub l aa len,[kk])
  |_=>none
 | .c b l=>(iX b (.sl c) l).bind λ(l:List (CT.T X.toSE c))=>some (l.length,l,[])
 |_=>none
def Rm{α:Type}:Nat->List α->List α
 | 0,l=>l
 |n+1,l=>l.drop (n+1)
def XG(i:Nat)(t:TypeId)(x y:DV X)(get:Nat->Option (bp X))(k:KK X A):Option A:=
 (T t).bind λti=>match ti.k with
 | .slice e=>(T e).bind λei=>(am e).bind λc=>if CT.sz X c=ei.size then(MY y c get).bind λs=>match x with
  | .own kk aa len=>(get kk).bind λo=>match o with
   | .dp b l=>(iX (.sl b) (.sl c) l).bind λ(l:List (CT.T X.toSE c))=>bif bP (Rm aa l).length len s.2.1.length s.1 ei.bytes then jc (Rm aa l++s.2.1) λr=>k (.own (cy i) 0 r.length) [(cy i,some (.dp c r)),(kk,none)] (kk::s.2.2) [kk]else none
   |_=>none
  | .nil=>bif bP 0 0 s.2.1.length s.1 ei.bytes then jc s.2.1 λr=>k (.own (cy i) 0 r.length) [(cy i,some (.dp c r))] s.2.2 []else none
  |_=>none
  else none
 |_=>none
def Rn(i:Nat)(b:Builtin)(args:List (DV X))(cW:List TypeId)(get:Nat->Option (bp X))(k:KK X A):Option A:=
 match b,args,cW with
 | .len,[x],[t]=>M2 T t x k
 | .max,args,_=>GW true args k
 | .min,args,_=>GW false args k
 | .append,[x,y],[t,u]=>if t=u then XG T am i t x y get k else none
 |_,_,_=>none
def GT(i:Nat)(o:Op)(ρ:Operand->DV X)(get:Nat->Option (bp X))(k:KK X A):Option A:=
 match o with
 | .move x=>k (ρ x) [] [] []
 | .assign x=>k (ρ x) [] [] []
 | .pick c a b=>match ρ c with | .c .bool t=>k (Of t (ρ a) (ρ b)) [] [] [] |_=>none
 | .alloc e=>PJ T i e k
 | .box _ x=>M1 i (ρ x) k
 | .build t parts=>PM T t (parts.toList.map λp=>(p.1,ρ p.2)) k
 | .buildSlice t len parts=>EJ T am i t len (parts.toList.map λp=>(p.1,ρ p.2)) k
 | .load t a=>Is T t (ρ a) get k
 | .store t a x=>HW T t (ρ a) (ρ x) get k
 | .binOp op t x y _=>M3 T op t (ρ x) (ρ y) k
 | .unOp op _ x=>HT op (ρ x) k
 | .makeFunc (.func f) first caps=>k (.fn f (first.toList.map ρ) (caps.toList.map ρ)) [] [] []
 | .slice t x lo hi none=>PH T t (ρ x) (lo.map ρ) (hi.map ρ) get k
 | .fieldAddr t x f=>Iz T t (ρ x) f k
 | .field t x f=>PP T t (ρ x) f k
 | .indexAddr t x j=>IA T t (ρ x) (ρ j) get k
 | .extract x j=>Rl (ρ x) j k
 | .call { callee:= .builtin b,args:=args,argTypes:=cW }=>Rn T am i b (args.toList.map ρ) cW.toList get k
 |_=>none
end
section
variable {X:SX} {A:Type} {T:ea} {am:TypeId->Option (CT X.ι)} {get:Nat->Option (bp X)} {k:KK X A} {r:A} {i:Nat}
def eU(get:Nat->Option (bp X)):Nat->Option aS:=λj=>(get j).map bC
theorem dP{rd:List Nat}{j:Nat}{o:bp X}(hj:j∈rd)(h:get j=some o):dw rd (eU get) j=some (bC o):=by simp[dw,hj,eU,h]
theorem jC(l:List (DV X)):(bG l).length=l.length:=by simp[mJ]
theorem iD(l:List (DV X))(a b:Nat):bG ((l.drop a).take b)=((bG l).drop a).take b:=by simp[mJ,map_take,map_drop]
theorem xY{α:Type}{l:List α}{n:Int}{x:α}(h:bz l n=some x):0<=n/\l[n.toNat]? =some x:=by
 unfold bz at h
 all_goals grind
theorem aeL(t:Bool)(x y:DV X):den (Of t x y)=Y2 t (den x) (den y):=by
 rw[QD];have base:∀x y:DV X,den (bif t then x else y)=if t=true then den x else den y:=λx y=>by cases t<;>rfl
 unfold Of;split
 ·rename_i a p b q;split
  ·rename_i h _;subst h;cases t<;>rfl
  ·exact base _ _
 ·exact base _ _
theorem vR{agg:Bool}{size:Nat}{cs:List (DV X)}{v:DV X}(h:C9 agg size cs=some v):part' agg size (bG cs)=some (den v):=by
 unfold C9 at h;unfold part';rw[jC];split at h
 ·rename_i hl;rw[bn hl];cases agg with
  |true=>simp only[if_true,ay]at h ⊢;subst h;rfl
  |false=>
   simp only[Bool.false_eq_true,if_false]at h ⊢
   match cs,h with
   |[x],h=>
    simp only at h;split at h
    ·rename_i hx;cases h;simp only[bG];rw[bn (NW hx)]
    ·cases h
   |[],h=>cases h
   |_::_::_,h=>cases h
 ·cases h
theorem L9{agg:Bool}{size aa:Nat}{c:CT X.ι}{y:CT.T X.toSE c}{v:DV X}(h:C9 agg size (((oM c y).drop aa).take size)=some v):part' agg size ((((CT.row X.toSE c y).drop aa).take size).map AV.t)=some (den v):=by
 have:=vR h;rw[iD,l7]at this;rw[<- this,map_take,map_drop]
theorem V5{agg:Bool}{size aa:Nat}{c:CT X.ι}{y:CT.T X.toSE c}{v:DV X}(h:HF agg size c y aa=some v):part' agg size ((((CT.row X.toSE c y).drop aa).take size).map AV.t)=some (den v):=by
 cases c
 case st j=>
  simp only[HF]at h;split at h
  ·rename_i hh;obtain⟨rfl,rfl,rfl⟩:=hh;cases h;have hl:(CT.row X.toSE (.st j) y).length=(X.cW j).length:=BD (.st j) y;rw[List.drop_zero,take_of_length_le (by omega)];unfold part';rw[bn (by simpa using hl)];rfl
  ·exact L9 h
 all_goals exact L9 h
theorem Ag(a:List (DV X))(aa:Nat)(cs:List (DV X)):bG (Zq a aa cs)=put' (bG a) aa (bG cs):=by simp[Zq,put',mJ,map_take,map_drop]
theorem Ro(rows:List (List Tree))(i:Nat):∃r:List Tree,(aG rows).getD i []=r.map AV.t:=by
 rw[List.getD_eq_getElem?_getD];cases h:rows[i]? with
 |none=>exact⟨[],by simp[aG,h]⟩
 |some r=>exact⟨r,by simp[aG,h]⟩
theorem V6{rows:List (List Tree)}{i aa q len j:Nat}{r:List AV}{x:AV}(hr:r∈uW (aG rows) i aa q len)(hx:x∈r)(hj:j∈refs x):j=q:=by
 have⟨r0,hr0⟩:=Ro rows i;have ht:∀{r1:List Tree},x∈r1.map AV.t->False:=λh1=>by obtain⟨t,_,rfl⟩:=mem_map.1 h1;simp[refs]at hj
 unfold uW at hr;rcases List.mem_or_eq_of_mem_set hr with hr |rfl
 ·simp only[aG,mem_map]at hr;obtain⟨q',_,rfl⟩:=hr;exact(ht hx).elim
 ·rw[hr0]at hx;unfold put' at hx;rw[<- map_take,<- map_drop]at hx;simp only[aY,aT]at hx;rcases hx with (hx |rfl) |hx
  ·exact(ht hx).elim
  ·simpa[refs]using hj
  ·exact(ht hx).elim
theorem Zt{c:CT X.ι}{l:List (CT.T X.toSE c)}{i aa q len:Nat}{y:CT.T X.toSE c}(h:l[i]? =some y):(uW (aG (l.map (CT.row X.toSE c))) i aa q len)[i]? =some (bG (Zq (oM c y) aa [.own q 0 len])):=by
 have hi:=(bX.1 h).1;have hr:(aG (l.map (CT.row X.toSE c)))[i]? =some ((CT.row X.toSE c y).map AV.t):=by simp[aG,h]
 unfold uW;rw[List.getElem?_set_self (by simpa[aG]using hi),List.getD_eq_getElem?_getD,hr,Ag,l7];rfl
theorem aeM{t:TypeId}{x:DV X}(h:Is T t x get k=some r):∃co rd dv ab,HV T t (den x) co (dw rd (eU get))=some ab/\jJ ab.obs/\ab.v=den dv/\ab.upd=[]/\k dv [] rd []=some r:=by
 unfold Is at h;unfold HV;rw[ah]at h;obtain⟨ti,h1,h⟩:=h;simp only[h1,af];split at h
 ·rename_i kk row aa;rw[ah]at h;obtain⟨o,h2,h⟩:=h;split at h
  ·rename_i sz rows;rw[ah]at h;obtain⟨rw',h3,h⟩:=h;rw[ah]at h;obtain⟨v,h4,h⟩:=h;refine⟨.none,[kk],v,⟨den v,[],[]⟩,?_,trivial,rfl,rfl,h⟩;have h5:=vR h4;rw[iD]at h5;simp[den,dP (List.mem_singleton_self kk) h2,bC,h3,h5,pv]
  ·cases h
 ·rename_i kk n aa;rw[ah]at h;obtain⟨o,h2,h⟩:=h;split at h
  ·rename_i c l;rw[ah]at h;obtain⟨y,h3,h⟩:=h;rw[ah]at h;obtain⟨v,h4,h⟩:=h;have⟨_,h6⟩:=xY h3;refine⟨.row ((CT.row X.toSE c y).map AV.t),[kk],v,⟨den v,[],[(aG (l.map (CT.row X.toSE c)))[n.toNat]? =some ((CT.row X.toSE c y).map AV.t)]⟩,?_,?_,rfl,rfl,h⟩
   ·have h5:=V5 h4;rw[map_take,map_drop]at h5;simp only[den,dP (List.mem_singleton_self kk) h2,af,bC,h5,lv]
   ·simp[jJ,aG,h6]
  ·rename_i c l m CE q len;rw[ah]at h;obtain⟨y,h3,h⟩:=h;have hm:n=m:=by
    cases h7:n==m with
    |false=>rw[h7]at h;cases h
    |true=>simpa using h7
   subst hm;simp only[beq_self_eq_true,aj]at h;rw[ah]at h;obtain⟨v,h4,h⟩:=h;have⟨_,h6⟩:=xY h3;refine⟨.none,[kk],v,⟨den v,[],[]⟩,?_,trivial,rfl,rfl,h⟩;have h5:=vR h4;rw[iD]at h5;simp only[den,dP (List.mem_singleton_self kk) h2,af,bC,Zt h6,h5,pv]
  ·cases h
 ·rename_i c y aa;have⟨v,h4,h⟩:=ah.1 h;refine⟨.none,[],v,⟨den v,[],[]⟩,?_,trivial,rfl,rfl,h⟩;simp only[den,V5 h4,af,pv]
 ·cases h
theorem mY{a c:CT X.ι}{x:CT.T X.toSE a}{y:CT.T X.toSE c}(h:iX a c x=some y):den (.c a x)=den (.c c y)/\CT.row X.toSE a x=CT.row X.toSE c y:=by
 obtain⟨e,h⟩:=qc h
 grind
theorem XH{c:CT X.ι}(hc:c.one=true)(x:CT.T X.toSE c):[(CT.tv X.toSE c x).av]=(CT.row X.toSE c x).map AV.t:=by
 obtain⟨t,h1,h2⟩:=row_one hc x;rw[h1,h2];rfl
theorem T7{c:CT X.ι}(x:CT.T X.toSE c):wk (CT.tv X.toSE c x).av=(CT.tv X.toSE c x).av:=by cases c<;>rfl
theorem tV{d:DV X}{c:CT X.ι}{x:CT.T X.toSE c}(h:GN d c=some x):wk (den d)=(CT.tv X.toSE c x).av:=by
 unfold GN at h;split at h
 ·rw[(mY h).1];exact T7 x
 ·cases h;rfl
 ·cases h;rfl
 ·cases h
theorem XI{d:DV X}{c:CT X.ι}{x:CT.T X.toSE c}(hc:c.one=true)(h:GN d c=some x):tq d=true:=by
 cases d
 case c a y=>
  obtain⟨e,_⟩:=qc (show iX a c y=some x by cases c<;>exact h);subst e;cases a<;>first |rfl |simp[CT.one]at hc
 case nil=>rfl
 all_goals cases c<;>cases h
theorem wu:∀{ds:List (DV X)}{l:List (CT X.ι)}{h:HL X.toSE l},wo ds l=some h->l.all CT.one=true->(bG ds).map wk=(HL.row X.toSE l h).map AV.t/\ds.all tq=true
 |[],[],h,_,_=>⟨rfl,rfl⟩
 |d::ds,c::l,h,hr,ha=>by
  simp only[wo]at hr;have⟨x,h1,hr⟩:=ah.1 hr;have⟨g,h2,hr⟩:=ah.1 hr;cases hr;simp only[all_cons,aJ]at ha ⊢;have⟨i1,i2⟩:=wu h2 ha.2;simp only[bG,aF,HL.row,map_append,i1,tV h1,i2,and_true,XI ha.1 h1];simp[<- XH ha.1 x]
 |[],_::_,_,hr,_=>by simp[wo]at hr
 |_::_,[],_,hr,_=>by simp[wo]at hr
theorem Rp(j:X.ι)(h:HL X.toSE (X.cW j)):CT.row X.toSE (.st j) (X.make j h)=HL.row X.toSE (X.cW j) h:=X.fR j h
theorem ah9{c:CT X.ι}(hc:c.one=true){ds:List (DV X)}{x:CT.T X.toSE c}(h:P3 c ds=some x):(bG ds).map wk=(CT.row X.toSE c x).map AV.t:=by
 match ds,h with
 |[d],h=>
  rw[<- XH hc x];simp only[bG,aF,map_nil,tV h]
 |[],h=>cases h
 |_::_::_,h=>cases h
theorem sI{c:CT X.ι}{ds:List (DV X)}{x:CT.T X.toSE c}(h:Ib c ds=some x):(bG ds).map wk=(CT.row X.toSE c x).map AV.t:=by
 cases c
 case st j=>
  simp only[Ib]at h;have⟨g,h1,h⟩:=ah.1 h;cases h;rw[(wu h1 (X.flat j)).1,Rp]
 all_goals exact ah9 rfl h
theorem ab6{d:DV X}{c:CT X.ι}(hc:c.one=true){x:CT.T X.toSE c}(h:GN d c=some x):∃cs,cellsOf (den d)=some cs/\cs.map wk=(CT.row X.toSE c x).map AV.t:=by
 have hk:=XI hc h;have hd:=tV h;have he:cellsOf (den d)=some [den d]:=by
  have:=BF (x:=d) (cs:=[d]) (by
   cases d
   case c t y=>cases t<;>first |rfl |simp[tq]at hk
   all_goals first |rfl |simp[tq]at hk)
  simpa[bG]using this
 exact⟨_,he,by rw[<- XH hc x];simp[hd]⟩
theorem aeN{d:DV X}{c:CT X.ι}{x:CT.T X.toSE c}(h:dat d c=some x):∃cs,cellsOf (den d)=some cs/\cs.map wk=(CT.row X.toSE c x).map AV.t:=by
 cases c
 case st j=>
  replace h:AG d j=some x:=h
  cases d
  case agg cs=>
   simp only[AG]at h;have⟨g,h1,h⟩:=ah.1 h;cases h;have⟨i1,i2⟩:=wu h1 (X.flat j);refine⟨bG cs,?_,by rw[i1,Rp]⟩;simp only[den,cellsOf];rw[bn (ZS i2)]
  case c a y=>
   replace h:iX a (.st j) y=some x:=h
   rw[(mY h).1];refine⟨(CT.row X.toSE (.st j) x).map AV.t,?_,?_⟩
   ·show cellsOf (.agg _)=_;simp only[cellsOf];rw[bn]
    ·rfl
    ·rw[List.all_map,all_eq_true];exact λ_ _=>rfl
   ·rw[map_map];rfl
  all_goals cases h
 all_goals exact ab6 rfl h
theorem aeO{t:TypeId}{x y:DV X}(h:HW T t x y get k=some r):∃co kk u ab,LF T t (den x) (den y) co (dw [kk] (eU get))=some ab/\jJ ab.obs/\ab.v= .undef/\ab.upd=gW [(kk,u)]/\k .undef [(kk,u)] [kk] [kk]=some r:=by
 unfold HW at h;unfold LF;rw[ah]at h;obtain⟨ti,h1,h⟩:=h;rw[ah]at h;obtain⟨cs,h2,h⟩:=h;simp only[h1,BF h2,af];split at h
 ·rename_i hl;have hdl:(bG cs).length=ti.size:=by rw[jC];exact hl
  simp only[hdl,if_true];split at h
  ·rename_i kk row aa;rw[ah]at h;obtain⟨o,h3,h⟩:=h;split at h
   ·rename_i sz rows;rw[ah]at h;obtain⟨rw',h4,h⟩:=h;split at h
    ·rename_i hle;refine⟨.none,kk,_,⟨.undef,_,[]⟩,?_,trivial,rfl,rfl,h⟩;simp only[den,dP (List.mem_singleton_self kk) h3,af,bC,List.getElem?_map,h4,Option.map_some,jC];rw[bn (by rw[<- hl];exact hle)];simp[Ag]
    ·cases h
   ·cases h
  ·rename_i kk n aa;rw[ah]at h;obtain⟨o,h3,h⟩:=h;split at h
   ·rename_i c l;rw[ah]at h;obtain⟨z,h4,h⟩:=h;split at h
    ·rename_i hle;have⟨z',h5,h⟩:=ah.1 h;have⟨_,h6⟩:=xY h4;refine⟨.set ((CT.row X.toSE c z).map AV.t) (aG ((l.set n.toNat z').map (CT.row X.toSE c))),kk,_,⟨.undef,_,[(aG (l.map (CT.row X.toSE c)))[n.toNat]? =some ((CT.row X.toSE c z).map AV.t)/\aG ((l.set n.toNat z').map (CT.row X.toSE c))=dM ((aG (l.map (CT.row X.toSE c))).set n.toNat (put' ((CT.row X.toSE c z).map AV.t) aa (bG cs)))]⟩,?_,?_,rfl,rfl,h⟩
     ·simp only[den,dP (List.mem_singleton_self kk) h3,af,bC];rw[bn (by rw[length_map,BD,<- hl];exact hle)];simp[bC]
     ·refine⟨by simp[aG,h6],?_⟩;have h7:=sI h5;rw[Ag,l7]at h7;have hid:dM (aG (l.map (CT.row X.toSE c)))=aG (l.map (CT.row X.toSE c)):=(by simp[dM,aG,Function.comp_def,wk]);simp only[dM,List.map_set,h7];have:(aG (l.map (CT.row X.toSE c))).map (List.map wk)=aG (l.map (CT.row X.toSE c)):=hid;rw[this];simp[aG]
    ·cases h
   ·cases h
  ·cases h
 ·cases h
theorem Ma{t:TypeId}{x:DV X}{f:Nat}(h:Iz T t x f k=some r):∃dv ab,vY T t (den x) f=some ab/\jJ ab.obs/\ab.v=den dv/\ab.upd=[]/\k dv [] [] []=some r:=by
 unfold Iz at h;unfold vY;rw[ah]at h;obtain⟨⟨d,u⟩,h1,h⟩:=h;simp only[h1,af];split at h
 ·exact⟨_,_,rfl,trivial,rfl,rfl,h⟩
 ·exact⟨_,_,rfl,trivial,rfl,rfl,h⟩
 ·exact⟨_,_,rfl,trivial,rfl,rfl,h⟩
 ·cases h
theorem XJ{t:TypeId}{x:DV X}{f:Nat}(h:PP T t x f k=some r):∃dv ab,Qy T t (den x) f=some ab/\jJ ab.obs/\ab.v=den dv/\ab.upd=[]/\k dv [] [] []=some r:=by
 unfold PP at h;unfold Qy;rw[ah]at h;obtain⟨⟨d,u⟩,h1,h⟩:=h;simp only[h1,af];split at h
 ·rw[ah]at h;obtain⟨v,h2,h⟩:=h;have h3:=vR h2;rw[iD]at h3;exact⟨v,⟨den v,[],[]⟩,by simp only[den,h3,af,pv],trivial,rfl,rfl,h⟩
 ·rename_i j y;have⟨v,h2,h⟩:=ah.1 h;have h3:=L9 h2;rw[map_take,map_drop]at h3;refine⟨v,⟨den v,[],[]⟩,?_,trivial,rfl,rfl,h⟩;show(part' u.agg u.size (List.take u.size (List.drop d ((CT.row X.toSE (.st j) y).map AV.t)))).bind pv=_;rw[h3];rfl
 ·cases h
theorem dF{α:Type}{b:Bool}{x:Option α}{r:α}(h:(bif b then x else none)=some r):b=true/\x=some r:=by grind
theorem JK{n:Int}{len:Nat}(h:cH n len=true):0<=n/\n.toNat<len:=by simp only[cH,aJ,aR]at h;omega
theorem oh{A:Type}:∀{cs:List Bool}{k:Option A}{r:A},Rk cs k=some r->(∀ c∈cs,c=true)/\k=some r
 |[],_,_,h=>⟨by simp,h⟩
 |c::cs,k,r,h=>by
  have⟨h1,h2⟩:=dF h;have⟨h3,h4⟩:=oh h2;exact⟨λ x hx=>(aN.1 hx).elim (λ e=>e ▸ h1) (h3 x),h4⟩
theorem Mc{t:TypeId}{x j:DV X}(h:IA T t x j get k=some r):∃co rd dv ab,kT T t (den x) (den j) co (dw rd (eU get))=some ab/\jJ ab.obs/\ab.v=den dv/\ab.upd=[]/\k dv [] rd []=some r:=by
 unfold IA at h;unfold kT;rw[ah]at h;obtain⟨ti,h1,h⟩:=h;simp only[h1,af];split at h
 ·rename_i e kd n hk;rw[ah]at h;obtain⟨ei,h2,h⟩:=h;simp only[hk,den,CT.tv,TV.av,h2,af];split at h
  ·rename_i c l;split at h
   ·rename_i hs;rw[ah]at h;obtain⟨y,h3,h⟩:=h;have⟨h4,h5⟩:=xY h3;refine⟨.qv (CT.row X.toSE c y),[],_,⟨.ef (CT.row X.toSE c y) 0,[],[0<=n/\(l.map (CT.row X.toSE c))[n.toNat]? =some (CT.row X.toSE c y)]⟩,?_,?_,rfl,rfl,h⟩
    ·simp only[den,CT.tv,TV.av];rw[bn (by rw[BD];exact hs)];rfl
    ·exact⟨h4,by simp[h5]⟩
   ·cases h
  ·rename_i kk aa len;rw[ah]at h;obtain⟨o,h3,h⟩:=h;split at h
   ·rename_i c l;split at h
    ·rename_i hs;have⟨h4,h⟩:=dF h;have⟨h5,h6⟩:=JK h4;refine⟨.none,[kk],_,⟨.ptr kk (aa+n.toNat) 0,[],[0<=n/\n.toNat<len]⟩,?_,⟨h5,h6⟩,?_,rfl,h⟩
     ·simp only[den,dP (List.mem_singleton_self kk) h3,af,bC];rw[bn hs];rfl
     ·simp only[den,iN];congr 1;show aa+Int.toNat n=Int.toNat ((aa:Int)+n);have:(0:Int)<=n:=h5;omega
    ·cases h
   ·rename_i sz rows;split at h
    ·rename_i hs;have⟨h4,h⟩:=dF h;have⟨h5,h6⟩:=JK h4;refine⟨.none,[kk],_,⟨.ptr kk (aa+n.toNat) 0,[],[0<=n/\n.toNat<len]⟩,?_,⟨h5,h6⟩,rfl,rfl,h⟩;simp only[den,dP (List.mem_singleton_self kk) h3,af,bC];rw[bn hs];rfl
    ·cases h
   ·rename_i c l _ _ _ _;split at h
    ·rename_i hs;have⟨h4,h⟩:=dF h;have⟨h5,h6⟩:=JK h4;refine⟨.none,[kk],_,⟨.ptr kk (aa+n.toNat) 0,[],[0<=n/\n.toNat<len]⟩,?_,⟨h5,h6⟩,?_,rfl,h⟩
     ·simp only[den,dP (List.mem_singleton_self kk) h3,af,bC];rw[bn hs];rfl
     ·simp only[den,iN];congr 1;show aa+Int.toNat n=Int.toNat ((aa:Int)+n);have:(0:Int)<=n:=h5;omega
    ·cases h
   ·cases h
  ·cases h
 ·rename_i m e kd n hk;have⟨ei,h2,h⟩:=ah.1 h;simp only[hk,den,CT.tv,TV.av,h2,af];have⟨h4,h⟩:=dF h;have⟨h5,h6⟩:=JK h4;split at h
  ·exact⟨.none,[],_,_,rfl,⟨h5,h6⟩,rfl,rfl,h⟩
  ·exact⟨.none,[],_,_,rfl,⟨h5,h6⟩,rfl,rfl,h⟩
  ·exact⟨.none,[],_,_,rfl,⟨h5,h6⟩,rfl,rfl,h⟩
  ·cases h
 ·cases h
theorem Rq{x:DV X}{j:Nat}(h:Rl x j k=some r):∃dv ab,Ey (den x) j=some ab/\jJ ab.obs/\ab.v=den dv/\ab.upd=[]/\k dv [] [] []=some r:=by
 unfold Rl at h;split at h
 ·have⟨v,h2,h⟩:=ah.1 h;refine⟨v,⟨den v,[],[]⟩,?_,trivial,rfl,rfl,h⟩;simp[Ey,den,mJ,h2,pv]
 ·cases h
end
section
variable {X:SX} {A:Type} {T:ea} {am:TypeId->Option (CT X.ι)} {get:Nat->Option (bp X)} {k:KK X A} {r:A} {i:Nat}
theorem XK{op:BinOp}{kd:IntKind}{a b:Int}:∃v obs,Qx op kd a b=some (v,obs)/\den (EI (X:=X) op kd a b).1= .t (.sc v)/\(∀ g,(EI (X:=X) op kd a b).2=some g->g=true->jJ obs)/\((EI (X:=X) op kd a b).2=none->jJ obs):=by
 cases op<;>refine⟨_,_,rfl,rfl,λg hg ht=>?_,λhn=>?_⟩<;>simp only[EI,ay,reduceCtorEq]at* <;>try trivial
 all_goals subst hg;simp_all [jJ]
theorem Zu{n:Nat}{x y:DV X}{b:Bool}(h:XF n x y=some b):Iw n (den x) (den y)=some b:=by
 unfold XF at h;split at h
 ·split at h
  ·cases h;simp only[den,CT.tv,TV.av,Iw];rw[bn ‹_›]
  ·cases h
 ·exact h
 ·exact h
 ·cases h
theorem JL:∀{ks:List Nat}{xs ys:List (DV X)}{b:Bool},tT ks xs ys=some b->qL ks (bG xs) (bG ys)=some b
 |[],[],[],b,h=>h
 |k::ks,x::xs,y::ys,b,h=>by
  simp only[tT]at h;rw[ah]at h;obtain⟨p,h1,h⟩:=h;rw[ah]at h;obtain⟨q,h2,h⟩:=h;simp only[bG,qL,Zu h1,JL h2,af,h]
 |[],_::_,_,_,h=>by simp[tT]at h
 |[],[],_::_,_,h=>by simp[tT]at h
 |_::_,[],_,_,h=>by simp[tT]at h
 |_::_,_::_,[],_,h=>by simp[tT]at h
theorem Zv{x:DV X}{xs:List (DV X)}(h:Hj x=some xs):den x= .agg (bG xs):=by
 unfold Hj at h;split at h
 ·cases h;rfl
 ·rename_i j y;cases h;rw[l7];rfl
 ·cases h
theorem ab7{op:BinOp}{t:TypeId}{x y:DV X}(h:M3 T op t x y k=some r):∃dv ab,UI T op t (den x) (den y)=some ab/\jJ ab.obs/\ab.v=den dv/\ab.upd=[]/\k dv [] [] []=some r:=by
 unfold M3 at h;split at h
 ·rename_i kd a yk b;split at h
  ·rename_i hk;have⟨v,obs,h1,h2,h3,h4⟩:=XK (X:=X) (op:=op) (kd:=kd) (a:=a) (b:=b);have fin:jJ obs->k (EI op kd a b).1 [] [] []=some r->∃dv ab,UI T op t (den (.c (.int kd) a:DV X)) (den (.c (.int yk) b:DV X))=some ab/\jJ ab.obs/\ab.v=den dv/\ab.upd=[]/\k dv [] [] []=some r:=by
    intro ho hkk;refine⟨_,⟨.t (.sc v),[],obs⟩,?_,ho,h2.symm,rfl,hkk⟩;simp only[den,CT.tv,TV.av,UI];rw[bn hk,h1];rfl
   split at h
   ·rename_i hn;exact fin (h4 hn) h
   ·rename_i g hg;have⟨hgt,h⟩:=dF h;exact fin (h3 g hg hgt) h
  ·cases h
 ·split at h
  ·exact⟨_,_,rfl,trivial,rfl,rfl,h⟩
  ·exact⟨_,_,rfl,trivial,rfl,rfl,h⟩
  ·exact⟨_,_,rfl,trivial,rfl,rfl,h⟩
  ·exact⟨_,_,rfl,trivial,rfl,rfl,h⟩
  ·have⟨hc,h⟩:=dF h;exact⟨_,_,rfl,show _<=maxLen from of_decide_eq_true hc,rfl,rfl,h⟩
  ·cases h
 ·rw[ah]at h;obtain⟨ti,h1,h⟩:=h;split at h
  ·rename_i hk;refine⟨_,⟨.t (.sc (.bool _)),[],[]⟩,?_,trivial,rfl,rfl,h⟩;simp only[den,CT.tv,TV.av,UI,h1,af,hk];rfl
  ·rename_i hk;refine⟨_,⟨.t (.sc (.bool _)),[],[]⟩,?_,trivial,rfl,rfl,h⟩;simp only[den,CT.tv,TV.av,UI,h1,af,hk];rfl
  ·cases h
 ·rw[ah]at h;obtain⟨xs,h1,h⟩:=h;rw[ah]at h;obtain⟨ys,h2,h⟩:=h;rw[ah]at h;obtain⟨ti,h3,h⟩:=h;split at h
  ·cases h
  ·rename_i hc;have⟨b,h4,h⟩:=ah.1 h;have h5:=JL h4;rw[Zv h1,Zv h2];split at h
   ·refine⟨_,⟨.t (.sc (.bool b)),[],[]⟩,?_,trivial,rfl,rfl,h⟩;simp only[UI,h3,af];rw[bf hc,h5];rfl
   ·refine⟨_,⟨.t (.sc (.bool (!b))),[],[]⟩,?_,trivial,rfl,rfl,h⟩;simp only[UI,h3,af];rw[bf hc,h5];rfl
   ·cases h
theorem aeP{op:UnOp}{x:DV X}(h:HT op x k=some r):∃dv ab,HP op (den x)=some ab/\jJ ab.obs/\ab.v=den dv/\ab.upd=[]/\k dv [] [] []=some r:=by
 unfold HT at h;split at h
 ·exact⟨_,_,rfl,trivial,rfl,rfl,h⟩
 ·exact⟨_,_,rfl,trivial,rfl,rfl,h⟩
 ·cases h
theorem NY(mx:Bool)(kd:IntKind):∀(l:List (DV X))(a n:Int),Gf mx kd a l=some n->Bu mx kd a (bG l)=some n
 |[],a,n,h=>h
 |x::l,a,n,h=>by
  cases x
  case c t y=>
   cases t
   case int k'=>
    simp only[Gf]at h;simp only[bG,den,CT.tv,TV.av,Bu];split at h
    ·rename_i hk;rw[bn hk];exact NY mx kd l _ _ h
    ·cases h
   all_goals simp[Gf]at h
  all_goals simp[Gf]at h
theorem V7{mx:Bool}{args:List (DV X)}(h:GW mx args k=some r):∃dv ab,B4 mx (bG args)=some ab/\jJ ab.obs/\ab.v=den dv/\ab.upd=[]/\k dv [] [] []=some r:=by
 unfold GW at h;split at h
 ·rename_i kd a l;rw[ah]at h;obtain⟨n,h1,h⟩:=h;refine⟨_,⟨.t (.sc (.int kd n)),[],[]⟩,?_,trivial,rfl,rfl,h⟩;simp only[bG,den,CT.tv,TV.av,B4];have:=NY mx kd l a n h1;simp only[this];rfl
 ·cases h
theorem ab8{t:TypeId}{x:DV X}(h:M2 T t x k=some r):∃co dv ab,Y1 T t (den x) co=some ab/\jJ ab.obs/\ab.v=den dv/\ab.upd=[]/\k dv [] [] []=some r:=by
 unfold M2 at h;unfold Y1;rw[ah]at h;obtain⟨ti,h1,h⟩:=h;simp only[h1,af];split at h
 ·rename_i e c l hk;simp only[hk];exact⟨.num (l.length:Int),_,⟨.t (.sc (.int .i64 (l.length:Int))),[],[(l.length:Int)=((l.map (CT.row X.toSE c)).length:Int)]⟩,rfl,by simp[jJ],rfl,rfl,h⟩
 ·rename_i hk;simp only[hk];exact⟨.none,_,_,rfl,trivial,rfl,rfl,h⟩
 ·rename_i hk;simp only[hk];exact⟨.none,_,_,rfl,trivial,rfl,rfl,h⟩
 ·rename_i hk;simp only[hk];exact⟨.none,_,_,rfl,trivial,rfl,rfl,h⟩
 ·rename_i hk;simp only[hk];exact⟨.none,_,_,rfl,trivial,rfl,rfl,h⟩
 ·cases h
theorem Md(place:Nat->Option (Nat×Nat)):∀(parts:List (Nat×DV X))(cells ab:List (DV X)),V4 place cells parts=some ab->CW place (bG cells) (parts.map λp=>(p.1,den p.2))=some (bG ab)
 |[],cells,ab,h=>by simp only[V4,ay]at h;subst h;rfl
 |(j,x)::ag,cells,ab,h=>by
  simp only[V4]at h;rw[ah]at h;obtain⟨⟨aa,size⟩,h1,h⟩:=h;rw[ah]at h;obtain⟨cs,h2,h⟩:=h;split at h
  ·rename_i hl;simp only[aF,CW,h1,BF h2,af,jC];rw[bn hl,<- Ag];exact Md place ag _ _ h
  ·cases h
theorem XL{t:TypeId}{parts:List (Nat×DV X)}(h:PM T t parts k=some r):∃dv ab,Qz T t (parts.map λp=>(p.1,den p.2))=some ab/\jJ ab.obs/\ab.v=den dv/\ab.upd=[]/\k dv [] [] []=some r:=by
 unfold PM at h;unfold Qz;rw[ah]at h;obtain⟨ti,h1,h⟩:=h;simp only[h1,af];split at h
 ·rename_i fs hk;split at h
  ·rename_i ha;rw[ah]at h;obtain⟨cells,h2,h⟩:=h;have h3:=Md _ _ _ _ h2;rw[Af]at h3;refine⟨_,⟨.agg (bG cells),[],[]⟩,?_,trivial,rfl,rfl,h⟩;simp only[hk];rw[bn ha,h3];rfl
  ·cases h
 ·rename_i m e hk;rw[ah]at h;obtain⟨ei,h2,h⟩:=h;rw[ah]at h;obtain⟨cells,h3,h⟩:=h;have h4:=Md _ _ _ _ h3;rw[Af]at h4;refine⟨_,⟨.agg (bG cells),[],[]⟩,?_,trivial,rfl,rfl,h⟩;simp only[hk,h2,af,h4];rfl
 ·cases h
theorem V8(size:Nat)(c:CT X.ι)(hs:CT.sz X c=size)(z:List AV):∀(parts:List (Nat×DV X))(n:Nat)(l:List (CT.T X.toSE c))(done:List (List AV)),F0 c n parts=some l->done.length=n->
 ∃css:List (List AV),Js size (done++List.replicate parts.length z) (parts.map λp=>(p.1,den p.2))=some (done++css)/\css.map (λ r=>r.map wk)=aG (l.map (CT.row X.toSE c))
 |[],n,l,done,h,_=>by
  simp only[F0,ay]at h;subst h;exact⟨[],by simp[Js],rfl⟩
 |(j,x)::ag,n,l,done,h,hd=>by
  simp only[F0]at h;split at h
  ·rename_i hj;subst hj;have⟨y,h1,h⟩:=ah.1 h;have⟨l',h2,h⟩:=ah.1 h;cases h;have⟨cs,g1,g2⟩:=aeN h1;have hl:cs.length=size:=by
    have:=congrArg List.length g2;simp only[length_map,BD]at this;omega
   obtain⟨css,i1,i2⟩:=V8 size c hs z ag (j+1) l' (done++[cs]) h2 (by simp[hd]);refine⟨cs::css,?_,?_⟩
   ·simp only[aF,Js,g1,af];rw[bn ⟨hl,by simp;omega⟩];have:(done++List.replicate (ag.length+1) z).set j cs=done++[cs]++List.replicate ag.length z:=by
     rw[List.set_append_right _ _ (by omega),hd];simp[List.replicate_succ]
    simp only[bI,this,i1];simp
   ·simp only[aF,i2,g2,aG,aF]
  ·cases h
theorem JM{t:TypeId}{len:Nat}{parts:List (Nat×DV X)}(h:EJ T am i t len parts k=some r):∃dv u ab,tQ T i t len (parts.map λp=>(p.1,den p.2))=some ab/\jJ ab.obs/\ab.v=den dv/\ab.upd=gW [(cy i,u)]/\k dv [(cy i,u)] [] []=some r:=by
 unfold EJ at h;unfold tQ;rw[ah]at h;obtain⟨ti,h1,h⟩:=h;simp only[h1,af];split at h
 ·rename_i e hk;rw[ah]at h;obtain⟨ei,h2,h⟩:=h;rw[ah]at h;obtain⟨c,h3,h⟩:=h;simp only[hk,h2,af];split at h
  ·cases h
  ·rename_i hno;simp only[not_or,Decidable.not_not]at hno;obtain⟨n1,n2,n3,n4⟩:=hno;have⟨l,h4,h⟩:=ah.1 h;have⟨css,g1,g2⟩:=V8 ei.size c n3 (ei.zero.map cv) parts 0 l [] h4 rfl;simp only[bK,n4]at g1;refine⟨_,_,⟨.own (cy i) 0 len,[(cy i,some ⟨ei.size,dM css⟩)],[]⟩,?_,trivial,rfl,?_,h⟩
   ·rw[bf (by simp only[not_or];exact⟨n1,n2⟩),g1];rfl
   ·simp only[gW,bC,aF,map_nil,Option.map_some,n3];rw[show dM css=aG (l.map (CT.row X.toSE c))from g2]
 ·cases h
theorem XM{e:TypeId}(h:PJ T i e k=some r):∃dv u ab,QA T i e=some ab/\jJ ab.obs/\ab.v=den dv/\ab.upd=gW [(cy i,u)]/\k dv [(cy i,u)] [] []=some r:=by
 unfold PJ at h;unfold QA;have⟨ti,h1,h⟩:=ah.1 h;exact⟨_,_,⟨_,[(cy i,some ⟨ti.size,[ti.zero.map cv]⟩)],[]⟩,by simp only[h1,af];rfl,trivial,rfl,by simp[gW,bC,Af],h⟩
theorem ab9{x:DV X}(h:M1 i x k=some r):∃dv u ab,Ge i (den x)=some ab/\jJ ab.obs/\ab.v=den dv/\ab.upd=gW [(cy i,u)]/\k dv [(cy i,u)] [] []=some r:=by
 unfold M1 at h;unfold Ge;rw[ah]at h;obtain⟨cs,h1,h⟩:=h;exact⟨_,_,⟨_,[(cy i,some ⟨(bG cs).length,[bG cs]⟩)],[]⟩,by simp only[BF h1,af];rfl,trivial,rfl,by simp[gW,bC,jC],h⟩
theorem Ah{d n:Int}{x:Option (DV X)}(h:Zr d x=some n):bnd d (x.map den)=some n:=by
 unfold Zr at h;split at h
 ·exact h
 ·exact h
 ·cases h
theorem V9{l h:Int}{len:Nat}(hh:uL l h len=true):0<=l/\l<=h/\h<=(len:Int):=by simpa[uL,and_assoc]using hh
theorem XO{t:TypeId}{x:DV X}{lo hi:Option (DV X)}(h:PH T t x lo hi get k=some r):∃co rd dv ab,QB T t (den x) (lo.map den) (hi.map den) co (dw rd (eU get))=some ab/\jJ ab.obs/\ab.v=den dv/\ab.upd=[]/\k dv [] rd []=some r:=by
 unfold PH at h;unfold QB;rw[ah]at h;obtain⟨ti,h1,h⟩:=h;simp only[h1,af];split at h
 ·rename_i e hk;rw[ah]at h;obtain⟨ei,h2,h⟩:=h;simp only[hk,h2,af];split at h
  ·rename_i kk aa len;rw[ah]at h;obtain⟨o,h3,h⟩:=h;split at h
   ·rename_i hs;rw[ah]at h;obtain⟨l,h4,h⟩:=h;rw[ah]at h;obtain⟨hh,h5,h⟩:=h;have⟨h6,h⟩:=dF h;refine⟨.none,[kk],_,⟨.own kk (aa+l.toNat) (hh.toNat -l.toNat),[],[0<=l/\l<=hh/\hh<=(len:Int)]⟩,?_,V9 h6,rfl,rfl,h⟩;simp only[den,dP (List.mem_singleton_self kk) h3,af];rw[bn hs,Ah h4,af,Ah h5];rfl
   ·cases h
  ·rename_i c xs;split at h
   ·rename_i hs;have⟨l,h4,h⟩:=ah.1 h;have⟨hh,h5,h⟩:=ah.1 h;have⟨h6,h⟩:=dF h;refine⟨.wj ((sub xs l.toNat (hh.toNat -l.toNat)).map (CT.row X.toSE c)),[],_,⟨.t (.sl ((sub xs l.toNat (hh.toNat -l.toNat)).map (CT.row X.toSE c))),[],[0<=l/\l<=hh/\hh<=((xs.map (CT.row X.toSE c)).length:Int)/\(sub xs l.toNat (hh.toNat -l.toNat)).map (CT.row X.toSE c)=((xs.map (CT.row X.toSE c)).drop l.toNat).take (hh.toNat -l.toNat)/\(∀ q∈xs.map (CT.row X.toSE c),q.length=ei.size)]⟩,?_,?_,rfl,rfl,h⟩
    ·simp only[den,CT.tv,TV.av,Ah h4,af];have h7:bnd ((xs.map (CT.row X.toSE c)).length:Int) (hi.map den)=some hh:=by
      have:=Ah h5;simpa using this
     rw[h7];rfl
    ·have⟨a1,a2,a3⟩:=V9 h6;refine⟨a1,a2,by simpa using a3,by simp[sub,map_take,map_drop],λq hq=>?_⟩;obtain⟨y,_,rfl⟩:=mem_map.1 hq;rw[BD];exact hs
   ·cases h
  ·cases h
 ·cases h
end
section
variable {X:SX} {A:Type} {T:ea} {am:TypeId->Option (CT X.ι)} {get:Nat->Option (bp X)} {k:KK X A} {r:A} {i:Nat}
theorem iL{b c:CT X.ι}{l:List (CT.T X.toSE b)}{l':List (CT.T X.toSE c)}(h:iX (.sl b) (.sl c) l=some l'):CT.sz X b=CT.sz X c/\l.map (CT.row X.toSE b)=l'.map (CT.row X.toSE c):=by
 obtain⟨e,h⟩:=qc h
 grind
theorem Zw{y:DV X}{c:CT X.ι}{n:Nat}{l:List (CT.T X.toSE c)}{rd:List Nat}(h:MY y c get=some (n,l,rd))(hl:l.length=n)(rd':List Nat)(hrd:∀j∈rd,j∈rd'):
 ∃ob,QC (CT.sz X c) (den y) (dw rd' (eU get))=some (n,ob,aG (l.map (CT.row X.toSE c)))/\ob:=by
 unfold MY at h;split at h
 ·rename_i kk aa len;rw[ah]at h;obtain⟨o,h1,h⟩:=h;split at h
  ·rename_i b l0;rw[ah]at h;obtain⟨l1,h2,h⟩:=h;injection h with h;simp only[Prod.mk.injEq]at h;obtain⟨rfl,rfl,rfl⟩:=h;have⟨h3,h4⟩:=iL h2;refine⟨True,?_,trivial⟩;simp only[den,QC,dP (hrd kk (by simp)) h1,af,bC];rw[bn h3];simp only[h4,ay,Prod.mk.injEq,true_and];simp[aG,sub,map_take,map_drop]
  ·cases h
 ·rename_i b l0;have⟨l1,h2,h⟩:=ah.1 h;injection h with h;simp only[Prod.mk.injEq]at h;obtain⟨rfl,rfl,rfl⟩:=h;refine⟨∀ q∈l1.map (CT.row X.toSE c),q.length=CT.sz X c,?_,?_⟩
  ·rw[(mY h2).1];simp only[den,CT.tv,TV.av,QC,length_map]
  ·intro q hq;obtain⟨z,_,rfl⟩:=mem_map.1 hq;exact BD c z
 ·cases h
theorem Rs{lo len ln n bytes:Nat}(h:bP lo len ln n bytes=true):lo=len/\ln=n/\(len+n)*bytes<=140737488355328/\len+n<=maxLen:=by simpa[bP,and_assoc]using h
theorem nt{α:Type}(n:Nat)(l:List α):Rm n l=l.drop n:=by cases n<;>rfl
theorem UX{t:TypeId}{x y:DV X}(h:XG T am i t x y get k=some r):∃co rd wr dv upd ab,xS T i t (den x) (den y) co (dw rd (eU get))=some ab/\jJ ab.obs/\ab.v=den dv/\ab.upd=gW upd/\(∀ p∈upd,p.1=cy i\/p.1∈wr)/\k dv upd rd wr=some r:=by
 unfold XG at h;unfold xS;rw[ah]at h;obtain⟨ti,h1,h⟩:=h;simp only[h1,af];split at h
 ·rename_i e hk;rw[ah]at h;obtain⟨ei,h2,h⟩:=h;rw[ah]at h;obtain⟨c,h3,h⟩:=h;simp only[hk,h2,af];split at h
  ·rename_i hs;rw[ah]at h;obtain⟨⟨n,l,rd⟩,h4,h⟩:=h;split at h
   ·rename_i kk aa len;rw[ah]at h;obtain⟨o,h5,h⟩:=h;split at h
    ·rename_i b l0;have⟨l1,h6,h⟩:=ah.1 h;have⟨h7,h⟩:=dF h;rw[nt]at h7 h;have hd:(aG (l1.map (CT.row X.toSE c))).drop aa=aG ((l1.drop aa).map (CT.row X.toSE c)):=(by simp[aG]);have⟨g1,g2,g3,g4⟩:=Rs h7;have⟨h8,h9⟩:=iL h6;obtain⟨ob,i1,i2⟩:=Zw h4 g2 (kk::rd) (λ j hj=>by simp[hj]);have i3:=dP (rd:=kk::rd) (by simp) h5
     refine⟨.rows (aG ((l1.drop aa++l).map (CT.row X.toSE c))),kk::rd,[kk],_,_,⟨.own (cy i) 0 (aG ((l1.drop aa++l).map (CT.row X.toSE c))).length,[(cy i,some ⟨ei.size,aG ((l1.drop aa++l).map (CT.row X.toSE c))⟩),(kk,none)],
      [ob/\(aG ((l1.drop aa).map (CT.row X.toSE c))).length=len/\(aG (l.map (CT.row X.toSE c))).length=n/\aG ((l1.drop aa++l).map (CT.row X.toSE c))=aG ((l1.drop aa).map (CT.row X.toSE c))++aG (l.map (CT.row X.toSE c))/\(len+n)*ei.bytes<=140737488355328/\len+n<=maxLen]⟩,?_,?_,?_,?_,?_,h⟩
     ·rw[hs]at i1;simp only[i1,af,den,i3,bC,h9,hd];rw[bn (by rw[h8,hs])]
     ·exact⟨i2,by simpa[aG]using g1,by simpa[aG]using g2,by simp[aG],g3,g4⟩
     ·simp[den,aG]
     ·simp[gW,bC,hs]
     ·intro p hp;simp only[aN,fO,or_false]at hp;rcases hp with rfl |rfl
      ·exact .inl rfl
      ·exact .inr (by simp)
    ·cases h
   ·have⟨h7,h⟩:=dF h;have⟨g1,g2,g3,g4⟩:=Rs h7;obtain⟨ob,i1,i2⟩:=Zw h4 g2 rd (λ j hj=>hj)
    refine⟨.rows (aG (l.map (CT.row X.toSE c))),rd,[],_,_,⟨.own (cy i) 0 (aG (l.map (CT.row X.toSE c))).length,[(cy i,some ⟨ei.size,aG (l.map (CT.row X.toSE c))⟩)],
     [ob/\(aG (l.map (CT.row X.toSE c))).length=n/\aG (l.map (CT.row X.toSE c))=aG (l.map (CT.row X.toSE c))/\n*ei.bytes<=140737488355328/\n<=maxLen]⟩,?_,?_,?_,?_,?_,h⟩
    ·rw[hs]at i1;simp only[i1,af,den]
    ·exact⟨i2,by simpa[aG]using g2,rfl,by simpa using g3,by simpa using g4⟩
    ·simp[den,aG]
    ·simp[gW,bC,hs]
    ·intro p hp;simp only[aN,fO,or_false]at hp;rcases hp with rfl;exact .inl rfl
   ·cases h
  ·cases h
 ·cases h
def Tu(T:ea)(i:Nat)(o:Oper)(ρ:Operand->DV X)(get:Nat->Option (bp X))(k:KK X A)(r:A):Prop:=
 ∃co rd wr dv upd ab,nK T i o co (λ x=>den (ρ x)) (dw rd (eU get))=some ab/\jJ ab.obs/\ab.v=den dv/\ab.upd=gW upd/\(∀ p∈upd,p.1=cy i\/p.1∈wr)/\k dv upd rd wr=some r
theorem Rt{b:Builtin}{args:List (DV X)}{cW:List TypeId}(h:Rn T am i b args cW get k=some r):∃co rd wr dv upd ab,Ad T i b (bG args) cW co (dw rd (eU get))=some ab/\jJ ab.obs/\ab.v=den dv/\ab.upd=gW upd/\(∀ p∈upd,p.1=cy i\/p.1∈wr)/\k dv upd rd wr=some r:=by
 unfold Rn at h;unfold Ad;split at h
 ·have⟨co,dv,ab,h1,h2,h3,h4,h5⟩:=ab8 h;exact⟨co,[],[],dv,[],ab,h1,h2,h3,h4,by simp,h5⟩
 ·have⟨dv,ab,h1,h2,h3,h4,h5⟩:=V7 h;exact⟨.none,[],[],dv,[],ab,h1,h2,h3,h4,by simp,h5⟩
 ·have⟨dv,ab,h1,h2,h3,h4,h5⟩:=V7 h;exact⟨.none,[],[],dv,[],ab,h1,h2,h3,h4,by simp,h5⟩
 ·split at h
  ·rename_i htu;have⟨co,rd,wr,dv,upd,ab,h1,h2⟩:=UX h;refine⟨co,rd,wr,dv,upd,ab,?_,h2⟩;simp only[bG];rw[bn htu];exact h1
  ·cases h
 ·cases h
theorem Qf(ρ:Operand->DV X)(l:List Operand):l.map (λ x=>den (ρ x))=bG (l.map ρ):=by rw[mJ,map_map];rfl
theorem Wh{o:Oper}{ρ:Operand->DV X}(h:GT T am i o.op ρ get k=some r):Tu T i o ρ get k r:=by
 obtain⟨dst,op,ty,ao,after,guard⟩:=o;unfold Tu nK;simp only at h;unfold GT at h;split at h
 ·exact⟨.none,[],[],_,[],_,rfl,trivial,rfl,rfl,by simp,h⟩
 ·exact⟨.none,[],[],_,[],_,rfl,trivial,rfl,rfl,by simp,h⟩
 ·rename_i c a b;split at h
  ·rename_i t hc;refine⟨.none,[],[],_,[],⟨Y2 t (den (ρ a)) (den (ρ b)),[],[]⟩,?_,trivial,(aeL t _ _).symm,rfl,by simp,h⟩;simp only[hc,den,CT.tv,TV.av,pv]
  ·cases h
 ·have⟨dv,u,ab,h1,h2,h3,h4,h5⟩:=XM h;exact⟨.none,[],[],dv,_,ab,h1,h2,h3,h4,by simp,h5⟩
 ·have⟨dv,u,ab,h1,h2,h3,h4,h5⟩:=ab9 h;exact⟨.none,[],[],dv,_,ab,h1,h2,h3,h4,by simp,h5⟩
 ·rename_i t parts;have⟨dv,ab,h1,h2,h3,h4,h5⟩:=XL h;refine⟨.none,[],[],dv,[],ab,?_,h2,h3,h4,by simp,h5⟩;rw[map_map]at h1;exact h1
 ·rename_i t len parts;have⟨dv,u,ab,h1,h2,h3,h4,h5⟩:=JM h;refine⟨.none,[],[],dv,_,ab,?_,h2,h3,h4,by simp,h5⟩;rw[map_map]at h1;exact h1
 ·have⟨co,rd,dv,ab,h1,h2,h3,h4,h5⟩:=aeM h;exact⟨co,rd,[],dv,[],ab,h1,h2,h3,h4,by simp,h5⟩
 ·have⟨co,kk,u,ab,h1,h2,h3,h4,h5⟩:=aeO h;exact⟨co,[kk],[kk],.undef,_,ab,h1,h2,h3,h4,by simp,h5⟩
 ·have⟨dv,ab,h1,h2,h3,h4,h5⟩:=ab7 h;exact⟨.none,[],[],dv,[],ab,h1,h2,h3,h4,by simp,h5⟩
 ·have⟨dv,ab,h1,h2,h3,h4,h5⟩:=aeP h;exact⟨.none,[],[],dv,[],ab,h1,h2,h3,h4,by simp,h5⟩
 ·rename_i f first caps
  refine⟨.none,[],[],_,[],⟨.fn f (first.toList.map λx=>den (ρ x)) (caps.toList.map λx=>den (ρ x)),[],[]⟩,rfl,trivial,?_,rfl,by simp,h⟩;simp only[den,Qf]
 ·rename_i t x lo hi;have⟨co,rd,dv,ab,h1,h2,h3,h4,h5⟩:=XO h;refine⟨co,rd,[],dv,[],ab,?_,h2,h3,h4,by simp,h5⟩;simp only[Option.map_map]at h1;exact h1
 ·have⟨dv,ab,h1,h2,h3,h4,h5⟩:=Ma h;exact⟨.none,[],[],dv,[],ab,h1,h2,h3,h4,by simp,h5⟩
 ·have⟨dv,ab,h1,h2,h3,h4,h5⟩:=XJ h;exact⟨.none,[],[],dv,[],ab,h1,h2,h3,h4,by simp,h5⟩
 ·have⟨co,rd,dv,ab,h1,h2,h3,h4,h5⟩:=Mc h;exact⟨co,rd,[],dv,[],ab,h1,h2,h3,h4,by simp,h5⟩
 ·have⟨dv,ab,h1,h2,h3,h4,h5⟩:=Rq h;exact⟨.none,[],[],dv,[],ab,h1,h2,h3,h4,by simp,h5⟩
 ·rename_i b args cW;have⟨co,rd,wr,dv,upd,ab,h1,h2⟩:=Rt h;refine⟨co,rd,wr,dv,upd,ab,?_,h2⟩;simp only[Qf];exact h1
 ·cases h
end
inductive Pt(ι:Type) where
 |v (c:CT ι)
 |o (k:Nat)
 |p (k:Nat)
 |nil
 |f (F:FuncId) (fs cs:List (Pt ι))
 |od (k:Nat)
 |mp (k:Nat)
 |oz (k:Nat)
 |a (ps:List (Pt ι))
inductive OP(ι:Type) where
 |l (c:CT ι)
 |m (k v:CT ι)
 |c (sz:Nat) (rows:List (List (Pt ι)))
section
variable {ι:Type}
mutual
def Pt.vars:Pt ι->List (CT ι)
 | .v c=>[c]
 | .a ps=>cI ps
 | .f _ fs cs=>cI fs++cI cs
 | .od _=>[.int .i64]
 |_=>[]
def cI:List (Pt ι)->List (CT ι)
 |[]=>[]
 |p::ps=>p.vars++cI ps
end
def gh:List (Nat×Pt ι)->List (CT ι)
 |[]=>[]
 |p::ps=>p.2.vars++gh ps
def tX:List (List (Pt ι))->List (CT ι)
 |[]=>[]
 |r::rs=>cI r++tX rs
def cx:List (Nat×OP ι)->List (CT ι)
 |[]=>[]
 |(_,.l c)::r=> .sl c::cx r
 |(_,.m k v)::r=> .mp k v::cx r
 |(_,.c _ rows)::r=>tX rows++cx r
end
section
variable {X:SX}
structure DC(X:SX) where
 c:CT X.ι
 x:CT.T X.toSE c
@[reducible] def VT:List (CT X.ι)->Type
 |[]=>Unit
 |[c]=>CT.T X.toSE c
 |c::c'::l=>CT.T X.toSE c×VT (c'::l)
def UY:(l:List (CT X.ι))->List (DC X)->Option (VT (X:=X) l)
 |[],[]=>some ()
 |[c],[d]=>iX d.c c d.x
 |c::c'::l,d::ds=>(iX d.c c d.x).bind λx=>(UY (c'::l) ds).bind λv=>some (x,v)
 |_,_=>none
def tY:(l:List (CT X.ι))->VT (X:=X) l->List (DC X)
 |[],_=>[]
 |[c],x=>[⟨c,x⟩]
 |c::c'::l,v=>⟨c,v.1⟩::tY (c'::l) v.2
theorem Zx{d:DC X}{c:CT X.ι}{x:CT.T X.toSE c}(h:iX d.c c d.x=some x):(⟨c,x⟩:DC X)=d:=by
 obtain⟨a,y⟩:=d;have⟨e,h⟩:=qc h;simp only at e;subst e;subst h;rfl
theorem Ru:∀{l:List (CT X.ι)}{ds:List (DC X)}{v:VT (X:=X) l},UY l ds=some v->tY l v=ds
 |[],[],_,_=>rfl
 |[c],[d],v,h=>by simp only[UY]at h;simp only[tY,Zx h]
 |c::c'::l,d::ds,v,h=>by
  simp only[UY]at h;rw[ah]at h;obtain⟨x,h1,h⟩:=h;rw[ah]at h;obtain⟨v',h2,h⟩:=h;cases h;simp only[tY,Zx h1,Ru h2]
 |[],_::_,_,h=>by simp[UY]at h
 |[_],[],_,h=>by simp[UY]at h
 |[_],_::_::_,_,h=>by simp[UY]at h
 |_::_::_,[],_,h=>by simp[UY]at h
theorem Rv{c:CT X.ι}(x:CT.T X.toSE c):iX c c x=some x:=by
 unfold iX;split
 ·rfl
 ·rename_i h _;exact absurd rfl h
def Wi(d:DC X):Nat:=match iX d.c (.int .i64) d.x with |some x=>Int.toNat x |none=>0
section
variable (df:Nat->Nat)
mutual
def eP:Pt X.ι->List (DC X)->DV X×List (DC X)
 | .v _,L=>match L with
  |d::r=>(.c d.c d.x,r)
  |[]=>(.undef,[])
 | .o k,L=>(.own k 0 (df k),L)
 | .p k,L=>(.ptr k 0 0,L)
 | .mp k,L=>(.mp k,L)
 | .oz k,L=>(.oz k (df k),L)
 | .nil,L=>(.nil,L)
 | .f F fs cs,L=>(.fn F (kw fs L).1 (kw cs (kw fs L).2).1,(kw cs (kw fs L).2).2)
 | .od k,L=>match L with
  |d::r=>(.own k (Wi d) (df k -Wi d),r)
  |[]=>(.undef,[])
 | .a ps,L=>(.agg (kw ps L).1,(kw ps L).2)
def kw:List (Pt X.ι)->List (DC X)->List (DV X)×List (DC X)
 |[],L=>([],L)
 |p::ps,L=>((eP p L).1::(kw ps (eP p L).2).1,(kw ps (eP p L).2).2)
end
def IB:List (Nat×Pt X.ι)->List (DC X)->List (Nat×DV X)
 |[],_=>[]
 |(t,p)::r,L=>(t,(eP df p L).1)::IB r (eP df p L).2
def tZ:List (List (Pt X.ι))->List (DC X)->List (List (DV X))×List (DC X)
 |[],L=>([],L)
 |r::rs,L=>((kw df r L).1::(tZ rs (kw df r L).2).1,(tZ rs (kw df r L).2).2)
def bT:List (Nat×OP X.ι)->List (DC X)->List (Nat×Option (bp X))
 |[],_=>[]
 |(k,.l _)::r,L=>match L with
  |⟨.sl c',x⟩::L=>(k,some (.dp c' x))::bT r L
  |_=>[]
 |(k,.m _ _)::r,L=>match L with
  |⟨.mp kc vc,x⟩::L=>(k,some (.map kc vc x))::bT r L
  |_=>[]
 |(k,.c sz rows)::r,L=>(k,some (.cells sz (tZ df rows L).1))::bT r (tZ df rows L).2
end
def lens:List (Nat×OP X.ι)->List (DC X)->List (Nat×Nat)
 |[],_=>[]
 |(k,.l _)::r,L=>match L with
  |⟨.sl _,x⟩::L=>(k,List.length x)::lens r L
  |_=>[]
 |(_,.m _ _)::r,L=>lens r (L.drop 1)
 |(_,.c _ rows)::r,L=>lens r (L.drop (tX rows).length)
def kx:Nat->List (Pt X.ι)->List (Nat×Pt X.ι)
 |_,[]=>[]
 |n,p::ps=>(n,p)::kx (n+1) ps
theorem Me:∀(n:Nat)(ps:List (Pt X.ι)),gh (kx n ps)=cI ps
 |_,[]=>rfl
 |n,p::ps=>by simp only[kx,gh,cI,Me (n+1) ps]
structure cN(X:SX) where
 ox:List (Pt X.ι)
 ie:List (Nat×OP X.ι)
 fc:List (Pt X.ι)
 ia:List (Nat×OP X.ι)
 fn:VT (X:=X) (cI ox++cx ie)->Option (VT (X:=X) (gh (kx 0 fc)++cx ia))
def BG(O:List (Nat×OP X.ι))(L:List (DC X))(k:Nat):Nat:=(lk (lens O L) k).getD 0
def Rw(ps:List (Pt X.ι))(O:List (Nat×OP X.ι))(L:List (DC X)):List (DV X):=(kw (BG O (L.drop (cI ps).length)) ps (L.take (cI ps).length)).1
def Zy(ps:List (Pt X.ι))(O:List (Nat×OP X.ι))(L:List (DC X)):List (Nat×Option (bp X)):=bT (BG O (L.drop (cI ps).length)) O (L.drop (cI ps).length)
def wz:List (DV X)->DV X
 |[d]=>d
 |ds=> .eE ds
def cu:List (Nat×Option (bp X))->List (Nat×bp X)
 |[]=>[]
 |(k,some o)::r=>(k,o)::cu r
 |(_,none)::r=>cu r
def qO(l:List (Nat×bp X)):List (Nat×aS):=l.map λp=>(p.1,bC p.2)
def cN.args(g:cN X)(v:VT (X:=X) (cI g.ox++cx g.ie)):List (DV X):=Rw g.ox g.ie (tY _ v)
def cN.cE(g:cN X)(v:VT (X:=X) (cI g.ox++cx g.ie)):List (Nat×bp X):=cu (Zy g.ox g.ie (tY _ v))
def cN.res(g:cN X)(r:VT (X:=X) (gh (kx 0 g.fc)++cx g.ia)):DV X:=wz (Rw g.fc g.ia (tY _ r))
def cN.outs(g:cN X)(r:VT (X:=X) (gh (kx 0 g.fc)++cx g.ia)):List (Nat×bp X):=cu (Zy g.fc g.ia (tY _ r))
def FS(P:Program)(f:FuncId)(g:cN X):Prop:=∀v r,g.fn v=some r->AM P f (bG (g.args v)) ((g.cE v).map λp=>bC p.2) (qO (g.outs r)) (den (g.res r))
end
inductive AT(ι:Type) where
 |d (c:CT ι)
 |ref (c:CT ι)
 |du (as:List (CT ι)) (r:CT ι)
 |mut (c:CT ι)
 |iu (c:CT ι)
 |nil
 deriving DecidableEq
def AT.im{ι:Type}:AT ι->Bool
 | .mut _ | .iu _=>true
 |_=>false
def AT.pl{ι:Type}:AT ι->Bool
 | .mut _ | .iu _ | .nil=>false
 |_=>true
inductive RT(ι:Type) where
 |d (c:CT ι)
 |fresh (e:CT ι)
 |whole (j:Nat)
 |mu (c:CT ι)
 |mr (c:CT ι)
 |mv
def RT.out{ι:Type}:RT ι->Bool
 | .mu _ | .mr _ | .mv=>true
 |_=>false
section
variable (X:SX)
@[reducible] def AT.T:AT X.ι->Type
 | .d c=>CT.T X.toSE c
 | .ref c=>CT.T X.toSE c
 | .du as r=>HL X.toSE as->Option (CT.T X.toSE r)
 | .mut c=>List (CT.T X.toSE c)
 | .iu c=>CT.T X.toSE c
 | .nil=>Unit
@[reducible] def RT.T:RT X.ι->Type
 | .d c=>CT.T X.toSE c
 | .fresh e=>List (CT.T X.toSE e)
 | .whole _=>Unit
 | .mu c=>List (CT.T X.toSE c)
 | .mr c=>CT.T X.toSE c
 | .mv=>Unit
@[reducible] def iw:List (AT X.ι)->Type
 |[]=>Unit
 |a::l=>AT.T X a×iw l
@[reducible] def qJ:List (RT X.ι)->Type
 |[]=>Unit
 |[r]=>RT.T X r
 |r::r'::l=>RT.T X r×qJ (r'::l)
structure ca where
 args:List (AT X.ι)
 res:List (RT X.ι)
 fn:iw X args->Option (qJ X res)
 gen:Option (cN X):=none
variable {X}
def dh:Nat->(l:List (AT X.ι))->iw X l->List AV
 |_,[],_=>[]
 |n,.d c::l,a=>(CT.tv X.toSE c a.1).av::dh n l a.2
 |n,.ref c::l,a=> .ef (CT.row X.toSE c a.1) 0::dh n l a.2
 |n,.du as r::l,a=>den (.du as r a.1:DV X)::dh n l a.2
 |n,.mut _::l,a=> .own n 0 (List.length a.1)::dh (n+1) l a.2
 |n,.iu _::l,a=> .ptr n 0 0::dh (n+1) l a.2
 |n,.nil::l,a=> .cL::dh n l a.2
abbrev wB(l:List (AT X.ι))(a:iw X l):List AV:=dh 0 l a
def qd(c:CT X.ι)(l:List (CT.T X.toSE c)):dY:=(CT.sz X c,l.map (CT.row X.toSE c))
def oN:(l:List (AT X.ι))->iw X l->List dY
 |[],_=>[]
 | .mut c::l,a=>qd c a.1::oN l a.2
 | .iu c::l,a=>qd c [a.1]::oN l a.2
 | .d _::l,a=>oN l a.2
 | .ref _::l,a=>oN l a.2
 | .du _ _::l,a=>oN l a.2
 | .nil::l,a=>oN l a.2
def oO:(r:RT X.ι)->RT.T X r->List (Option dY)
 | .mu c,x=>[some (qd c x)]
 | .mr c,x=>[some (qd c [x])]
 | .mv,_=>[none]
 |_,_=>[]
def mK:(l:List (RT X.ι))->qJ X l->List (Option dY)
 |[],_=>[]
 |[r],x=>oO r x
 |r::r'::l,x=>oO r x.1++mK (r'::l) x.2
def UZ:(r:RT X.ι)->RT.T X r->List Nat
 | .mu _,x=>[List.length x]
 | .mr _,_=>[1]
 | .mv,_=>[0]
 |_,_=>[]
def XP:(l:List (RT X.ι))->qJ X l->List Nat
 |[],_=>[]
 |[r],x=>UZ r x
 |r::r'::l,x=>UZ r x.1++XP (r'::l) x.2
def Rx(ns:List Nat):(r:RT X.ι)->RT.T X r->List RC
 | .d c,x=>[.d (CT.tv X.toSE c x)]
 | .fresh e,l=>[.fresh (CT.sz X e) (l.map (CT.row X.toSE e))]
 | .whole j,_=>[.whole j (ns.getD j 0)]
 |_,_=>[]
def za(ns:List Nat):(l:List (RT X.ι))->qJ X l->List RC
 |[],_=>[]
 |[r],x=>Rx ns r x
 |r::r'::l,x=>Rx ns r x.1++za ns (r'::l) x.2
def qP(l:List (RT X.ι))(x:qJ X l):RV:=
 match za (XP l x) l x with
 |[c]=> .one c
 |cs=> .eE cs
def qu(P:Program)(Γ:FuncId->Option (ca X)):Prop:=
 ∀f s,Γ f=some s->eT P f/\(∀ a r,s.fn a=some r->py P f (wB s.args a) (oN s.args a) (mK s.res r) (qP s.res r))/\∀g,s.gen=some g->FS P f g
theorem ajZ:∀{l:List (AT X.ι)},(l.all λq=>q.pl)=true->(l.all λq=>!q.im)=true:=λ{l} h=>by
 rw[all_eq_true]at h ⊢;intro q hq;have:=h q hq;cases q<;>simp_all [AT.pl,AT.im]
theorem wC:∀{l:List (AT X.ι)}{a:iw X l},(l.all λq=>!q.im)=true->oN l a=[]
 |[],_,_=>rfl
 | .d _::l,a,h=>wC (l:=l) (by simpa[AT.im]using h)
 | .ref _::l,a,h=>wC (l:=l) (by simpa[AT.im]using h)
 | .du _ _::l,a,h=>wC (l:=l) (by simpa[AT.im]using h)
 | .mut _::l,a,h=>by simp[AT.im]at h
 | .iu _::l,a,h=>by simp[AT.im]at h
 | .nil::l,a,h=>wC (l:=l) (by simpa[AT.im]using h)
theorem Zz{r:RT X.ι}{x:RT.T X r}(h:(!r.out)=true):oO r x=[]:=by cases r<;>first |rfl |simp[RT.out]at h
theorem ZA:∀{l:List (RT X.ι)}{x:qJ X l},(l.all λq=>!q.out)=true->mK l x=[]
 |[],_,_=>rfl
 |[r],x,h=>Zz (by simpa using h)
 |r::r'::l,x,h=>by
  simp only[all_cons,aJ]at h;simp only[mK,Zz h.1,bK];exact ZA (l:=r'::l) (by simp only[all_cons,aJ];exact h.2)
mutual
def bo:DV X->List Nat
 | .own k _ _=>[k]
 | .ptr k _ _=>[k]
 | .oB k _ _=>[k]
 | .rL k _ _ _ _=>[k]
 | .mp k=>[k]
 | .oz k _=>[k]
 | .agg cs=>aQ cs
 | .eE cs=>aQ cs
 | .fn _ first caps=>aQ first++aQ caps
 |_=>[]
def aQ:List (DV X)->List Nat
 |[]=>[]
 |x::xs=>bo x++aQ xs
end
theorem xZ(c:CT X.ι)(x:CT.T X.toSE c):refs (CT.tv X.toSE c x).av=[]:=by
 cases c<;>try rfl
 rename_i i;show dU ((X.row i x).map AV.t)=[];generalize X.row i x=l
 induction l with
 |nil=>rfl
 |cons y ys ih=>simp only[aF,dU,refs,ih,bK]
mutual
theorem ic:∀x:DV X,refs (den x)=bo x
 | .c t x=>xZ t x
 | .agg cs=>by simp only[den,refs,bo,gI cs]
 | .eE cs=>by simp only[den,refs,bo,gI cs]
 | .own _ _ _=>rfl
 | .ptr _ _ _=>rfl
 | .oB _ _ _=>rfl
 | .mp _=>rfl
 | .oz _ _=>rfl
 | .rL _ _ _ _ _=>rfl
 | .rp _ _ _=>rfl
 | .tP _ _ _ _ _=>rfl
 | .fn f first caps=>by simp only[den,refs,bo,gI first,gI caps]
 | .du _ _ _=>rfl
 | .raw v=>by
  simp only[den,bo,cv];split
  ·rfl
  ·split<;>rfl
 | .nil=>rfl
 | .ub=>rfl
 | .skip=>rfl
 | .undef=>rfl
theorem gI:∀l:List (DV X),dU (bG l)=aQ l
 |[]=>rfl
 |x::xs=>by simp only[bG,dU,aQ,ic x,gI xs]
end
def NZ(get:Nat->Option (bp X))(d:DV X)(c:CT X.ι):Option (CT.T X.toSE c×List Bool):=
 match d,c with
 | .own kk aa len,.sl e=>(get kk).bind λo=>match o with
  | .dp b l=>(iX (.sl b) (.sl e) l).bind λ(l:List (CT.T X.toSE e))=>some (sub l aa len,[bj (sub l aa len).length len])
  |_=>none
 | .own kk aa len,.any=>(get kk).bind λo=>match o with
  | .dp b l=>some (.sl (List.map (CT.row X.toSE b) (sub l aa len)),[bj (sub l aa len).length len])
  |_=>none
 | .oz kk len,.sl e=>(get kk).bind λo=>match o with
  | .dp b l=>(iX (.sl b) (.sl e) l).bind λ(l:List (CT.T X.toSE e))=>some (sub l 0 len,[bj (sub l 0 len).length len])
  |_=>none
 |d,c=>(GN d c).bind λx=>some (x,[])
def uM(get:Nat->Option (bp X)):List (DV X)->(l:List (CT X.ι))->Option (HL X.toSE l×List Bool)
 |[],[]=>some ((),[])
 |d::ds,c::l=>(NZ get d c).bind λx=>(uM get ds l).bind λh=>some ((x.1,h.1),x.2++h.2)
 |_,_=>none
def Wj(get:Nat->Option (bp X))(d:DV X)(i:X.ι):Option (CT.T X.toSE (.st i)×List Bool):=
 match d with
 | .agg cs=>(uM get cs (X.cW i)).bind λh=>some (X.make i h.1,h.2)
 | .c a x=>(iX a (.st i) x).bind λx=>some (x,[])
 |_=>none
def Da(get:Nat->Option (bp X))(d:DV X)(c:CT X.ι):Option (CT.T X.toSE c×List Bool):=
 match c with
 | .st i=>Wj get d i
 |c=>NZ get d c
def N6(get:Nat->Option (bp X))(d:DV X)(c:CT X.ι):Option (CT.T X.toSE c):=
 match d with
 | .ptr kk row 0=>(get kk).bind λo=>match o with
  | .cells _ rows=>(rows[row]?).bind λq=>if q.all (λ x=>match x with | .c _ _=>true |_=>false)then Ib c q else none
  |_=>none
 | .rp a x 0=>iX a c x
 |_=>none
def s7:(l l':List (AT X.ι))->iw X l->iw X l'->iw X (l++l')
 |[],_,_,b=>b
 |_::l,l',a,b=>(a.1,s7 l l' a.2 b)
def hlA:(as:List (CT X.ι))->HL X.toSE as->iw X (as.map AT.d)
 |[],_=>()
 |_::l,h=>(h.1,hlA l h.2)
def oP:List (AT X.ι)->Nat
 |[]=>0
 |q::l=>(if q.im then 1 else 0)+oP l
theorem kD:∀(n:Nat)(l l':List (AT X.ι))(a:iw X l)(b:iw X l'),dh n (l++l') (s7 l l' a b)=dh n l a++dh (n+oP l) l' b
 |n,[],_,_,_=>rfl
 |n,.d c::l,l',a,b=>by simp[dh,s7,kD n l l' a.2 b,oP,AT.im]
 |n,.ref c::l,l',a,b=>by simp[dh,s7,kD n l l' a.2 b,oP,AT.im]
 |n,.du as r::l,l',a,b=>by simp[dh,s7,kD n l l' a.2 b,oP,AT.im]
 |n,.mut c::l,l',a,b=>by simp[dh,s7,kD (n+1) l l' a.2 b,oP,AT.im,Nat.add_assoc]
 |n,.iu c::l,l',a,b=>by simp[dh,s7,kD (n+1) l l' a.2 b,oP,AT.im,Nat.add_assoc]
 |n,.nil::l,l',a,b=>by simp[dh,s7,kD n l l' a.2 b,oP,AT.im]
theorem Mf:∀(n:Nat)(as:List (CT X.ι))(h:HL X.toSE as),dh n (as.map AT.d) (hlA as h)=(HL.l4 X.toSE as h).map TV.av
 |_,[],_=>rfl
 |n,c::l,h=>congrArg ((CT.tv X.toSE c h.1).av:: ·) (Mf n l h.2)
def T6{a b:CT X.ι}(h:a=b)(o:Option (CT.T X.toSE a)):Option (CT.T X.toSE b):=h ▸ o
def jL(get:Nat->Option (bp X))(nF:FuncId->List (DV X)->List (DV X)->(as:List (CT X.ι))->(r:CT X.ι)->Option ((HL X.toSE as->Option (CT.T X.toSE r))×List Bool)):List (DV X)->(l:List (AT X.ι))->Option (iw X l×List Bool)
 |[],[]=>some ((),[])
 |d::ds,.d c::l=>(Da get d c).bind λx=>(jL get nF ds l).bind λh=>some ((x.1,h.1),x.2++h.2)
 |d::ds,.ref c::l=>(N6 get d c).bind λx=>(jL get nF ds l).bind λh=>some ((x,h.1),h.2)
 |d::ds,.du as r::l=>(match d with
  | .du as' r' φ=>if h:as'=as/\r'=r then some (λ x=>T6 h.2 (φ (h.1 ▸ x)),[])else none
  | .fn f first caps=>nF f first caps as r
  |_=>none).bind λφ=>(jL get nF ds l).bind λq=>some ((φ.1,q.1),φ.2++q.2)
 |_,_=>none
def N7(Γ:FuncId->Option (ca X))(get:Nat->Option (bp X)):Nat->List (DV X)->(l:List (AT X.ι))->Option (iw X l×List Bool)
 | 0,ds,l=>jL get (λ _ _ _ _ _=>none) ds l
 |n+1,ds,l=>jL get (λ f first caps as r=>(Γ f).bind λs=>match s with
   |⟨sa,[.d r'],fn,_⟩=>
    if h:r'=r/\sa=sa.take first.length++(as.map AT.d++sa.drop (first.length+as.length))/\first.length=0 then
     (N7 Γ get n first (sa.take first.length)).bind λhf=>(N7 Γ get n caps (sa.drop (first.length+as.length))).bind λhc=>
      some (λ x=>T6 h.1 (fn (h.2.1 ▸ s7 _ _ hf.1 (s7 _ _ (hlA as x) hc.1))),hf.2++hc.2)
    else none
   |_=>none) ds l
section
variable {P:Program} {Γ:FuncId->Option (ca X)} {get:Nat->Option (bp X)} {rd:List Nat}
theorem gu{a b:List Prop}(h:∀p∈a,p)(h':∀p∈b,p):∀p∈a++b,p:=by grind
theorem EK{d:DV X}{c:CT X.ι}{x:CT.T X.toSE c×List Bool}(h:NZ get d c=some x)(hc:∀b∈x.2,b=true)(hrd:∀j∈bo d,j∈rd):∃hs obs,(∀ p∈obs,p)/\∀ag,mI P (dw rd (eU get)) (den d) (hs++ag)=some ((CT.tv X.toSE c x.1).av,ag,obs):=by
 have base:∀{d:DV X}{c:CT X.ι}{x:CT.T X.toSE c},GN d c=some x->∃hs obs,(∀ p∈obs,p)/\∀ag,mI P (dw rd (eU get)) (den d) (hs++ag)=some ((CT.tv X.toSE c x).av,ag,obs):=by
  intro d c x h;unfold GN at h;split at h
  ·rw[(mY h).1];refine⟨[],[],by simp,λag=>?_⟩;simp only[bK,den];cases c<;>try rfl
   rename_i j;show mI P _ (.agg ((X.row j x).map AV.t)) ag=_;have:∀(l:List Tree) (hs:List LH),lF P (dw rd (eU get)) (l.map AV.t) hs=some (l.map AV.t,hs,[]):=by
    intro l
    induction l with
    |nil=>intro hs;rfl
    |cons y ys ih=>intro hs;simp only[aF,lF,mI,af,ih,bK]
   simp only[mI,this,af];rfl
  ·cases h;exact⟨[.emp],[],by simp,λag=>rfl⟩
  ·cases h;exact⟨[.emp],[],by simp,λag=>rfl⟩
  ·cases h
 unfold NZ at h;split at h
 ·rename_i kk aa len e;rw[ah]at h;obtain⟨o,h1,h⟩:=h;split at h
  ·rename_i b l0;rw[ah]at h;obtain⟨l,h2,h⟩:=h;cases h;have h3:(sub l aa len).length=len:=(by simpa[bj]using hc (bj (sub l aa len).length len) (by simp));have⟨h4,h5⟩:=iL h2;refine⟨[.rows ((sub l aa len).map (CT.row X.toSE e))],[(((bC (.dp b l0):aS).rows.drop aa).take len=aG ((sub l aa len).map (CT.row X.toSE e))/\((sub l aa len).map (CT.row X.toSE e)).length=len)],?_,λag=>?_⟩
   ·intro p hp;simp only[aT]at hp;subst hp;refine⟨?_,by simpa using h3⟩;simp only[bC,h5];simp[aG,sub,map_take]
   ·simp only[cons_append,bK,den,mI,dP (hrd kk (by simp[bo])) h1,af];rfl
  ·cases h
 ·rename_i kk aa len;rw[ah]at h;obtain⟨o,h1,h⟩:=h;split at h
  ·rename_i b l0;cases h;have h3:(sub l0 aa len).length=len:=(by simpa[bj]using hc (bj (sub l0 aa len).length len) (by simp));refine⟨[.rows ((sub l0 aa len).map (CT.row X.toSE b))],[(((bC (.dp b l0):aS).rows.drop aa).take len=aG ((sub l0 aa len).map (CT.row X.toSE b))/\((sub l0 aa len).map (CT.row X.toSE b)).length=len)],?_,λag=>?_⟩
   ·intro p hp;simp only[aT]at hp;subst hp;refine⟨?_,by simpa using h3⟩;simp only[bC];simp[aG,sub,map_take,map_drop]
   ·simp only[cons_append,bK,den,mI,dP (hrd kk (by simp[bo])) h1,af];rfl
  ·cases h
 ·rename_i kk len e;rw[ah]at h;obtain⟨o,h1,h⟩:=h;split at h
  ·rename_i b l0;have⟨l,h2,h⟩:=ah.1 h;cases h;have h3:(sub l 0 len).length=len:=(by simpa[bj]using hc (bj (sub l 0 len).length len) (by simp));have⟨h4,h5⟩:=iL h2;refine⟨[.rows ((sub l 0 len).map (CT.row X.toSE e))],[(((bC (.dp b l0):aS).rows.drop 0).take len=aG ((sub l 0 len).map (CT.row X.toSE e))/\((sub l 0 len).map (CT.row X.toSE e)).length=len)],?_,λag=>?_⟩
   ·intro p hp;simp only[aT]at hp;subst hp;refine⟨?_,by simpa using h3⟩;simp only[bC,h5];simp[aG,sub,map_take,map_drop]
   ·simp only[cons_append,bK,den,mI,dP (hrd kk (by simp[bo])) h1,af];rfl
  ·cases h
 ·have⟨y,h1,h⟩:=ah.1 h;cases h;exact base h1
theorem JN:∀{ds:List (DV X)}{l:List (CT X.ι)}{h:HL X.toSE l×List Bool},uM get ds l=some h->(∀ b∈h.2,b=true)->l.all CT.one=true->(∀ j∈aQ ds,j∈rd)->
 ∃hs obs,(∀ p∈obs,p)/\∀ag,lF P (dw rd (eU get)) (bG ds) (hs++ag)=some ((HL.row X.toSE l h.1).map AV.t,ag,obs)
 |[],[],h,_,_,_,_=>⟨[],[],by simp,λag=>rfl⟩
 |d::ds,c::l,h,hr,hc,ha,hrd=>by
  simp only[uM]at hr;have⟨x,h1,hr⟩:=ah.1 hr;have⟨g,h2,hr⟩:=ah.1 hr;cases hr;simp only[all_cons,aJ]at ha;obtain⟨hs1,o1,p1,q1⟩:=EK (P:=P) (rd:=rd) h1 (λ b hb=>hc b (by simp[hb])) (λ j hj=>hrd j (by simp[aQ,hj]));obtain⟨hs2,o2,p2,q2⟩:=JN h2 (λ b hb=>hc b (by simp[hb])) ha.2 (λ j hj=>hrd j (by simp[aQ,hj]));refine⟨hs1++hs2,o1++o2,gu p1 p2,λag=>?_⟩;simp only[bG,lF,aM,q1,af,q2];show _=some ((CT.row X.toSE c x.1++HL.row X.toSE l g.1).map AV.t,ag,o1++o2);rw[map_append,<- XH ha.1 x.1];rfl
 |[],_::_,_,hr,_,_,_=>by simp[uM]at hr
 |_::_,[],_,hr,_,_,_=>by simp[uM]at hr
theorem yc{d:DV X}{c:CT X.ι}{x:CT.T X.toSE c×List Bool}(h:Da get d c=some x)(hc:∀b∈x.2,b=true)(hrd:∀j∈bo d,j∈rd):∃hs obs,(∀ p∈obs,p)/\∀ag,mI P (dw rd (eU get)) (den d) (hs++ag)=some ((CT.tv X.toSE c x.1).av,ag,obs):=by
 cases c
 case st i=>
  replace h:Wj get d i=some x:=h
  cases d
  case agg cs=>
   simp only[Wj]at h;rw[ah]at h;obtain⟨g,h1,h⟩:=h;cases h;obtain⟨hs,obs,p1,q1⟩:=JN (P:=P) (rd:=rd) h1 hc (X.flat i) (λ j hj=>hrd j (by simpa[bo]using hj));refine⟨hs,obs,p1,λag=>?_⟩;simp only[den,mI,q1,af,CT.tv,TV.av];rw[X.fR]
  case c a y=>exact EK (c:= .st i) (x:=x) (by unfold NZ;exact h) hc hrd
  all_goals cases h
 all_goals exact EK h hc hrd
theorem ZB{d:DV X}{c:CT X.ι}{x:CT.T X.toSE c}(h:N6 get d c=some x)(hrd:∀j∈bo d,j∈rd):∃hs obs,(∀ p∈obs,p)/\∀ag,mI P (dw rd (eU get)) (den d) (hs++ag)=some (.ef (CT.row X.toSE c x) 0,ag,obs):=by
 unfold N6 at h;split at h
 ·rename_i kk row;rw[ah]at h;obtain⟨o,h1,h⟩:=h;split at h
  ·rename_i sz rows;rw[ah]at h;obtain⟨q,h2,h⟩:=h;split at h
   ·rename_i hq;refine⟨[.row (CT.row X.toSE c x)],[(bC (.cells sz rows):aS).rows[row]? =some ((CT.row X.toSE c x).map AV.t)],?_,λag=>?_⟩
    ·intro p hp;simp only[aT]at hp;subst hp;simp only[bC,List.getElem?_map,h2,Option.map_some];rw[<- sI h,mJ,map_map];congr 1;refine map_congr_left λy hy=>?_;have:=all_eq_true.1 hq y hy;cases y<;>first |exact(T7 _).symm |simp at this
    ·simp only[cons_append,bK,den,mI,dP (hrd kk (by simp[bo])) h1,af]
   ·cases h
  ·cases h
 ·rename_i a y;refine⟨[],[],by simp,λag=>?_⟩;simp only[den,(mY h).2];rfl
 ·cases h
theorem acd{n:Nat}{l l':List (AT X.ι)}(e:l=l')(b:iw X l):dh n l' (e ▸ b)=dh n l b:=by subst e;rfl
theorem Ai{nF:FuncId->List (DV X)->List (DV X)->(as:List (CT X.ι))->(r:CT X.ι)->Option ((HL X.toSE as->Option (CT.T X.toSE r))×List Bool)}:∀{ds:List (DV X)}{l:List (AT X.ι)}{a:iw X l×List Bool},jL get nF ds l=some a->(l.all λq=>!q.im)=true
 |[],[],_,_=>rfl
 |d::ds,.d c::l,a,h=>by
  simp only[jL]at h;have⟨x,h1,h⟩:=ah.1 h;have⟨q,h2,h⟩:=ah.1 h;simpa[AT.im]using Ai h2
 |d::ds,.ref c::l,a,h=>by
  simp only[jL]at h;have⟨x,h1,h⟩:=ah.1 h;have⟨q,h2,h⟩:=ah.1 h;simpa[AT.im]using Ai h2
 |d::ds,.du as r::l,a,h=>by
  simp only[jL]at h;have⟨x,h1,h⟩:=ah.1 h;have⟨q,h2,h⟩:=ah.1 h;simpa[AT.im]using Ai h2
 |_::_,.mut _::_,_,h=>by simp[jL]at h
 |_::_,.iu _::_,_,h=>by simp[jL]at h
 |_::_,.nil::_,_,h=>by simp[jL]at h
 |[],_::_,_,h=>by simp[jL]at h
 |_::_,[],_,h=>by simp[jL]at h
theorem ZC:∀{n:Nat}{ds:List (DV X)}{l:List (AT X.ι)}{a:iw X l×List Bool},N7 Γ get n ds l=some a->(l.all λq=>!q.im)=true
 | 0,_,_,_,h=>Ai h
 |_+1,_,_,_,h=>Ai h
theorem XQ:∀as:List (CT X.ι),((as.map AT.d).all λq=>!q.im)=true
 |[]=>rfl
 |_::l=>XQ l
def aj0(P:Program)(get:Nat->Option (bp X))(nF:FuncId->List (DV X)->List (DV X)->(as:List (CT X.ι))->(r:CT X.ι)->Option ((HL X.toSE as->Option (CT.T X.toSE r))×List Bool)):Prop:=
 ∀f first caps as r φ rd,nF f first caps as r=some φ->(∀ b∈φ.2,b=true)->(∀ j∈aQ first++aQ caps,j∈rd)->∃hs obs,(∀ p∈obs,p)/\∀ag,mI P (dw rd (eU get)) (.fn f (bG first) (bG caps)) (hs++ag)=some (den (.du as r φ.1:DV X),ag,obs)
theorem qQ{n:Nat}{nF:FuncId->List (DV X)->List (DV X)->(as:List (CT X.ι))->(r:CT X.ι)->Option ((HL X.toSE as->Option (CT.T X.toSE r))×List Bool)}(sB:aj0 P get nF):∀{ds:List (DV X)}{l:List (AT X.ι)}{a:iw X l×List Bool},jL get nF ds l=some a->(∀ b∈a.2,b=true)->(∀ j∈aQ ds,j∈rd)->
 ∃hs obs,(∀ p∈obs,p)/\∀ag,lF P (dw rd (eU get)) (bG ds) (hs++ag)=some (dh n l a.1,ag,obs)
 |[],[],_,_,_,_=>⟨[],[],by simp,λag=>rfl⟩
 |d::ds,.d c::l,a,h,hc,hrd=>by
  simp only[jL]at h;have⟨x,h1,h⟩:=ah.1 h;have⟨q,h2,h⟩:=ah.1 h;cases h;obtain⟨hs1,o1,p1,q1⟩:=yc (P:=P) (rd:=rd) h1 (λ b hb=>hc b (by simp[hb])) (λ j hj=>hrd j (by simp[aQ,hj]));obtain⟨hs2,o2,p2,q2⟩:=qQ (n:=n) sB h2 (λ b hb=>hc b (by simp[hb])) (λ j hj=>hrd j (by simp[aQ,hj]));refine⟨hs1++hs2,o1++o2,gu p1 p2,λag=>?_⟩;simp only[bG,lF,aM,q1,af,q2,dh]
 |d::ds,.ref c::l,a,h,hc,hrd=>by
  simp only[jL]at h;rw[ah]at h;obtain⟨x,h1,h⟩:=h;rw[ah]at h;obtain⟨q,h2,h⟩:=h;cases h;obtain⟨hs1,o1,p1,q1⟩:=ZB (P:=P) (rd:=rd) h1 (λ j hj=>hrd j (by simp[aQ,hj]));obtain⟨hs2,o2,p2,q2⟩:=qQ (n:=n) sB h2 hc (λ j hj=>hrd j (by simp[aQ,hj]));refine⟨hs1++hs2,o1++o2,gu p1 p2,λag=>?_⟩;simp only[bG,lF,aM,q1,af,q2,dh]
 |d::ds,.du as r::l,a,h,hc,hrd=>by
  simp only[jL]at h;rw[ah]at h;obtain⟨φ,h1,h⟩:=h;rw[ah]at h;obtain⟨q,h2,h⟩:=h;cases h;have hd:∃hs obs,(∀ p∈obs,p)/\∀ag,mI P (dw rd (eU get)) (den d) (hs++ag)=some (den (.du as r φ.1:DV X),ag,obs):=by
   cases d
   case du as' r' ψ=>
    simp only at h1;split at h1
    ·rename_i e;obtain⟨rfl,rfl⟩:=e;cases h1;exact⟨[],[],by simp,λag=>rfl⟩
    ·cases h1
   case fn f first caps=>
    obtain⟨hs,obs,g1,g2⟩:=sB f first caps as r φ rd h1 (λ b hb=>hc b (by simp[hb])) (λ j hj=>hrd j (by simp only[aQ,bo,aY]at hj ⊢;exact .inl hj))
    exact⟨hs,obs,g1,λag=>by simp only[den];exact g2 ag⟩
   all_goals simp at h1
  obtain⟨hs1,o1,p1,q1⟩:=hd;obtain⟨hs2,o2,p2,q2⟩:=qQ (n:=n) sB h2 (λ b hb=>hc b (by simp[hb])) (λ j hj=>hrd j (by simp[aQ,hj]));refine⟨hs1++hs2,o1++o2,gu p1 p2,λag=>?_⟩;simp only[bG,lF,aM,q1,af,q2,dh]
 |_::_,.mut _::_,_,h,_,_=>by simp[jL]at h
 |_::_,.iu _::_,_,h,_,_=>by simp[jL]at h
 |_::_,.nil::_,_,h,_,_=>by simp[jL]at h
 |[],_::_,_,h,_,_=>by simp[jL]at h
 |_::_,[],_,h,_,_=>by simp[jL]at h
theorem ace{n:Nat}:∀{l:List (AT X.ι)}(a:iw X l),l=[]->dh n l a=[]
 |_,_,rfl=>rfl
theorem qm(hΓ:qu P Γ):∀(m:Nat){n:Nat}{ds:List (DV X)}{l:List (AT X.ι)}{a:iw X l×List Bool}{rd:List Nat},N7 Γ get m ds l=some a->(∀ b∈a.2,b=true)->(∀ j∈aQ ds,j∈rd)->
 ∃hs obs,(∀ p∈obs,p)/\∀ag,lF P (dw rd (eU get)) (bG ds) (hs++ag)=some (dh n l a.1,ag,obs)
 | 0,n,ds,l,a,rd,h,hcs,hrd=>qQ (λ _ _ _ _ _ _ _ h=>by cases h) h hcs hrd
 |m+1,n,ds,l,a,rd,h,hcs,hrd=>by
  refine qQ (λ f first caps as r φ rd' hc hb C7=>?_) h hcs hrd;rw[ah]at hc;obtain⟨s,h1,hc⟩:=hc;split at hc
  ·rename_i sa r' fn _;split at hc
   ·rename_i e;obtain⟨rfl,e2,e3⟩:=e;have⟨hf,h2,hc⟩:=ah.1 hc;have⟨hcap,h3,hc⟩:=ah.1 hc;injection hc with hc;rw[<- hc]at hb;obtain⟨g1,g2,_⟩:=hΓ f _ h1;obtain⟨hs1,o1,p1,q1⟩:=qm hΓ m h2 (n:=0) (rd:=rd') (λ b hb'=>hb b (by simp[hb'])) (λ j hj=>C7 j (by simp[hj]));obtain⟨hs2,o2,p2,q2⟩:=qm hΓ m h3 (n:=0+oP (sa.take first.length)+oP (as.map AT.d)) (rd:=rd') (λ b hb'=>hb b (by simp[hb'])) (λ j hj=>C7 j (by simp[hj]));refine⟨.du (λ ts u=>∃h x,φ.1 h=some x/\ts=HL.l4 X.toSE as h/\u=CT.tv X.toSE r' x)::(hs1++hs2),o1++(o2++[dh 0 _ hf.1=[]/\eT P f/\∀args r,(∃ h x,φ.1 h=some x/\args=HL.l4 X.toSE as h/\r=CT.tv X.toSE r' x)->rm P f (dh 0 _ hf.1++args.map TV.av++dh (0+oP (sa.take first.length)+oP (as.map AT.d)) _ hcap.1) (.one (.d r))]),?_,λag=>?_⟩
    ·intro p hp;simp only[aY,aT]at hp;rcases hp with hp |hp |hp
     ·exact p1 p hp
     ·exact p2 p hp
     ·subst hp;refine⟨ace _ (by rw[e3];rfl),g1,?_⟩;rintro args r ⟨x,y,hxy,rfl,rfl⟩;rw[<- hc]at hxy;have hxy':fn (e2 ▸ s7 _ _ hf.1 (s7 _ _ (hlA as x) hcap.1))=some y:=hxy;have:=g2 _ _ hxy';have hnm:(sa.all λq=>!q.im)=true:=(by rw[e2,List.all_append,List.all_append,ZC h2,ZC h3,XQ];rfl);rw[wC hnm,wB,acd e2.symm,kD,kD,Mf,<- aM]at this;exact Ra this
    ·simp only[cons_append,aM,mI,q1,af,q2];rfl
   ·cases hc
  ·cases hc
end
end
def N8(s:ByteArray)(n:Int):Option Int:=bif decide (0<=n)then(s[n.toNat]?).map λb=>(b.toNat:Int)else none
def xG(m:Int)(bytes:Nat):Bool:=decide (0<=m)&&decide (m.toNat*bytes<=140737488355328)&&decide (m.toNat<=maxLen)
def oJ{K V:Type}(eq:K->K->Bool)(k:K):List (K×V)->Option V
 |[]=>none
 |p::r=>bif eq k p.1 then some p.2 else oJ eq k r
def IC{K V:Type}(eq:K->K->Bool)(k:K)(v:V):List (K×V)->List (K×V)
 |[]=>[(k,v)]
 |p::r=>bif eq k p.1 then(k,v)::r else p::IC eq k v r
def Q1(a b:Int):Bool:=a==b
def iz(a b:ByteArray):Bool:=a.toList==b.toList
def SO(a b:Bool):Bool:=a==b
section
variable {X:SX} {A:Type}
def JO:(c:CT X.ι)->Option (CT.T X.toSE c->CT.T X.toSE c->Bool)
 | .int _=>some Q1
 | .str=>some iz
 | .bool=>some SO
 |_=>none
def An{ι:Type}:wd->CT ι->Bool
 | .int a,.int b=>decide (a=b)
 | .str,.str=>true
 | .bool,.bool=>true
 |_,_=>false
def T0{ι:Type}:CT ι->Bool
 | .st _=>true
 |_=>false
theorem gQ(a b:List (DV X)):bG (a++b)=bG a++bG b:=by simp[mJ]
theorem qo(a b:List (Nat×Option (bp X))):gW (a++b)=gW a++gW b:=by simp[gW]
def JP(ae:List Nat):List (Nat×Option (bp X)):=ae.map λj=>(j,none)
theorem Aj(ae:List Nat):gW (JP (X:=X) ae)=ae.map λk=>(k,none):=by simp[gW,JP]
theorem Gg{ae:List Nat}{p:Nat×Option (bp X)}(h:p∈JP ae):p.1∈ae:=by
 simp only[JP,mem_map]at h;obtain⟨j,hj,rfl⟩:=h;exact hj
variable (T:ea) (am:TypeId->Option (CT X.ι))
def Pc:DV X->Bool
 | .nil=>true
 |_=>false
def Bs(op:BinOp)(b:DV X)(yes:Bool)(k:KK X A):Option A:=
 match op with
 | .eql=>bif yes then k b [] [] []else k (.c .bool false) [] [] []
 | .neq=>bif yes then k b [] [] []else k (.c .bool true) [] [] []
 |_=>none
def MT(op:BinOp)(t:TypeId)(x:DV X)(k:KK X A):Option A:=
 (T t).bind λti=>match ti.k,x with
 | .slice _,.c (.sl _) l=>Bs op .ub (List.isEmpty l) k
 | .slice _,.own _ _ len=>Bs op .ub (len==0) k
 | .slice _,.oz _ len=>Bs op (.c .bool (op== .eql)) (len==0) k
 | .slice _,.nil=>Bs op (.c .bool (op== .eql)) true k
 |_,_=>none
def T5(s d:TypeId)(x:DV X)(k:KK X A):Option A:=
 (T s).bind λ_=>(T d).bind λdi=>match di.k,x with
 | .int kd,.c (.int _) n=>k (.c (.int kd) (kd.wrap (iN n))) [] [] []
 |_,_=>none
def VV(t:TypeId)(x j:DV X)(k:KK X A):Option A:=
 (T t).bind λti=>match ti.k,x,j with
 | .str,.c .str s,.c (.int _) n=>(N8 s n).bind λb=>k (.c (.int .u8) b) [] [] []
 | .arr m e,.agg cs,.c (.int _) q=>(T e).bind λei=>bif cH q m then(C9 ei.agg ei.size ((cs.drop (q.toNat*ei.size)).take ei.size)).bind λv=>k v [] [] []else none
 |_,_,_=>none
def Wl(t:TypeId)(x:DV X)(lo hi:Option (DV X))(k:KK X A):Option A:=
 (T t).bind λti=>match ti.k,x with
 | .slice e,.nil=>(T e).bind λ_=>(Zr 0 lo).bind λl=>(Zr 0 hi).bind λh=>bif decide (l=0)&&decide (h=0)then k .nil [] [] []else none
 |_,_=>none
def Mg(i:Nat)(b:Builtin)(args:List (DV X))(cW:List TypeId)(get:Nat->Option (bp X))(k:KK X A):Option A:=
 match b,args,cW with
 | .cap,[.nil],[t]=>(T t).bind λti=>match ti.k with
  | .slice _=>k (.c (.int .i64) (0:Int)) [] [] []
  |_=>none
 | .clear,[.own kk aa _],[t]=>(T t).bind λti=>match ti.k with
  | .slice e=>(T e).bind λei=>(get kk).bind λo=>match o with
   | .dp c l=>if CT.sz X c=ei.size then k (.eE []) [(kk,some (.dp c (l.take aa)))] [kk] [kk]else none
   |_=>none
  |_=>none
 | .append,[.nil,.c (.int _) m],[t,u]=>(T t).bind λti=>(T u).bind λui=>match ti.k,ui.k with
  | .slice e,.int _=>(T e).bind λei=>(am e).bind λc=>if CT.sz X c=ei.size/\0<ei.size then(Ib c (ei.zero.map tA)).bind λz=>
   bif xG (iN m) ei.bytes then k (.own (cy i) 0 m.toNat) [(cy i,some (.dp c (List.replicate m.toNat z)))] [] []else none else none
  |_,_=>none
 |_,_,_=>none
def Mh(x:DV X)(k:KK X A):Option A:=
 match x with
 | .ptr kk r f=>k (.ptr kk r f) [] [] []
 | .oB kk n f=>k (.oB kk n f) [] [] []
 | .rL kk r f m n=>k (.rL kk r f m n) [] [] []
 | .rp c y f=>k (.rp c y f) [] [] []
 |_=>none
def N5(i:Nat)(t:TypeId)(l c:DV X)(k:KK X A):Option A:=
 (T t).bind λti=>match ti.k,l,c with
 | .slice e,.c (.int _) n,.c (.int _) m=>(T e).bind λei=>(am e).bind λc=>if CT.sz X c=ei.size/\0<ei.size then(Ib c (ei.zero.map tA)).bind λz=>
  bif decide (iN n<=iN m)&&(decide (0<=iN n)&&xG (iN m) ei.bytes)then k (.own (cy i) 0 n.toNat) [(cy i,some (.dp c (List.replicate n.toNat z)))] [] []else none else none
 |_,_,_=>none
def Ry(i:Nat)(t:TypeId)(k:KK X A):Option A:=
 (T t).bind λti=>match ti.k with
 | .map kt et=>(am kt).bind λkc=>(am et).bind λvc=>k (.mp (cy i)) [(cy i,some (.map kc vc []))] [] []
 |_=>none
def XR(t:TypeId)(x key:DV X)(ok:Bool)(get:Nat->Option (bp X))(k:KK X A):Option A:=
 (T t).bind λti=>match ti.k,x with
 | .map kt et,.mp kk=>(T kt).bind λki=>(T et).bind λei=>(get kk).bind λo=>match o with
  | .map kc vc l=>(JO kc).bind λeq=>(GN key kc).bind λkv=>if An ki.k kc=true/\ei.agg=T0 vc/\ei.size=CT.sz X vc then(Ib vc (ei.zero.map tA)).bind λz=>
   bif ok then k (.eE [.c vc ((oJ eq kv l).getD z),.c .bool (oJ eq kv l).isSome]) [] [kk] []else k (.c vc ((oJ eq kv l).getD z)) [] [kk] []else none
  |_=>none
 |_,_=>none
def XT(t:TypeId)(x key y:DV X)(get:Nat->Option (bp X))(k:KK X A):Option A:=
 (T t).bind λti=>match ti.k,x with
 | .map kt _,.mp kk=>(T kt).bind λki=>(get kk).bind λo=>match o with
  | .map kc vc l=>(JO kc).bind λeq=>(GN key kc).bind λkv=>(dat y vc).bind λv=>if An ki.k kc=true then k .undef [(kk,some (.map kc vc (IC eq kv v l)))] [kk] [kk]else none
  |_=>none
 |_,_=>none
def aj2(o:Op)(ρ:Operand->DV X):Bool:=
 match o with
 | .binOp _ _ _ y _=>Pc (ρ y)
 | .convert _ _ _=>true
 | .index _ _ _=>true
 | .nilCheck _=>true
 | .makeSlice _ _ _=>true
 | .makeMap _ none=>true
 | .lookup _ _ _ _=>true
 | .mapUpdate _ _ _ _=>true
 | .slice _ x _ _ none=>Pc (ρ x)
 | .call { callee:= .builtin b,args:=args,argTypes:=_ }=>match b,args.toList.map ρ with
  | .cap,_=>true
  | .clear,_=>true
  | .append,[_,.c (.int _) _]=>true
  |_,_=>false
 |_=>false
def MM(i:Nat)(o:Op)(ρ:Operand->DV X)(get:Nat->Option (bp X))(k:KK X A):Option A:=
 match o with
 | .binOp op t x y _=>if Pc (ρ y)then MT T op t (ρ x) k else none
 | .convert s d x=>T5 T s d (ρ x) k
 | .index t x j=>VV T t (ρ x) (ρ j) k
 | .slice t x lo hi none=>Wl T t (ρ x) (lo.map ρ) (hi.map ρ) k
 | .nilCheck x=>Mh (ρ x) k
 | .makeSlice t l c=>N5 T am i t (ρ l) (ρ c) k
 | .makeMap t none=>Ry T am i t k
 | .lookup t m x ok=>XR T t (ρ m) (ρ x) ok get k
 | .mapUpdate t m x v=>XT T t (ρ m) (ρ x) (ρ v) get k
 | .call { callee:= .builtin b,args:=args,argTypes:=cW }=>Mg T am i b (args.toList.map ρ) cW.toList get k
 |_=>none
def FG(get:Nat->Option (bp X))(c:CT X.ι)(ρ:Operand->DV X)(x:Operand):DV X:=
 match Da get (ρ x) c with
 |some y=> .c c y.1
 |none=>ρ x
def Hd(get:Nat->Option (bp X))(c:CT X.ι)(ρ:Operand->DV X):List Operand->List Bool
 |[]=>[]
 |x::xs=>(match Da get (ρ x) c with |some y=>y.2 |none=>[])++Hd get c ρ xs
def ZE(get:Nat->Option (bp X))(c:CT X.ι)(ρ:Operand->DV X):List Operand->List Nat
 |[]=>[]
 |x::xs=>(match Da get (ρ x) c with |some _=>bo (ρ x) |none=>[])++ZE get c ρ xs
def aib(o:Op)(ρ:Operand->DV X)(get:Nat->Option (bp X)):Option (CT X.ι):=
 match o with
 | .box t _=>am t
 | .assign x | .move x=>match ρ x with
  | .own kk _ _=>(get kk).bind λo=>match o with
   | .dp c _=>some (.sl c)
   |_=>none
  |_=>none
 | .buildSlice t _ _=>(T t).bind λti=>match ti.k with
  | .slice e=>am e
  |_=>none
 | .store t _ _=>am t
 |_=>none
def aj3(o:Op)(ρ:Operand->DV X):Bool:=
 match o with
 | .buildSlice _ _ parts=>!(aQ (parts.toList.map λp=>ρ p.2)).isEmpty
 | .store _ a x=>match ρ a with
  | .oB _ _ _=>!(bo (ρ x)).isEmpty
  |_=>false
 |_=>false
def MD(i:Nat)(o:Op)(ρ:Operand->DV X)(get:Nat->Option (bp X))(k:KK X A):Option A:=
 if PF o then none else(aib T am o ρ get).bind λc=>Rk (Hd get c ρ o.operands.toList)
  (GT T am i o (FG get c ρ) (λ j=>if j∈ZE get c ρ o.operands.toList then none else get j) λdv upd rd wr=>
   k dv (upd++JP (ZE get c ρ o.operands.toList)) (rd++ZE get c ρ o.operands.toList) (wr++ZE get c ρ o.operands.toList))
def aj4(o:Op)(ρ:Operand->DV X):Bool:=
 match o with
 | .indexAddr t x (.tmp _)=>match ρ x,T t with
  | .ptr _ _ _,some ti | .rp _ _ _,some ti=>match ti.k with
   | .arr _ e=>match T e with
    |some ei=>ei.size==1
    |none=>false
   |_=>false
  |_,_=>false
 | .load _ a=>match ρ a with
  | .rL _ _ _ _ _ | .tP _ _ _ _ _=>true
  |_=>false
 |_=>false
def xH(c:CT X.ι):List (DV X)->Option (List (CT.T X.toSE c))
 |[]=>some []
 | .c a x::r=>(iX a c x).bind λy=>(xH c r).bind λl=>some (y::l)
 |_=>none
def Mz(o:Op)(ρ:Operand->DV X)(get:Nat->Option (bp X))(k:KK X A):Option A:=
 match o with
 | .indexAddr t x j=>(T t).bind λti=>match ti.k,ρ x,ρ j with
  | .arr m e,.ptr kk row aa,.c (.int _) n=>(T e).bind λei=>if ei.size=1 then bif cH n m then k (.rL kk row aa m n) [] [] []else none else none
  | .arr m e,.rp c y aa,.c (.int _) n=>(T e).bind λei=>if ei.size=1 then bif cH n m then k (.tP c y aa m n) [] [] []else none else none
  |_,_,_=>none
 | .load t a=>(T t).bind λti=>match ρ a with
  | .rL kk row aa m n=>if ti.size=1/\ti.agg=false then(am t).bind λc=>if c.one=true then(get kk).bind λo=>match o with
   | .cells _ rows=>(rows[row]?).bind λq=>(xH c ((q.drop aa).take m)).bind λ(xs:List (CT.T X.toSE c))=>(bz xs n).bind λy=>k (.c c y) [] [kk] []
   | .dp _ _=>none
   |_=>none
   else none else none
  | .tP b y aa m n=>if ti.size=1/\ti.agg=false then(am t).bind λc=>if c.one=true then(xH c (((oM b y).drop aa).take m)).bind λ(xs:List (CT.T X.toSE c))=>(bz xs n).bind λy=>k (.c c y) [] [] []
   else none else none
  |_=>none
 |_=>none
variable {T am}
def de(P:Program)(T:ea)(i:Nat)(o:Oper)(ρ:Operand->DV X)(get:Nat->Option (bp X))(k:KK X A)(r:A):Prop:=
 ∃co rd wr dv upd ab,jb P T i o co (λ x=>den (ρ x)) (dw rd (eU get))=some ab/\jJ ab.obs/\ab.v=den dv/\ab.upd=gW upd/\(∀ p∈upd,p.1=cy i\/p.1∈wr)/\k dv upd rd wr=some r
section
variable {P:Program} {get:Nat->Option (bp X)} {k:KK X A} {r:A} {i:Nat} {o:Oper} {ρ:Operand->DV X}
theorem agn{t:TypeId}{x:AV}{co:ij}(h:(∃ n,co= .ext n)\/∃ae fr q,co= .ue ae fr q):Y1 T t x .none=Y1 T t x co:=by
 unfold Y1;cases T t with
 |none=>rfl
 |some ti=>
  simp only[af];generalize ti.k=kk;rcases h with ⟨n,rfl⟩ |⟨ae,fr,q,rfl⟩<;>cases kk<;>try rfl
  all_goals cases x<;>try rfl
  all_goals (rename_i y;cases y<;>try rfl)
  all_goals (rename_i y;cases y<;>rfl)
theorem Rz{t:TypeId}{x j:AV}{co:ij}{get:Nat->Option aS}(h:(∃ n,co= .ext n)\/∃ae fr q,co= .ue ae fr q):kT T t x j .none get=kT T t x j co get:=by
 unfold kT;cases T t with
 |none=>rfl
 |some ti=>
  simp only[af];generalize ti.k=kk;cases kk<;>try rfl
  case arr m e=>
   cases j<;>try rfl
   rename_i y;cases y<;>try rfl
   rename_i y;cases y<;>rfl
  cases j<;>try rfl
  rename_i e y;cases y<;>try rfl
  rename_i y;cases y<;>try rfl
  simp only;cases T e with
  |none=>rfl
  |some ei=>
   simp only[af];rcases h with ⟨n,rfl⟩ |⟨ae,fr,q,rfl⟩<;>cases x<;>try rfl
   all_goals (rename_i z;cases z<;>rfl)
theorem ZF{t:TypeId}{x y:AV}{co:ij}{get:Nat->Option aS}(h:(∃ n,co= .ext n)\/∃ae fr q,co= .ue ae fr q):xS T i t x y .none get=xS T i t x y co get:=by
 unfold xS;rcases h with ⟨n,rfl⟩ |⟨ae,fr,q,rfl⟩<;>rfl
theorem aeR{co:ij}{ρ:Operand->AV}{get:Nat->Option aS}(h:(∃ n,co= .ext n)\/∃ae fr q,co= .ue ae fr q):nK T i o .none ρ get=nK T i o co ρ get:=by
 obtain⟨dst,op,ty,ao,after,guard⟩:=o;cases op
 case call c=>
  obtain⟨callee,args,cW⟩:=c;cases callee<;>try rfl
  rename_i b;simp only[nK,Ad];split
  ·exact agn h
  ·rfl
  ·rfl
  ·rw[ZF h]
  ·rfl
 case slice t x lo hi mx=>cases mx<;>rcases h with ⟨n,rfl⟩ |⟨ae,fr,q,rfl⟩<;>rfl
 case makeFunc fn a b=>cases fn<;>rfl
 case indexAddr t x j=>exact Rz h
 all_goals (rcases h with ⟨n,rfl⟩ |⟨ae,fr,q,rfl⟩<;>rfl)
theorem de.ext{n:Int}{rd wr:List Nat}{dv:DV X}{upd:List (Nat×Option (bp X))}{ab:Out}(h:qM T i o n (λ x=>den (ρ x)) (dw rd (eU get))=some ab)(h1:jJ ab.obs)(h2:ab.v=den dv)(h3:ab.upd=gW upd)(h4:∀p∈upd,p.1=cy i\/p.1∈wr)(h5:k dv upd rd wr=some r)(hx:GB o.op=false:=by rfl):de P T i o ρ get k r:=
 ⟨.ext n,rd,wr,dv,upd,ab,by show qN T i o n _ _=some ab;unfold qN;rw[hx];simp only[ak,h],h1,h2,h3,h4,h5⟩
theorem de.tz{n:Int}{rd wr:List Nat}{dv:DV X}{upd:List (Nat×Option (bp X))}{ab:Out}(h:Bw T i o n (λ x=>den (ρ x)) (dw rd (eU get))=some ab)(h1:jJ ab.obs)(h2:ab.v=den dv)(h3:ab.upd=gW upd)(h4:∀p∈upd,p.1=cy i\/p.1∈wr)(h5:k dv upd rd wr=some r)(hx:GB o.op=true:=by rfl):de P T i o ρ get k r:=
 ⟨.ext n,rd,wr,dv,upd,ab,by show qN T i o n _ _=some ab;unfold qN;rw[hx];simp only[aj,h],h1,h2,h3,h4,h5⟩
theorem OT{x:DV X}(h:Mh x k=some r):∃dv,LQ (den x)=some ⟨den dv,[],[]⟩/\k dv [] [] []=some r:=by cases x<;>simp only[Mh]at h<;>first |cases h |exact⟨_,rfl,h⟩
theorem Wm{co:ij}{ρ:Operand->AV}{get:Nat->Option aS}(hne:∀f args cW,o.op≠ .call { callee:= .value f,args:=args,argTypes:=cW })(ho:∀n,co≠ .ext n)(hf:∀ae fr q,co≠ .ue ae fr q):jb P T i o co ρ get=nK T i o co ρ get:=by
 have e:∀(α:Type) (a:Operand->Array Operand->Array TypeId->α) (b:α),(match o.op with | .call { callee:= .value f,args:=args,argTypes:=cW }=>a f args cW |_=>b)=b:=by
  intro α a b;split
  ·rename_i f args cW heq;exact(hne f args cW heq).elim
  ·rfl
 cases co<;>first |exact(ho _ rfl).elim |exact(hf _ _ _ rfl).elim |exact e _ _ _
theorem de.op{co:ij}{rd wr:List Nat}{dv:DV X}{upd:List (Nat×Option (bp X))}{ab:Out}(hne:∀f args cW,o.op≠ .call { callee:= .value f,args:=args,argTypes:=cW })
 (h:nK T i o co (λ x=>den (ρ x)) (dw rd (eU get))=some ab) (h1:jJ ab.obs/\ab.v=den dv/\ab.upd=gW upd/\(∀ p∈upd,p.1=cy i\/p.1∈wr)/\k dv upd rd wr=some r):de P T i o ρ get k r:=by
 obtain⟨tf,h'⟩:∃tf,jb P T i o tf (λ x=>den (ρ x)) (dw rd (eU get))=some ab:=by
  by_cases hx:(∃ n,co= .ext n)\/∃ae fr q,co= .ue ae fr q
  ·refine⟨.none,?_⟩;rw[Wm hne (by simp) (by simp),aeR hx,h]
  ·simp only[not_or,not_exists]at hx;exact⟨co,by rw[Wm hne hx.1 (λ ae fr q=>hx.2 ae fr q),h]⟩
 exact⟨tf,rd,wr,dv,upd,ab,h',h1⟩
theorem de.call{dst:Option Tmp}{f:Operand}{args:Array Operand}{cW:Array TypeId}{ty:TypeId}{ao:String}{after:Array Edge}{guard:Option (Nat×Bool)}{co:ij}{rd wr:List Nat}{dv:DV X}{upd:List (Nat×Option (bp X))}{ab:Out}
 (h:jK P i (den (ρ f)) (args.toList.map λx=>den (ρ x)) co (dw rd (eU get))=some ab) (h1:jJ ab.obs/\ab.v=den dv/\ab.upd=gW upd/\(∀ p∈upd,p.1=cy i\/p.1∈wr)/\k dv upd rd wr=some r):
 de P T i ⟨dst,.call { callee:= .value f,args:=args,argTypes:=cW },ty,ao,after,guard⟩ ρ get k r:=by
 refine⟨co,rd,wr,dv,upd,ab,?_,h1⟩;unfold jb;split
 ·unfold jK nM uZ at h;simp only at h;split at h<;>first |cases h |(rename_i e;cases e)
 ·unfold jK nM uZ at h;simp only at h;split at h<;>first |cases h |(rename_i e;cases e)
 ·exact h
theorem Gh{op:BinOp}{b:DV X}{yes:Bool}(h:Bs op b yes k=some r):∃dv ab,AF op (den b) yes=some ab/\jJ ab.obs/\ab.v=den dv/\ab.upd=[]/\k dv [] [] []=some r:=by
 unfold Bs at h;split at h
 ·cases yes with
  |true=>exact⟨b,_,rfl,trivial,rfl,rfl,h⟩
  |false=>exact⟨.c .bool false,_,rfl,trivial,rfl,rfl,h⟩
 ·cases yes with
  |true=>exact⟨b,_,rfl,trivial,rfl,rfl,h⟩
  |false=>exact⟨.c .bool true,_,rfl,trivial,rfl,rfl,h⟩
 ·cases h
theorem ach{op:BinOp}{t:TypeId}{x:DV X}(h:MT T op t x k=some r):∃dv ab,Y9 T op t (den x) .cL=some ab/\jJ ab.obs/\ab.v=den dv/\ab.upd=[]/\k dv [] [] []=some r:=by
 unfold MT at h;rw[ah]at h;obtain⟨ti,h1,h⟩:=h;split at h
 ·rename_i e c l hk;have⟨dv,ab,g1,g2⟩:=Gh h;refine⟨dv,ab,?_,g2⟩;simp only[Y9,h1,af,hk,den,CT.tv,TV.av];rw[<- g1];congr 1;cases l<;>rfl
 ·rename_i e kk aa len hk;have⟨dv,ab,g1,g2⟩:=Gh h;exact⟨dv,ab,by simp only[Y9,h1,af,hk,den];exact g1,g2⟩
 ·rename_i e kk len hk;have⟨dv,ab,g1,g2⟩:=Gh h;exact⟨dv,ab,by simp only[Y9,h1,af,hk,den];exact g1,g2⟩
 ·rename_i e hk;have⟨dv,ab,g1,g2⟩:=Gh h;exact⟨dv,ab,by simp only[Y9,h1,af,hk,den];exact g1,g2⟩
 ·cases h
theorem aci{s:ByteArray}{n b:Int}(h:N8 s n=some b):0<=n/\∃c,s[n.toNat]? =some c/\b=c.toNat:=by
 unfold N8 at h;by_cases hn:0<=n
 ·simp only[hn,decide_true,aj,dR]at h;obtain⟨c,h1,h2⟩:=h;exact⟨hn,c,h1,h2.symm⟩
 ·simp[hn]at h
theorem Wn{m:Int}{bytes:Nat}(h:xG m bytes=true):0<=m/\m.toNat*bytes<=140737488355328/\m.toNat<=maxLen:=by simpa[xG,and_assoc]using h
theorem OU{b:Builtin}{args:List (DV X)}{cW:List TypeId}(h:Mg T am i b args cW get k=some r):
 ∃rd wr dv upd ab,sD T i b (bG args) cW (dw rd (eU get))=some ab/\jJ ab.obs/\ab.v=den dv/\ab.upd=gW upd/\(∀ p∈upd,p.1=cy i\/p.1∈wr)/\k dv upd rd wr=some r:=by
 unfold Mg at h;split at h
 ·rename_i t;rw[ah]at h;obtain⟨ti,h1,h⟩:=h;split at h
  ·rename_i e hk;refine⟨[],[],_,[],⟨.t (.sc (.int .i64 0)),[],[]⟩,?_,trivial,rfl,rfl,by simp,h⟩;simp only[sD,bG,den,h1,af,hk];rfl
  ·cases h
 ·rename_i kk aa len t;rw[ah]at h;obtain⟨ti,h1,h⟩:=h;split at h
  ·rename_i e hk;rw[ah]at h;obtain⟨ei,h2,h⟩:=h;rw[ah]at h;obtain⟨o,h3,h⟩:=h;split at h
   ·rename_i c l;split at h
    ·rename_i hs;refine⟨[kk],[kk],_,_,⟨.eE [],[(kk,some ⟨CT.sz X c,(aG (l.map (CT.row X.toSE c))).take aa⟩)],[]⟩,?_,trivial,rfl,?_,by simp,h⟩
     ·simp only[sD,bG,den,h1,af,hk,h2,dP (List.mem_singleton_self kk) h3,bC];rw[bn hs]
     ·simp[gW,bC,aG,map_take]
    ·cases h
   ·cases h
  ·cases h
 ·rename_i kd m t u;rw[ah]at h;obtain⟨ti,h1,h⟩:=h;rw[ah]at h;obtain⟨ui,h2,h⟩:=h;split at h
  ·rename_i e kn hk hk';rw[ah]at h;obtain⟨ei,h3,h⟩:=h;rw[ah]at h;obtain⟨c,h4,h⟩:=h;split at h
   ·rename_i hs;have⟨z,h5,h⟩:=ah.1 h;have⟨h6,h⟩:=dF h;have⟨m1,m2,m3⟩:=Wn h6;have hz:=sI h5;rw[Af]at hz;refine⟨[],[],_,_,⟨.own (cy i) 0 m.toNat,[(cy i,some ⟨ei.size,dM (List.replicate m.toNat (ei.zero.map cv))⟩)],[0<=m/\m.toNat*ei.bytes<=140737488355328/\m.toNat<=maxLen/\0<ei.size]⟩,?_,?_,rfl,?_,by simp,h⟩
    ·simp only[sD,bG,den,CT.tv,TV.av,h1,h2,h3,af,hk,hk']
    ·exact⟨m1,m2,m3,hs.2⟩
    ·simp only[gW,aF,map_nil,Option.map_some,bC,hs.1,aG,dM,List.map_replicate];rw[hz]
   ·cases h
  ·cases h
 ·cases h
theorem ZG{t:TypeId}{l c:DV X}(h:N5 T am i t l c k=some r):∃dv upd ab,Zd T i t (den l) (den c)=some ab/\jJ ab.obs/\ab.v=den dv/\ab.upd=gW upd/\(∀ p∈upd,p.1=cy i)/\k dv upd [] []=some r:=by
 unfold N5 at h;rw[ah]at h;obtain⟨ti,h1,h⟩:=h;split at h
 ·rename_i e kl n kc m hk;rw[ah]at h;obtain⟨ei,h3,h⟩:=h;rw[ah]at h;obtain⟨c,h4,h⟩:=h;split at h
  ·rename_i hs;have⟨z,h5,h⟩:=ah.1 h;have⟨h6,h⟩:=dF h;simp only[aJ,aR]at h6;obtain⟨h7,h8,h9⟩:=h6;have⟨m1,m2,m3⟩:=Wn h9;have hz:=sI h5;rw[Af]at hz;refine⟨_,_,⟨.own (cy i) 0 n.toNat,[(cy i,some ⟨ei.size,dM (List.replicate n.toNat (ei.zero.map cv))⟩)],[0<=n/\n<=m/\m.toNat*ei.bytes<=140737488355328/\m.toNat<=maxLen/\0<ei.size]⟩,?_,?_,rfl,?_,by simp,h⟩
   ·simp only[Zd,den,CT.tv,TV.av,h1,h3,af,hk]
   ·exact⟨h8,h7,m2,m3,hs.2⟩
   ·simp only[gW,aF,map_nil,Option.map_some,bC,hs.1,aG,dM,List.map_replicate];rw[hz]
  ·cases h
 ·cases h
theorem RA{t:TypeId}(h:Ry T am i t k=some r):∃dv upd ab,ED T i t=some ab/\jJ ab.obs/\ab.v=den dv/\ab.upd=gW upd/\(∀ p∈upd,p.1=cy i)/\k dv upd [] []=some r:=by
 unfold Ry at h;rw[ah]at h;obtain⟨ti,h1,h⟩:=h;split at h
 ·rename_i kt et hk;have⟨kc,h2,h⟩:=ah.1 h;have⟨vc,h3,h⟩:=ah.1 h;exact⟨_,_,⟨.mp (cy i),[(cy i,some ⟨0,[]⟩)],[]⟩,by simp only[ED,h1,af,hk],trivial,rfl,rfl,by simp,h⟩
 ·cases h
theorem VM{ki:oc}{kc:CT X.ι}(h:An ki.k kc=true)(x:CT.T X.toSE kc):∃v,(CT.tv X.toSE kc x).av= .t (.sc v)/\Jz ki.k v=true:=by
 cases kc
 case int b=>
  refine⟨.int b x,rfl,?_⟩;cases hk:ki.k<;>rw[hk]at h<;>simp only[An,aR,Bool.false_eq_true]at h;subst h;simp[Jz]
 case str=>
  refine⟨.string x,rfl,?_⟩;cases hk:ki.k<;>rw[hk]at h<;>simp only[An,Bool.false_eq_true]at h;rfl
 case bool=>
  refine⟨.bool x,rfl,?_⟩;cases hk:ki.k<;>rw[hk]at h<;>simp only[An,Bool.false_eq_true]at h;rfl
 all_goals (cases hk:ki.k<;>rw[hk]at h<;>simp[An]at h)
theorem ZH{kc:CT X.ι}{eq:CT.T X.toSE kc->CT.T X.toSE kc->Bool}(h:JO kc=some eq){a b:CT.T X.toSE kc}{va:Value}(ha:(CT.tv X.toSE kc a).av= .t (.sc va)):∃vb,(CT.tv X.toSE kc b).av= .t (.sc vb)/\NJ va vb=some (eq a b):=by
 cases kc
 case int q=>
  simp only[JO,ay]at h;subst h;simp only[CT.tv,TV.av,AV.t.injEq,Tree.sc.injEq]at ha;subst ha;exact⟨_,rfl,by simp[NJ,Q1]⟩
 case str=>
  simp only[JO,ay]at h;subst h;simp only[CT.tv,TV.av,AV.t.injEq,Tree.sc.injEq]at ha;subst ha;exact⟨_,rfl,by simp[NJ,iz]⟩
 case bool=>
  simp only[JO,ay]at h;subst h;simp only[CT.tv,TV.av,AV.t.injEq,Tree.sc.injEq]at ha;subst ha;exact⟨_,rfl,by simp[NJ,SO]⟩
 all_goals simp[JO]at h
theorem Wo{kc vc:CT X.ι}{eq:CT.T X.toSE kc->CT.T X.toSE kc->Bool}(h:JO kc=some eq){a:CT.T X.toSE kc}{va:Value}(ha:(CT.tv X.toSE kc a).av= .t (.sc va)):∀l:List (CT.T X.toSE kc×CT.T X.toSE vc),
 ∃r,NK va (bC (.map kc vc l:bp X)).rows=some r/\r.map (·.2)=(oJ eq a l).map λv=>(CT.tv X.toSE vc v).av
 |[]=>⟨none,rfl,rfl⟩
 |p::l=>by
  have⟨vb,h1,h2⟩:=ZH h (b:=p.1) ha;have⟨r,g1,g2⟩:=Wo h ha l;have g1':NK va (l.map λp=>[(CT.tv X.toSE kc p.1).av,(CT.tv X.toSE vc p.2).av])=some r:=g1;simp only[bC,aF,h1,NK,h2,af,oJ];cases eq a p.1 with
  |true=>exact⟨_,rfl,rfl⟩
  |false=>
   simp only[Bool.false_eq_true,if_false,g1',Option.map_some,ak];exact⟨_,rfl,by rw[<- g2,Option.map_map];rfl⟩
theorem ZI{kc vc:CT X.ι}{eq:CT.T X.toSE kc->CT.T X.toSE kc->Bool}(h:JO kc=some eq){a:CT.T X.toSE kc}{va:Value}(ha:(CT.tv X.toSE kc a).av= .t (.sc va))(y:CT.T X.toSE vc):∀l:List (CT.T X.toSE kc×CT.T X.toSE vc),
 Xv va (CT.tv X.toSE vc y).av (bC (.map kc vc l:bp X)).rows=some (bC (.map kc vc (IC eq a y l):bp X)).rows
 |[]=>by simp only[bC,map_nil,Xv,IC,aF,ha]
 |p::l=>by
  have⟨vb,h1,h2⟩:=ZH h (b:=p.1) ha;have g:=ZI h ha y l;have g':Xv va (CT.tv X.toSE vc y).av (l.map λp=>[(CT.tv X.toSE kc p.1).av,(CT.tv X.toSE vc p.2).av])=some ((IC eq a y l).map λp=>[(CT.tv X.toSE kc p.1).av,(CT.tv X.toSE vc p.2).av]):=g;simp only[bC,aF,h1,Xv,h2,af,IC];cases eq a p.1 with
  |true=>simp only[if_true,aj,aF,ha]
  |false=>simp only[Bool.false_eq_true,if_false,g',Option.map_some,ak,aF,h1]
theorem zero_den{vc:CT X.ι}{ei:oc}{z:CT.T X.toSE vc}(h:Ib vc (ei.zero.map tA)=some z)(ha:ei.agg=T0 vc)(hs:ei.size=CT.sz X vc):part' ei.agg ei.size ((ei.zero.map cv).map wk)=some (CT.tv X.toSE vc z).av:=by
 have hz:=sI h;rw[Af]at hz;rw[hz,ha,hs];have hl:((CT.row X.toSE vc z).map AV.t).length=CT.sz X vc:=by rw[length_map,BD]
 unfold part';rw[bn hl];cases vc<;>rfl
theorem aic{d:DV X}{c:CT X.ι}{x:CT.T X.toSE c}(h:dat d c=some x):AW (den d)=(CT.tv X.toSE c x).av:=by
 cases c
 case st j=>
  replace h:AG d j=some x:=h
  cases d
  case agg cs=>
   simp only[AG]at h;rw[ah]at h;obtain⟨g,h1,h⟩:=h;cases h;simp only[den,AW,(wu h1 (X.flat j)).1];rw[<- Rp];rfl
  case c a y=>
   replace h:iX a (.st j) y=some x:=h
   rw[(mY h).1];simp only[den,CT.tv,TV.av,AW,map_map];congr 1
  all_goals cases h
 all_goals
  (have h':GN d _=some x:=h
   have hd:=tV h';cases d
   case agg=>cases h
   case c a y=>
    obtain⟨e,_⟩:=qc (show iX a _ y=some x from h);subst e;exact hd
   all_goals first |exact hd |(cases h))
theorem U0{t:TypeId}{x key:DV X}{ok:Bool}(h:XR T t x key ok get k=some r):∃rd dv ab,Gd T t (den x) (den key) ok (dw rd (eU get))=some ab/\jJ ab.obs/\ab.v=den dv/\ab.upd=[]/\k dv [] rd []=some r:=by
 unfold XR at h;rw[ah]at h;obtain⟨ti,h1,h⟩:=h;split at h
 ·rename_i kt et kk hk;rw[ah]at h;obtain⟨ki,h2,h⟩:=h;rw[ah]at h;obtain⟨ei,h3,h⟩:=h;rw[ah]at h;obtain⟨o,h4,h⟩:=h;split at h
  ·rename_i kc vc l;rw[ah]at h;obtain⟨eq,h5,h⟩:=h;rw[ah]at h;obtain⟨kv,h6,h⟩:=h;split at h
   ·rename_i hc;have⟨z,h7,h⟩:=ah.1 h;have⟨va,g1,g2⟩:=VM hc.1 kv;have⟨q,g3,g4⟩:=Wo (vc:=vc) h5 g1 l;have hkey:den key= .t (.sc va):=by
     have:=tV h6;rw[g1]at this;cases hd:den key<;>rw[hd]at this<;>simp only[wk,AV.t.injEq,reduceCtorEq]at this;subst this;rfl
    have hv:∀q:Option (Nat×AV),q.map (·.2)=(oJ eq kv l).map (λ v=>(CT.tv X.toSE vc v).av)->CC q (part' ei.agg ei.size ((ei.zero.map cv).map wk))=some (CT.tv X.toSE vc ((oJ eq kv l).getD z)).av:=by
     intro q g;cases hm:oJ eq kv l with
     |none=>
      rw[hm]at g;cases q with
      |none=>exact zero_den h7 hc.2.1 hc.2.2
      |some p=>simp at g
     |some v=>
      rw[hm]at g;cases q with
      |none=>simp at g
      |some p=>simp only[Option.map_some,ay]at g;simp only[CC,g,Option.getD_some]
    have hi:q.isSome=(oJ eq kv l).isSome:=by
     have:=congrArg Option.isSome g4;simpa using this
    have hb:Gd T t (den (.mp kk:DV X)) (den key) ok (dw [kk] (eU get))=pv (if ok then .eE [den (.c vc ((oJ eq kv l).getD z):DV X),.t (.sc (.bool q.isSome))]else den (.c vc ((oJ eq kv l).getD z):DV X)):=by
     simp only[Gd,h1,af,hk,den,hkey,h2,h3,dP (List.mem_singleton_self kk) h4];rw[bn ⟨g2,by simp[bC]⟩];rw[g3,af,hv q g4,af]
    cases ok with
    |true=>exact⟨[kk],_,_,hb,trivial,by simp only[if_true,den,bG,hi];rfl,rfl,h⟩
    |false=>exact⟨[kk],_,_,hb,trivial,rfl,rfl,h⟩
   ·cases h
  ·cases h
 ·cases h
theorem U3{t:TypeId}{x key y:DV X}(h:XT T t x key y get k=some r):∃rd wr dv upd ab,JA T t (den x) (den key) (den y) (dw rd (eU get))=some ab/\jJ ab.obs/\ab.v=den dv/\ab.upd=gW upd/\(∀ p∈upd,p.1∈wr)/\k dv upd rd wr=some r:=by
 unfold XT at h;rw[ah]at h;obtain⟨ti,h1,h⟩:=h;split at h
 ·rename_i kt et kk hk;rw[ah]at h;obtain⟨ki,h2,h⟩:=h;rw[ah]at h;obtain⟨o,h4,h⟩:=h;split at h
  ·rename_i kc vc l;rw[ah]at h;obtain⟨eq,h5,h⟩:=h;rw[ah]at h;obtain⟨kv,h6,h⟩:=h;rw[ah]at h;obtain⟨v,h7,h⟩:=h;split at h
   ·rename_i hc;have⟨va,g1,g2⟩:=VM hc kv;have g3:=ZI (vc:=vc) h5 g1 v l;have hkey:den key= .t (.sc va):=by
     have:=tV h6;rw[g1]at this;cases hd:den key<;>rw[hd]at this<;>simp only[wk,AV.t.injEq,reduceCtorEq]at this;subst this;rfl
    refine⟨[kk],[kk],_,_,⟨.undef,[(kk,some ⟨(bC (.map kc vc (IC eq kv v l):bp X)).rows.length,(bC (.map kc vc (IC eq kv v l):bp X)).rows⟩)],[]⟩,?_,trivial,rfl,?_,by simp,h⟩
    ·simp only[JA,h1,af,hk,den,hkey,h2,dP (List.mem_singleton_self kk) h4];rw[bn ⟨g2,by simp[bC]⟩,aic h7,g3];rfl
    ·simp[gW,bC]
   ·cases h
  ·cases h
 ·cases h
theorem acj(h:MM T am i o.op ρ get k=some r):de P T i o ρ get k r:=by
 obtain⟨dst,op,ty,ao,after,guard⟩:=o;unfold MM at h;simp only at h;split at h
 ·rename_i op t x y q;split at h
  ·rename_i hn;have⟨dv,ab,g1,g2,g3,g4,g5⟩:=ach h;have hy:den (ρ y)= .cL:=(by cases hρ:ρ y<;>rw[hρ]at hn<;>first |rfl |cases hn);exact de.ext (n:=0) (rd:=[]) (wr:=[]) (upd:=[]) (by simp only[qM,hy];exact g1) g2 g3 g4 (by simp) g5
  ·cases h
 ·rename_i s d x;unfold T5 at h;rw[ah]at h;obtain⟨si,h1,h⟩:=h;rw[ah]at h;obtain⟨di,h2,h⟩:=h;split at h
  ·rename_i kd k' n hk hx;refine de.ext (n:=0) (rd:=[]) (wr:=[]) (upd:=[]) (ab:=⟨.t (.sc (.int kd (kd.wrap n))),[],[]⟩) ?_ trivial rfl rfl (by simp) h;simp only[qM,HK,h1,h2,af,hk,hx];rfl
  ·cases h
 ·rename_i t x j;unfold VV at h;rw[ah]at h;obtain⟨ti,h1,h⟩:=h;split at h
  ·rename_i s kk n hk hx hj;rw[ah]at h;obtain⟨b,h2,h⟩:=h;refine de.ext (n:=b) (rd:=[]) (wr:=[]) (upd:=[]) (ab:=⟨.t (.sc (.int .u8 b)),[],[0<=n/\∃c,s[n.toNat]? =some c/\b=c.toNat]⟩) ?_ (aci h2) rfl rfl (by simp) h;simp only[qM,QR,h1,af,hk,hx,hj];rfl
  ·rename_i m e cs kd q hk hx hj;rw[ah]at h;obtain⟨ei,h2,h⟩:=h;have⟨h3,h⟩:=dF h;rw[ah]at h;obtain⟨v,h4,h⟩:=h;simp only[cH,aJ,aR]at h3;refine de.ext (n:=0) (rd:=[]) (wr:=[]) (upd:=[]) (ab:=⟨den v,[],[0<=q/\q<(m:Int)]⟩) ?_ h3 rfl rfl (by simp) h;have h5:=vR h4;rw[iD]at h5;simp only[qM,QR,h1,af,hk,hx,hj,h2,den,CT.tv,TV.av,h5];rfl
  ·cases h
 ·rename_i t x lo hi;unfold Wl at h;rw[ah]at h;obtain⟨ti,h1,h⟩:=h;split at h
  ·rename_i e hk hx;rw[ah]at h;obtain⟨ei,h2,h⟩:=h;rw[ah]at h;obtain⟨l,h3,h⟩:=h;rw[ah]at h;obtain⟨hh,h4,h⟩:=h;have⟨h5,h⟩:=dF h;refine de.ext (n:=0) (rd:=[]) (wr:=[]) (upd:=[]) (ab:=⟨.cL,[],[l=0/\hh=0]⟩) ?_ (show l=0/\hh=0 by simpa using h5) rfl rfl (by simp) h;have e1:=Ah h3;have e2:=Ah h4;rw[Option.map_map]at e1 e2;simp only[qM,Gc,h1,af,hk,hx,h2,den];have G4:bnd 0 (lo.map λx=>den (ρ x))=some l:=e1;have e2':bnd 0 (hi.map λx=>den (ρ x))=some hh:=e2;rw[G4,af,e2'];rfl
  ·cases h
 ·rename_i x;have⟨dv,g1,g2⟩:=OT h;exact de.tz (n:=0) (rd:=[]) (wr:=[]) (upd:=[]) g1 trivial rfl rfl (by simp) g2
 ·rename_i t l c;have⟨dv,upd,ab,g1,g2,g3,g4,g5,g6⟩:=ZG h;exact de.tz (n:=0) (rd:=[]) (wr:=[]) (upd:=upd) g1 g2 g3 g4 (λ p hp=> .inl (g5 p hp)) g6
 ·rename_i t;have⟨dv,upd,ab,g1,g2,g3,g4,g5,g6⟩:=RA h;exact de.tz (n:=0) (rd:=[]) (wr:=[]) (upd:=upd) g1 g2 g3 g4 (λ p hp=> .inl (g5 p hp)) g6
 ·rename_i t m x ok;have⟨rd,dv,ab,g1,g2,g3,g4,g6⟩:=U0 h;exact de.tz (n:=0) (rd:=rd) (wr:=[]) (upd:=[]) g1 g2 g3 g4 (by simp) g6
 ·rename_i t m x v;have⟨rd,wr,dv,upd,ab,g1,g2,g3,g4,g5,g6⟩:=U3 h;exact de.tz (n:=0) (rd:=rd) (wr:=wr) (upd:=upd) g1 g2 g3 g4 (λ p hp=> .inr (g5 p hp)) g6
 ·rename_i b args cW;have⟨rd,wr,dv,upd,ab,g1,g2,g3,g4,g5,g6⟩:=OU h;refine de.ext (n:=0) (rd:=rd) (wr:=wr) (upd:=upd) ?_ g2 g3 g4 g5 g6;simp only[qM,Qf];exact g1
 ·cases h
theorem ZJ{c:CT X.ι}:∀{xs:List Operand}{x:Operand}{y:CT.T X.toSE c×List Bool},x∈xs->Da get (ρ x) c=some y->∀j∈bo (ρ x),j∈ZE get c ρ xs
 |z::xs,x,y,hx,h,j,hj=>by
  simp only[ZE,aY];rcases aN.1 hx with rfl |hx
  ·left;rw[h];exact hj
  ·exact .inr (ZJ hx h j hj)
 |[],_,_,hx,_,_,_=>by simp at hx
theorem ZK{c:CT X.ι}:∀{xs:List Operand}{x:Operand}{y:CT.T X.toSE c×List Bool},x∈xs->Da get (ρ x) c=some y->∀b∈y.2,b∈Hd get c ρ xs
 |z::xs,x,y,hx,h,b,hb=>by
  simp only[Hd,aY];rcases aN.1 hx with rfl |hx
  ·left;rw[h];exact hb
  ·exact .inr (ZK hx h b hb)
 |[],_,_,hx,_,_,_=>by simp at hx
theorem ack(h:MD T am i o.op ρ get k=some r):de P T i o ρ get k r:=by
 unfold MD at h;split at h
 ·cases h
 rename_i hpick;have⟨c,h1,h⟩:=ah.1 h;have⟨hcs,h⟩:=oh h;have⟨co,rd,wr,dv,upd,ab,g1,g2,g3,g4,g5,g6⟩:=Wh h;generalize jn:ZE get c ρ o.op.operands.toList=ae at*;refine⟨.ue ae (λ x=>den (FG get c ρ x)) co,rd++ae,wr++ae,dv,upd++JP ae,⟨ab.v,ab.upd++ae.map (λ k=>(k,none)),ab.obs++[∀ x∈o.op.operands,(eV P (dw (rd++ae) (eU get)) (den (ρ x)) (den (FG get c ρ x))/\∀k∈refs (den (ρ x)),k∈ae)\/den (FG get c ρ x)=den (ρ x)]⟩,?_,?_,g3,?_,?_,g6⟩
 ·unfold jb EC;simp only;rw[bf hpick];have e:(λ k=>if k∈ae then none else dw (rd++ae) (eU get) k)=dw rd (eU λj=>if j∈ae then none else get j):=by
   funext j;simp only[dw,eU,aY];by_cases hj:j∈ae
   ·simp[hj]
   ·simp[hj]
  rw[e,g1];rfl
 ·refine pM _ λp hp=>?_;rcases aY.1 hp with hp |hp
  ·exact pq _ g2 p hp
  ·rw[aT]at hp;subst hp;intro x hx;unfold FG;cases hl:Da get (ρ x) c with
   |none=>exact .inr rfl
   |some y=>
    left;have hx':x∈o.op.operands.toList:=(by simpa using hx);have hin:∀j∈bo (ρ x),j∈ae:=λj hj=>jn ▸ ZJ hx' hl j hj;obtain⟨hs,obs,p1,p2⟩:=yc (P:=P) (rd:=rd++ae) hl (λ b hb=>hcs b (ZK hx' hl b hb)) (λ j hj=>mem_append_right _ (hin j hj));refine⟨?_,λj hj=>hin j (by rwa [ic]at hj)⟩;have:=p2 [];exact Bv _ _ _ this p1
 ·simp only[qo,Aj,g4]
 ·intro p hp;rcases aY.1 hp with hp |hp
  ·exact(g5 p hp).imp id (λ h=>List.mem_append_left _ h)
  ·exact .inr (mem_append_right _ (Gg hp))
theorem RB{c:CT X.ι}:∀{ds:List (DV X)}{xs:List (CT.T X.toSE c)},xH c ds=some xs->bG ds=xs.map λy=>den (.c c y:DV X)
 |[],xs,h=>by simp only[xH,ay]at h;subst h;rfl
 | .c a x::ds,xs,h=>by
  simp only[xH]at h;have⟨y,h1,h⟩:=ah.1 h;have⟨l,h2,h⟩:=ah.1 h;cases h;simp only[bG,aF,RB h2,(mY h1).1]
 | .agg _::_,_,h=>by simp[xH]at h
 | .eE _::_,_,h=>by simp[xH]at h
 | .own _ _ _::_,_,h=>by simp[xH]at h
 | .ptr _ _ _::_,_,h=>by simp[xH]at h
 | .oB _ _ _::_,_,h=>by simp[xH]at h
 | .mp _::_,_,h=>by simp[xH]at h
 | .rL _ _ _ _ _::_,_,h=>by simp[xH]at h
 | .rp _ _ _::_,_,h=>by simp[xH]at h
 | .tP _ _ _ _ _::_,_,h=>by simp[xH]at h
 | .fn _ _ _::_,_,h=>by simp[xH]at h
 | .du _ _ _::_,_,h=>by simp[xH]at h
 | .raw _::_,_,h=>by simp[xH]at h
 | .nil::_,_,h=>by simp[xH]at h
 | .ub::_,_,h=>by simp[xH]at h
 | .skip::_,_,h=>by simp[xH]at h
 | .undef::_,_,h=>by simp[xH]at h
theorem acn(h:Mz T am o.op ρ get k=some r):de P T i o ρ get k r:=by
 obtain⟨dst,op,ty,ao,after,guard⟩:=o;unfold Mz at h;simp only at h;split at h
 ·rename_i t x j;rw[ah]at h;obtain⟨ti,h1,h⟩:=h;split at h
  ·rename_i m e kk row aa kd n hk hx hj;rw[ah]at h;obtain⟨ei,h2,h⟩:=h;split at h
   ·rename_i hs;have⟨h3,h⟩:=dF h;refine de.op (co:= .none) (rd:=[]) (wr:=[]) (upd:=[]) (λ _ _ _ e=>by cases e) (ab:=⟨.ptr kk row (aa+n.toNat*1),[],[0<=n/\n.toNat<m]⟩) ?_ ⟨?_,?_,rfl,by simp,h⟩
    ·simp only[nK,kT,h1,af,hk,hx,hj,den,CT.tv,TV.av,h2,hs];rfl
    ·simp only[cH,aJ,aR]at h3;exact⟨h3.1,by omega⟩
    ·simp only[den,Nat.mul_one]
   ·cases h
  ·rename_i m e c y aa kd n hk hx hj;rw[ah]at h;obtain⟨ei,h2,h⟩:=h;split at h
   ·rename_i hs;have⟨h3,h⟩:=dF h;refine de.op (co:= .none) (rd:=[]) (wr:=[]) (upd:=[]) (λ _ _ _ e=>by cases e) (ab:=⟨.ef (CT.row X.toSE c y) (aa+n.toNat*1),[],[0<=n/\n.toNat<m]⟩) ?_ ⟨?_,?_,rfl,by simp,h⟩
    ·simp only[nK,kT,h1,af,hk,hx,hj,den,CT.tv,TV.av,h2,hs];rfl
    ·simp only[cH,aJ,aR]at h3;exact⟨h3.1,by omega⟩
    ·simp only[den,Nat.mul_one]
   ·cases h
  ·cases h
 ·rename_i t a;rw[ah]at h;obtain⟨ti,h1,h⟩:=h;split at h
  ·rename_i kk row aa m n hx;split at h
   ·rename_i hs;rw[ah]at h;obtain⟨c,h2,h⟩:=h;split at h
    ·rename_i hc;rw[ah]at h;obtain⟨ob,h3,h⟩:=h;split at h
     ·rename_i sz rows;have⟨q,h4,h⟩:=ah.1 h;have⟨xs,h5,h⟩:=ah.1 h;have⟨y,h6,h⟩:=ah.1 h;have⟨_,h7⟩:=xY h6;have h8:=RB h5;have h9:((bG q).drop (aa+n.toNat)).take 1=[den (.c c y:DV X)]:=by
       have e1:(bG ((q.drop aa).take m))[n.toNat]? =some (den (.c c y:DV X)):=(by rw[h8,List.getElem?_map,h7];rfl);rw[iD,List.getElem?_take]at e1;split at e1
       ·rw[List.getElem?_drop]at e1;have⟨g1,g2⟩:=bX.1 e1;rw[List.drop_eq_getElem_cons g1,List.take_succ_cons,List.take_zero,g2]
       ·cases e1
      refine de.op (co:= .none) (rd:=[kk]) (wr:=[]) (upd:=[]) (λ _ _ _ e=>by cases e) (ab:=⟨den (.c c y:DV X),[],[]⟩) ?_ ⟨trivial,rfl,rfl,by simp,h⟩;simp only[nK,HV,h1,af,hx,den,dP (List.mem_singleton_self kk) h3,bC,List.getElem?_map,h4,Option.map_some,hs.1,hs.2];rw[h9];obtain⟨t',g1,g2⟩:=row_one hc y;simp only[den,g2,TV.av];rfl
     ·cases h
     ·cases h
    ·cases h
   ·cases h
  ·rename_i b y0 aa m n hx;split at h
   ·rename_i hs;rw[ah]at h;obtain⟨c,h2,h⟩:=h;split at h
    ·rename_i hc;have⟨xs,h5,h⟩:=ah.1 h;have⟨y,h6,h⟩:=ah.1 h;have⟨_,h7⟩:=xY h6;have h8:=RB h5;have h9:(((CT.row X.toSE b y0).drop (aa+n.toNat)).take 1).map AV.t=[den (.c c y:DV X)]:=by
      have e1:(bG (((oM b y0).drop aa).take m))[n.toNat]? =some (den (.c c y:DV X)):=(by rw[h8,List.getElem?_map,h7];rfl);rw[iD,l7,List.getElem?_take]at e1;split at e1
      ·rw[List.getElem?_drop]at e1;have⟨g1,g2⟩:=bX.1 e1;rw[map_take,map_drop,List.drop_eq_getElem_cons g1,List.take_succ_cons,List.take_zero,g2]
      ·cases e1
     refine de.op (co:= .none) (rd:=[]) (wr:=[]) (upd:=[]) (λ _ _ _ e=>by cases e) (ab:=⟨den (.c c y:DV X),[],[]⟩) ?_ ⟨trivial,rfl,rfl,by simp,h⟩;simp only[nK,HV,h1,af,hx,den,hs.1,hs.2];rw[h9];obtain⟨t',g1,g2⟩:=row_one hc y;simp only[den,g2,TV.av];rfl
    ·cases h
   ·cases h
  ·cases h
 ·cases h
end
end
section
variable {X:SX}
structure MA(X:SX) where
 nm:List (Nat×Nat)
 eh:List (DC X)
 ii:List Bool
def addN(m:MA X)(k' k:Nat):MA X:=if m.nm.contains (k',k)then m else⟨m.nm++[(k',k)],m.eh,m.ii⟩
section
variable (get:Nat->Option (bp X))
mutual
def mP:Pt X.ι->DV X->MA X->Option (MA X)
 | .v c,d,m=>(dat d c).bind λx=>some ⟨m.nm,m.eh++[⟨c,x⟩],m.ii⟩
 | .o k,d,m=>match d with
  | .own k' 0 len=>(get k').bind λo=>match o with
   | .dp _ l=>some (addN ⟨m.nm,m.eh,m.ii++[bj len l.length]⟩ k' k)
   |_=>none
  |_=>none
 | .oz k,d,m=>match d with
  | .own k' 0 len=>(get k').bind λo=>match o with
   | .dp _ l=>some (addN ⟨m.nm,m.eh,m.ii++[!(len==0)&&bj len l.length]⟩ k' k)
   |_=>none
  | .oz k' len=>(get k').bind λo=>match o with
   | .dp _ l=>some (addN ⟨m.nm,m.eh,m.ii++[bj len l.length]⟩ k' k)
   |_=>none
  |_=>none
 | .p k,d,m=>match d with
  | .ptr k' 0 0=>some (addN m k' k)
  |_=>none
 | .mp k,d,m=>match d with
  | .mp k'=>some (addN m k' k)
  |_=>none
 | .nil,d,m=>match d with
  | .nil=>some m
  |_=>none
 | .f F fs cs,d,m=>match d with
  | .fn F' first caps=>if F=F' then(qT fs first m).bind λm=>qT cs caps m else none
  |_=>none
 | .od k,d,m=>match d with
  | .own k' aa len=>(get k').bind λo=>match o with
   | .dp _ l=>some (addN ⟨m.nm,m.eh++[⟨.int .i64,(aa:Int)⟩],m.ii++[bj (aa+len) l.length]⟩ k' k)
   |_=>none
  |_=>none
 | .a ps,d,m=>match d with
  | .agg ds=>qT ps ds m
  |_=>none
def qT:List (Pt X.ι)->List (DV X)->MA X->Option (MA X)
 |[],[],m=>some m
 |p::ps,d::ds,m=>(mP p d m).bind λm=>qT ps ds m
 |_,_,_=>none
end
def EL(env:Nat->DV X):List (Nat×Pt X.ι)->MA X->Option (MA X)
 |[],m=>some m
 |(t,p)::r,m=>(mP get p (env t) m).bind λm=>EL env r m
def Db:List (List (Pt X.ι))->List (List (DV X))->MA X->Option (MA X)
 |[],[],m=>some m
 |r::rs,q::qs,m=>(qT get r q m).bind λm=>Db rs qs m
 |_,_,_=>none
def nameOf(m:MA X)(k:Nat):Nat:=match m.nm.find? (λ q=>q.2==k)with |some q=>q.1 |none=>k
def Ak:List (Nat×OP X.ι)->MA X->Option (MA X)
 |[],m=>some m
 |(k,op)::r,m=>(get (nameOf m k)).bind λo=>match op,o with
  | .l c,.dp c' l=>(iX (.sl c') (.sl c) l).bind λl'=>Ak r (addN ⟨m.nm,m.eh++[⟨.sl c,l'⟩],m.ii⟩ (nameOf m k) k)
  | .m kc vc,.map sA so l=>(iX (.mp sA so) (.mp kc vc) l).bind λl'=>Ak r (addN ⟨m.nm,m.eh++[⟨.mp kc vc,l'⟩],m.ii⟩ (nameOf m k) k)
  | .c sz rows,.cells sz' rows'=>if sz=sz' then(Db get rows rows' (addN m (nameOf m k) k)).bind λm=>Ak r m else none
  |_,_=>none
end
end
section
variable {X:SX} {A:Type}
mutual
def my(f:Nat->Nat):DV X->DV X
 | .own k aa len=> .own (f k) aa len
 | .ptr k row aa=> .ptr (f k) row aa
 | .oB k n aa=> .oB (f k) n aa
 | .rL k row aa m n=> .rL (f k) row aa m n
 | .mp k=> .mp (f k)
 | .oz k len=> .oz (f k) len
 | .agg cs=> .agg (GQ f cs)
 | .eE cs=> .eE (GQ f cs)
 | .fn F first caps=> .fn F (GQ f first) (GQ f caps)
 |x=>x
def GQ(f:Nat->Nat):List (DV X)->List (DV X)
 |[]=>[]
 |x::xs=>my f x::GQ f xs
end
theorem RD(f:Nat->Nat):∀l:List Tree,uK f (l.map AV.t)=l.map AV.t
 |[]=>rfl
 |x::xs=>by simp only[aF,uK,eW,RD f xs]
mutual
theorem yg(f:Nat->Nat):∀x:DV X,den (my f x)=eW f (den x)
 | .own _ _ _=>rfl
 | .ptr _ _ _=>rfl
 | .oB _ _ _=>rfl
 | .mp _=>rfl
 | .oz _ _=>rfl
 | .rL _ _ _ _ _=>rfl
 | .agg cs=>by simp only[my,den,eW,Al f cs]
 | .eE cs=>by simp only[my,den,eW,Al f cs]
 | .fn F first caps=>by simp only[my,den,eW,Al f first,Al f caps]
 | .c t x=>by
  simp only[my,den];cases t<;>try rfl
  simp only[CT.tv,TV.av,eW,RD]
 | .rp _ _ _=>rfl
 | .tP _ _ _ _ _=>rfl
 | .du _ _ _=>rfl
 | .raw v=>by
  simp only[my,den,cv];split
  ·rfl
  ·split<;>rfl
 | .nil=>rfl
 | .ub=>rfl
 | .skip=>rfl
 | .undef=>rfl
theorem Al(f:Nat->Nat):∀l:List (DV X),bG (GQ f l)=uK f (bG l)
 |[]=>rfl
 |x::xs=>by simp only[GQ,bG,uK,yg f x,Al f xs]
end
def ma(f:Nat->Nat):bp X->bp X
 | .cells sz rows=> .cells sz (rows.map (GQ f))
 | .hole c l n aa q len=> .hole c l n aa (f q) len
 |o=>o
def cT:bp X->List Nat
 | .cells _ rows=>(rows.map aQ).flatten
 | .dp _ _=>[]
 | .map _ _ _=>[]
 | .hole _ _ _ _ q _=>[q]
def HE:CT X.ι->Bool
 | .int _ | .bool | .str=>true
 |_=>false
def uX:CT X.ι->Bool
 | .st i=>(X.cW i).all HE
 |c=>HE c
theorem BH{c:CT X.ι}(h:HE c=true)(x:CT.T X.toSE c):∀t∈CT.row X.toSE c x,t.flat:=by cases c<;>first |(intro t ht;simp only[CT.row,aT]at ht;subst ht;exact trivial) |cases h
theorem ad1:∀(l:List (CT X.ι))(h:HL X.toSE l),l.all HE=true->∀t∈HL.row X.toSE l h,t.flat
 |[],_,_,t,ht=>by simp[HL.row]at ht
 |c::l,h,ha,t,ht=>by
  simp only[all_cons,aJ]at ha;rcases aY.1 (show t∈CT.row X.toSE c h.1++HL.row X.toSE l h.2 from ht)with ht |ht
  ·exact BH ha.1 h.1 t ht
  ·exact ad1 l h.2 ha.2 t ht
theorem sJ{c:CT X.ι}(h:uX c=true)(x:CT.T X.toSE c):∀t∈CT.row X.toSE c x,t.flat:=by
 cases c
 case st i=>intro t ht;exact ad1 (X.cW i) (X.get i x) h t ((X.mN i x) ▸ ht)
 case int k=>exact BH (c:= .int k) h x
 case bool=>exact BH (c:= .bool) h x
 case str=>exact BH (c:= .str) h x
 case sl e=>cases h
 case any=>cases h
 case mp=>cases h
structure MG(X:SX) where
 nm:List (Nat×Nat)
 eh:List (DC X)
 ii:List Bool
 vr:List Nat
section
variable (get:Nat->Option (bp X))
mutual
def oR:Pt X.ι->DV X->MG X->Option (MG X)
 | .v c,d,m=>(Da get d c).bind λx=>some ⟨m.nm,m.eh++[⟨c,x.1⟩],m.ii++x.2,m.vr++bo d⟩
 | .o k,d,m=>match d with
  | .own k' 0 len=>(get k').bind λo=>match o with
   | .dp _ l=>some ⟨m.nm++[(k',k)],m.eh,m.ii++[bj len l.length],m.vr⟩
   |_=>none
  |_=>none
 | .od k,d,m=>match d with
  | .own k' aa len=>(get k').bind λo=>match o with
   | .dp _ l=>some ⟨m.nm++[(k',k)],m.eh++[⟨.int .i64,(aa:Int)⟩],m.ii++[bj (aa+len) l.length],m.vr⟩
   |_=>none
  |_=>none
 | .p k,d,m=>match d with
  | .ptr k' 0 0=>some ⟨m.nm++[(k',k)],m.eh,m.ii,m.vr⟩
  |_=>none
 | .nil,d,m=>match d with
  | .nil=>some m
  |_=>none
 | .f F fs cs,d,m=>match d with
  | .fn F' first caps=>if F=F' then(p6 fs first m).bind λm=>p6 cs caps m else none
  |_=>none
 | .mp k,d,m=>match d with
  | .mp k'=>some ⟨m.nm++[(k',k)],m.eh,m.ii,m.vr⟩
  |_=>none
 | .oz _,_,_=>none
 | .a ps,d,m=>match d with
  | .agg ds=>p6 ps ds m
  |_=>none
def p6:List (Pt X.ι)->List (DV X)->MG X->Option (MG X)
 |[],[],m=>some m
 |p::ps,d::ds,m=>(oR p d m).bind λm=>p6 ps ds m
 |_,_,_=>none
end
def Dc:List (List (Pt X.ι))->List (List (DV X))->MG X->Option (MG X)
 |[],[],m=>some m
 |r::rs,q::qs,m=>(p6 get r q m).bind λm=>Dc rs qs m
 |_,_,_=>none
def pm(m:MG X)(k:Nat):Nat:=match m.nm.find? (λ q=>q.2==k)with |some q=>q.1 |none=>k
def stC:CT X.ι->Bool
 | .st _=>true
 |_=>false
def Am:List (Nat×OP X.ι)->MG X->Option (MG X)
 |[],m=>some m
 |(k,op)::r,m=>(get (pm m k)).bind λo=>match op,o with
  | .l c,.dp c' l=>(iX (.sl c') (.sl c) l).bind λl'=>Am r ⟨m.nm++[(pm m k,k)],m.eh++[⟨.sl c,l'⟩],m.ii,m.vr⟩
  | .m kc vc,.map sA so l=>if (kc.one=true/\vc.one=true)\/stC kc=true then(iX (.mp sA so) (.mp kc vc) l).bind λl'=>Am r ⟨m.nm++[(pm m k,k)],m.eh++[⟨.mp kc vc,l'⟩],m.ii,m.vr⟩else none
  | .c sz rows,.cells sz' rows'=>if sz=sz' then(Dc get rows rows' ⟨m.nm++[(pm m k,k)],m.eh,m.ii,m.vr⟩).bind λm=>Am r m else none
  |_,_=>none
end
mutual
def Pt.refs:Pt X.ι->List Nat
 | .o k | .od k | .p k | .mp k | .oz k=>[k]
 | .f _ fs cs=>zb fs++zb cs
 | .a ps=>zb ps
 |_=>[]
def zb:List (Pt X.ι)->List Nat
 |[]=>[]
 |p::ps=>p.refs++zb ps
end
def OP.refs:OP X.ι->List Nat
 | .l _=>[]
 | .m _ _=>[]
 | .c _ rows=>rows.flatMap zb
def CL(n k:Nat):Bool:=Nat.blt k n || (Nat.ble 1000 k&&Nat.blt k 1064)
def cN.ok(g:cN X):Bool:=
 decide (g.ie.map (·.1)=List.range g.ie.length)&&decide (g.ie.length<=1000)&&(g.ia.all λq=>CL g.ie.length q.1&&q.2.refs.all λk=>CL g.ie.length k)&&decide (g.ia.map (·.1)).Nodup&&(zb g.fc).all λk=>CL g.ie.length k
def P2(m:MG X)(ae:List Nat):Bool:=
 decide ae.Nodup&&(m.nm.all λq=>match ae[q.2]? with |some k=>Nat.beq k q.1 |none=>false)&&m.vr.all λk=>!ae.contains k
def cN.flat(g:cN X):Bool:=(cI g.fc).all uX&&g.ia.all λq=>match q.2 with
 | .l c=>uX c
 | .m _ _=>false
 | .c _ rows=>(tX rows).all uX
def sf:List (Nat×bp X)->Nat->Option (bp X)
 |[],_=>none
 |(j,o)::r,k=>if j=k then some o else sf r k
def HO(i:Nat)(ae:List Nat)(os':List (Nat×bp X)):List (Nat×Option (bp X)):=
 (ae.zipIdx.map λp=>(p.1,(sf os' p.2).map (ma (cn i ae))))++(os'.filter λq=>decide (1000<=q.1)).map λq=>(cn i ae q.1,some (ma (cn i ae) q.2))
def Pa(g:cN X)(i:Nat)(ds:List (DV X))(get:Nat->Option (bp X))(k:KK X A):Option A:=
 (p6 get g.ox ds ⟨[],[],[],[]⟩).bind λm=>(Am get g.ie m).bind λm=>
  bif g.ok&&P2 m ((List.range g.ie.length).map (pm m))then(UY (cI g.ox++cx g.ie) m.eh).bind λv=>Rk m.ii ((g.fn v).bind λr=>
   let ae:=(List.range g.ie.length).map (pm m)
   k (my (cn i ae) (g.res r)) (HO i ae (g.outs r)++(if g.flat then []else m.vr.map λk=>(k,none))) (ae++m.vr) ((ae++(HO i ae (g.outs r)).map (·.1))++m.vr))
  else none
section
variable {P:Program} {get:Nat->Option (bp X)} {rd ae:List Nat} {df:Nat->Nat}
def fh(m m':MG X):Prop:=(∀ q∈m.nm,q∈m'.nm)/\(∀ c∈m.ii,c∈m'.ii)/\∀k∈m.vr,k∈m'.vr
theorem fh.refl(m:MG X):fh m m:=⟨λ _ h=>h,λ_ h=>h,λ_ h=>h⟩
theorem fh.trans{a b c:MG X}(h:fh a b)(h':fh b c):fh a c:=⟨λ q hq=>h'.1 q (h.1 q hq),λq hq=>h'.2.1 q (h.2.1 q hq),λq hq=>h'.2.2 q (h.2.2 q hq)⟩
mutual
theorem agq:∀(p:Pt X.ι)(d:DV X)(m m':MG X),oR get p d m=some m'->fh m m'/\∃an,m'.eh=m.eh++an/\an.length=p.vars.length
 | .v c,d,m,m',h=>by
  simp only[oR]at h;rw[ah]at h;obtain⟨x,h1,h⟩:=h;cases h;exact⟨⟨λ _ h=>h,λ_ h=>by simp[h],λ_ h=>by simp[h]⟩,[⟨c,x.1⟩],rfl,rfl⟩
 | .o k,d,m,m',h=>by
  simp only[oR]at h;split at h
  ·rw[ah]at h;obtain⟨o,h1,h⟩:=h;split at h
   ·cases h;exact⟨⟨λ _ h=>by simp[h],λ_ h=>by simp[h],λ_ h=>h⟩,[],by simp,rfl⟩
   ·cases h
  ·cases h
 | .od k,d,m,m',h=>by
  simp only[oR]at h;split at h
  ·rename_i k' aa len;have⟨o,h1,h⟩:=ah.1 h;split at h
   ·cases h;exact⟨⟨λ _ h=>by simp[h],λ_ h=>by simp[h],λ_ h=>h⟩,[⟨.int .i64,(aa:Int)⟩],rfl,rfl⟩
   ·cases h
  ·cases h
 | .p k,d,m,m',h=>by
  simp only[oR]at h;split at h
  ·cases h;exact⟨⟨λ _ h=>by simp[h],λ_ h=>h,λ_ h=>h⟩,[],by simp,rfl⟩
  ·cases h
 | .nil,d,m,m',h=>by
  simp only[oR]at h;split at h
  ·cases h;exact⟨fh.refl _,[],by simp,rfl⟩
  ·cases h
 | .f F fs cs,d,m,m',h=>by
  simp only[oR]at h;split at h
  ·split at h
   ·have⟨m1,h1,h⟩:=ah.1 h;obtain⟨a1,n1,b1,c1⟩:=uf fs _ m m1 h1;obtain⟨a2,n2,b2,c2⟩:=uf cs _ m1 m' h;exact⟨a1.trans a2,n1++n2,by rw[b2,b1,aM],by simp[Pt.vars,c1,c2]⟩
   ·cases h
  ·cases h
 | .mp k,d,m,m',h=>by
  simp only[oR]at h;split at h
  ·cases h;exact⟨⟨λ _ h=>by simp[h],λ_ h=>h,λ_ h=>h⟩,[],by simp,rfl⟩
  ·cases h
 | .oz _,_,_,_,h=>by simp[oR]at h
 | .a ps,d,m,m',h=>by
  simp only[oR]at h;split at h
  ·exact uf ps _ m m' h
  ·cases h
theorem uf:∀(ps:List (Pt X.ι))(ds:List (DV X))(m m':MG X),p6 get ps ds m=some m'->fh m m'/\∃an,m'.eh=m.eh++an/\an.length=(cI ps).length
 |[],[],m,m',h=>by
  simp only[p6,ay]at h;subst h;exact⟨fh.refl _,[],by simp,rfl⟩
 |p::ps,d::ds,m,m',h=>by
  simp only[p6]at h;have⟨m1,h1,h⟩:=ah.1 h;have⟨a1,n1,b1,c1⟩:=agq p d m m1 h1;have⟨a2,n2,b2,c2⟩:=uf ps ds m1 m' h;exact⟨a1.trans a2,n1++n2,by rw[b2,b1,aM],by simp[cI,c1,c2]⟩
 |[],_::_,m,m',h=>by simp[p6]at h
 |_::_,[],m,m',h=>by simp[p6]at h
end
def U4:AV->List LH->List LH
 | .agg _,hs=> .V0::hs
 |_,hs=>hs
theorem JQ(x:AV)(a b:List LH):U4 x (a++b)=U4 x a++b:=by cases x<;>rfl
theorem vS{get':Nat->Option aS}{x:AV}{hs:List LH}{p:AV×List LH×List Prop}(h:mI P get' x hs=some p)(hr:∀k∈refs x,k∉ae):nL P get' ae x (U4 x hs)=some p:=by
 have hd:((refs x).all λk=>!ae.contains k)=true:=by
  simp only[all_eq_true,Bool.not_eq_true',List.contains_eq_mem,dL];exact hr
 cases x
 case agg cs=>
  simp only[refs]at hd;simp only[U4,nL,hd,if_true];exact h
 all_goals
  simp only[U4];unfold nL;split<;>first |(simp [mI]at h;done) |(rw [bn hd];exact h) |exact h |exact absurd hd ‹_› |(rename_i e;cases e;done)
variable {NM:List (Nat×Nat)} {oS:List Nat}
mutual
theorem aeS(hi:∀q∈NM,ae[q.2]? =some q.1)(hv:∀k∈oS,k∉ae)(hrd:∀k,(∃ q,(k,q)∈NM)\/k∈oS->k∈rd)(ho:∀q∈NM,∀c l,get q.1=some (.dp c l)->df q.2=l.length):
 ∀(p:Pt X.ι)(d:DV X)(m m':MG X),oR get p d m=some m'->(∀ q∈m'.nm,q∈NM)->(∀ c∈m'.ii,c=true)->(∀ k∈m'.vr,k∈oS)->
 ∃an,m'.eh=m.eh++an/\∃d',(∀ ag,eP df p (an++ag)=(d',ag))/\(∃ hs obs,(∀ p∈obs,p)/\∀ag,nL P (dw rd (eU get)) ae (den d) (hs++ag)=some (den d',ag,obs))/\∀j∈bo d,(∃ q,(j,q)∈NM)\/j∈oS
 | .v c,d,m,m',h,hn,hc,hr=>by
  simp only[oR]at h;rw[ah]at h;obtain⟨x,h1,h⟩:=h;cases h;have xa:∀j∈bo d,j∈oS:=λj hj=>hr j (by simp[hj]);obtain⟨hs,obs,p1,q1⟩:=yc (P:=P) (rd:=rd) h1 (λ b hb=>hc b (by simp[hb])) (λ j hj=>hrd j (.inr (xa j hj)));refine⟨[⟨c,x.1⟩],rfl,.c c x.1,λag=>rfl,⟨U4 (den d) hs,obs,p1,λag=>?_⟩,λj hj=> .inr (xa j hj)⟩;rw[<- JQ];exact vS (q1 ag) (λ k hk=>hv k (xa k (by rwa [ic]at hk)))
 | .o k,d,m,m',h,hn,hc,hr=>by
  simp only[oR]at h;split at h
  ·rename_i k' len;rw[ah]at h;obtain⟨o,h1,h⟩:=h;split at h
   ·rename_i c l;cases h;have hq:(k',k)∈NM:=hn _ (by simp);have he:len=l.length:=by
     have:=hc (bj len l.length) (by simp);simpa[bj]using this
    refine⟨[],by simp,.own k 0 (df k),λag=>rfl,⟨[.mut k],[],by simp,λag=>?_⟩,λj hj=>?_⟩
    ·simp only[den,cons_append,bK,nL,hi _ hq,if_true,ho _ hq c l h1,he]
    ·simp only[bo,aT]at hj;subst hj;exact .inl ⟨k,hq⟩
   ·cases h
  ·cases h
 | .od k,d,m,m',h,hn,hc,hr=>by
  simp only[oR]at h;split at h
  ·rename_i k' aa len;rw[ah]at h;obtain⟨o,h1,h⟩:=h;split at h
   ·rename_i c l;cases h;have hq:(k',k)∈NM:=hn _ (by simp);have he:aa+len=l.length:=by
     have:=hc (bj (aa+len) l.length) (by simp);simpa[bj]using this
    refine⟨[⟨.int .i64,(aa:Int)⟩],rfl,.own k aa (df k -aa),λag=>?_,⟨[.mut k],[],by simp,λag=>?_⟩,λj hj=>?_⟩
    ·have:Wi (X:=X) ⟨.int .i64,(aa:Int)⟩=aa:=by
      simp only[Wi];rw[Rv];simp
     simp only[eP,cons_append,bK,this]
    ·simp only[den,cons_append,bK,nL,hi _ hq,if_true,ho _ hq c l h1,show l.length -aa=len by omega]
    ·simp only[bo,aT]at hj;subst hj;exact .inl ⟨k,hq⟩
   ·cases h
  ·cases h
 | .p k,d,m,m',h,hn,hc,hr=>by
  simp only[oR]at h;split at h
  ·rename_i k';cases h;have hq:(k',k)∈NM:=hn _ (by simp);refine⟨[],by simp,.ptr k 0 0,λag=>rfl,⟨[.mut k],[],by simp,λag=>?_⟩,λj hj=>?_⟩
   ·simp only[den,cons_append,bK,nL,hi _ hq,if_true]
   ·simp only[bo,aT]at hj;subst hj;exact .inl ⟨k,hq⟩
  ·cases h
 | .nil,d,m,m',h,hn,hc,hr=>by
  simp only[oR]at h;split at h
  ·cases h;refine⟨[],by simp,.nil,λag=>rfl,⟨[.nil],[],by simp,λag=>?_⟩,by simp[bo]⟩;exact vS (by simp only[den,cons_append,bK,mI]) (by simp[den,refs])
  ·cases h
 | .f F fs cs,d,m,m',h,hn,hc,hr=>by
  simp only[oR]at h;split at h
  ·rename_i F' first caps
   split at h
   ·rename_i e;subst e;rw[ah]at h;obtain⟨m1,h1,h⟩:=h;have hm:=(uf cs _ m1 m' h).1;obtain⟨n1,a1,f',b1,⟨hs1,o1,p1,q1⟩,r1⟩:=vT hi hv hrd ho fs _ m m1 h1 (λ q hq=>hn q (hm.1 q hq)) (λ q hq=>hc q (hm.2.1 q hq)) (λ q hq=>hr q (hm.2.2 q hq));obtain⟨n2,a2,c',b2,⟨hs2,o2,p2,q2⟩,r2⟩:=vT hi hv hrd ho cs _ m1 m' h hn hc hr;refine⟨n1++n2,by rw[a2,a1,aM],.fn F f' c',λag=>by simp only[eP,aM,b1,b2],⟨.Sp::(hs1++hs2),o1++o2,gu p1 p2,λag=>?_⟩,λj hj=>?_⟩
    ·simp only[den,cons_append,aM,nL,q1,af,q2]
    ·simp only[bo,aY]at hj;exact hj.elim (r1 j) (r2 j)
   ·cases h
  ·cases h
 | .mp k,d,m,m',h,hn,hc,hr=>by
  simp only[oR]at h;split at h
  ·rename_i k';cases h;have hq:(k',k)∈NM:=hn _ (by simp);refine⟨[],by simp,.mp k,λag=>rfl,⟨[.mut k],[],by simp,λag=>?_⟩,λj hj=>?_⟩
   ·simp only[den,cons_append,bK,nL,hi _ hq,if_true]
   ·simp only[bo,aT]at hj;subst hj;exact .inl ⟨k,hq⟩
  ·cases h
 | .oz _,_,_,_,h,_,_,_=>by simp[oR]at h
 | .a ps,d,m,m',h,hn,hc,hr=>by
  simp only[oR]at h;split at h
  ·rename_i ds;have⟨n1,a1,f',b1,⟨hs1,o1,p1,q1⟩,r1⟩:=vT hi hv hrd ho ps ds m m' h hn hc hr;refine⟨n1,a1,.agg f',λag=>by simp only[eP,b1],⟨.VC::hs1,o1,p1,λag=>?_⟩,λj hj=>r1 j (by simpa[bo]using hj)⟩;simp only[den,cons_append,nL,q1,af]
  ·cases h
theorem vT(hi:∀q∈NM,ae[q.2]? =some q.1)(hv:∀k∈oS,k∉ae)(hrd:∀k,(∃ q,(k,q)∈NM)\/k∈oS->k∈rd)(ho:∀q∈NM,∀c l,get q.1=some (.dp c l)->df q.2=l.length):
 ∀(ps:List (Pt X.ι))(ds:List (DV X))(m m':MG X),p6 get ps ds m=some m'->(∀ q∈m'.nm,q∈NM)->(∀ c∈m'.ii,c=true)->(∀ k∈m'.vr,k∈oS)->
 ∃an,m'.eh=m.eh++an/\∃ds',(∀ ag,kw df ps (an++ag)=(ds',ag))/\(∃ hs obs,(∀ p∈obs,p)/\∀ag,kU P (dw rd (eU get)) ae (bG ds) (hs++ag)=some (bG ds',ag,obs))/\∀j∈aQ ds,(∃ q,(j,q)∈NM)\/j∈oS
 |[],[],m,m',h,_,_,_=>by
  simp only[p6,ay]at h;subst h;exact⟨[],by simp,[],λag=>rfl,⟨[],[],by simp,λag=>rfl⟩,by simp[aQ]⟩
 |p::ps,d::ds,m,m',h,hn,hc,hr=>by
  simp only[p6]at h;have⟨m1,h1,h⟩:=ah.1 h;have hm:=(uf ps ds m1 m' h).1;obtain⟨n1,a1,d',b1,⟨hs1,o1,p1,q1⟩,r1⟩:=aeS hi hv hrd ho p d m m1 h1 (λ q hq=>hn q (hm.1 q hq)) (λ q hq=>hc q (hm.2.1 q hq)) (λ q hq=>hr q (hm.2.2 q hq));have⟨n2,a2,ds',b2,⟨hs2,o2,p2,q2⟩,r2⟩:=vT hi hv hrd ho ps ds m1 m' h hn hc hr;refine⟨n1++n2,by rw[a2,a1,aM],d'::ds',λag=>by simp only[kw,aM,b1,b2],⟨hs1++hs2,o1++o2,gu p1 p2,λag=>?_⟩,λj hj=>?_⟩
  ·simp only[bG,aM,kU,q1,af,q2]
  ·simp only[aQ,aY]at hj;exact hj.elim (r1 j) (r2 j)
 |[],_::_,m,m',h,_,_,_=>by simp[p6]at h
 |_::_,[],m,m',h,_,_,_=>by simp[p6]at h
end
theorem wD:∀(rs:List (List (Pt X.ι)))(qs:List (List (DV X)))(m m':MG X),Dc get rs qs m=some m'->fh m m'/\∃an,m'.eh=m.eh++an/\an.length=(tX rs).length
 |[],[],m,m',h=>by
  simp only[Dc,ay]at h;subst h;exact⟨fh.refl _,[],by simp,rfl⟩
 |r::rs,q::qs,m,m',h=>by
  simp only[Dc]at h;have⟨m1,h1,h⟩:=ah.1 h;have⟨a1,n1,b1,c1⟩:=uf r q m m1 h1;have⟨a2,n2,b2,c2⟩:=wD rs qs m1 m' h;exact⟨a1.trans a2,n1++n2,by rw[b2,b1,aM],by simp[tX,c1,c2]⟩
 |[],_::_,m,m',h=>by simp[Dc]at h
 |_::_,[],m,m',h=>by simp[Dc]at h
theorem N9(hi:∀q∈NM,ae[q.2]? =some q.1)(hv:∀k∈oS,k∉ae)(hrd:∀k,(∃ q,(k,q)∈NM)\/k∈oS->k∈rd)(ho:∀q∈NM,∀c l,get q.1=some (.dp c l)->df q.2=l.length):
 ∀(rs:List (List (Pt X.ι)))(qs:List (List (DV X)))(m m':MG X),Dc get rs qs m=some m'->(∀ q∈m'.nm,q∈NM)->(∀ c∈m'.ii,c=true)->(∀ k∈m'.vr,k∈oS)->
 ∃an,m'.eh=m.eh++an/\∃A0,(∀ ag,tZ df rs (an++ag)=(A0,ag))/\(∃ hs obs,(∀ p∈obs,p)/\wh P (dw rd (eU get)) ae (qs.map bG) hs=some (A0.map bG,obs))/\∀j∈(qs.map aQ).flatten,(∃ q,(j,q)∈NM)\/j∈oS
 |[],[],m,m',h,_,_,_=>by
  simp only[Dc,ay]at h;subst h;exact⟨[],by simp,[],λag=>rfl,⟨[],[],by simp,rfl⟩,by simp⟩
 |r::rs,q::qs,m,m',h,hn,hc,hr=>by
  simp only[Dc]at h;have⟨m1,h1,h⟩:=ah.1 h;have hm:=(wD rs qs m1 m' h).1;obtain⟨n1,a1,d',b1,⟨hs1,o1,p1,q1⟩,r1⟩:=vT (P:=P) hi hv hrd ho r q m m1 h1 (λ q hq=>hn q (hm.1 q hq)) (λ q hq=>hc q (hm.2.1 q hq)) (λ q hq=>hr q (hm.2.2 q hq));have⟨n2,a2,ds',b2,⟨hs2,o2,p2,q2⟩,r2⟩:=N9 hi hv hrd ho rs qs m1 m' h hn hc hr;refine⟨n1++n2,by rw[a2,a1,aM],d'::ds',λag=>by simp only[tZ,aM,b1,b2],⟨hs1::hs2,o1++o2,gu p1 p2,?_⟩,λj hj=>?_⟩
  ·have:=q1 [];rw[append_nil]at this;simp only[aF,wh,this,af,q2]
  ·simp only[aF,flatten_cons,aY]at hj;exact hj.elim (r1 j) (r2 j)
 |[],_::_,m,m',h,_,_,_=>by simp[Dc]at h
 |_::_,[],m,m',h,_,_,_=>by simp[Dc]at h
theorem kV:∀(os:List (Nat×OP X.ι))(m m':MG X),Am get os m=some m'->fh m m'/\∃an,m'.eh=m.eh++an/\an.length=(cx os).length
 |[],m,m',h=>by
  simp only[Am,ay]at h;subst h;exact⟨fh.refl _,[],by simp,rfl⟩
 |(k,op)::r,m,m',h=>by
  simp only[Am]at h;rw[ah]at h;obtain⟨o,h1,h⟩:=h;split at h
  ·rename_i c c' l;rw[ah]at h;obtain⟨l',h2,h⟩:=h;obtain⟨a2,n2,b2,c2⟩:=kV r _ m' h;refine⟨fh.trans (b:=⟨m.nm++[(pm m k,k)],m.eh++[⟨.sl c,l'⟩],m.ii,m.vr⟩) ⟨λ _ h=>by simp[h],λ_ h=>h,λ_ h=>h⟩ a2,[⟨.sl c,l'⟩]++n2,?_,by simp[cx,c2]⟩;rw[b2,aM]
  ·rename_i kc vc sA so l;split at h
   ·rw[ah]at h;obtain⟨l',h2,h⟩:=h;obtain⟨a2,n2,b2,c2⟩:=kV r _ m' h;refine⟨fh.trans (b:=⟨m.nm++[(pm m k,k)],m.eh++[⟨.mp kc vc,l'⟩],m.ii,m.vr⟩) ⟨λ _ h=>by simp[h],λ_ h=>h,λ_ h=>h⟩ a2,[⟨.mp kc vc,l'⟩]++n2,?_,by simp[cx,c2]⟩;rw[b2,aM]
   ·cases h
  ·rename_i sz rows sz' rows';split at h
   ·rw[ah]at h;obtain⟨m1,h2,h⟩:=h;obtain⟨a1,n1,b1,c1⟩:=wD rows _ _ m1 h2;have⟨a2,n2,b2,c2⟩:=kV r m1 m' h;refine⟨fh.trans (fh.trans (b:=⟨m.nm++[(pm m k,k)],m.eh,m.ii,m.vr⟩) ⟨λ _ h=>by simp[h],λ_ h=>h,λ_ h=>h⟩ a1) a2,n1++n2,?_,by simp[cx,c1,c2]⟩;rw[b2,b1,aM]
   ·cases h
  ·cases h
theorem BJ:∀(os:List (Nat×OP X.ι))(m m':MG X),Am get os m=some m'->(∀ q∈m'.nm,q∈NM)->∃an,m'.eh=m.eh++an/\∀ag,∀k∈os.map (·.1),∃k' o,(k',k)∈NM/\get k'=some o/\∀c l,o= .dp c l->(k,List.length l)∈lens os (an++ag)
 |[],m,m',h,_=>by
  simp only[Am,ay]at h;subst h;exact⟨[],by simp,λag k hk=>by simp at hk⟩
 |(k,op)::r,m,m',h,hn=>by
  simp only[Am]at h;rw[ah]at h;obtain⟨o,h1,h⟩:=h;split at h
  ·rename_i c c' l;rw[ah]at h;obtain⟨l',h2,h⟩:=h;have hm:=(kV r _ m' h).1;obtain⟨n2,b2,c2⟩:=BJ r _ m' h hn;refine⟨[⟨.sl c,l'⟩]++n2,by rw[b2,aM],λag j hj=>?_⟩;simp only[aF,aN]at hj;simp only[cons_append,bK,lens];by_cases hjk:j=k
   ·subst hjk;refine⟨_,_,hn _ (hm.1 _ (by simp)),h1,λc2 l2 he=>?_⟩;injection he with e1 e2;subst e1;have e2:=eq_of_heq e2;subst e2;have:=congrArg List.length (iL h2).2;simp only[length_map]at this;rw[this];exact List.mem_cons_self
   ·rcases hj with rfl |hj
    ·exact(hjk rfl).elim
    ·have⟨k',o',g1,g2,g3⟩:=c2 ag j hj;exact⟨k',o',g1,g2,λc l he=>dV _ (g3 c l he)⟩
  ·rename_i kc vc sA so l;split at h
   ·rw[ah]at h;obtain⟨l',h2,h⟩:=h;have hm:=(kV r _ m' h).1;obtain⟨n2,b2,c2⟩:=BJ r _ m' h hn;refine⟨[⟨.mp kc vc,l'⟩]++n2,by rw[b2,aM],λag j hj=>?_⟩;simp only[aF,aN]at hj;simp only[cons_append,bK,lens,List.drop_succ_cons,List.drop_zero];by_cases hjk:j=k
    ·subst hjk;exact⟨_,_,hn _ (hm.1 _ (by simp)),h1,λc2 l2 he=>by cases he⟩
    ·rcases hj with rfl |hj
     ·exact(hjk rfl).elim
     ·exact c2 ag j hj
   ·cases h
  ·rename_i sz rows sz' rows';split at h
   ·have⟨m1,h2,h⟩:=ah.1 h;obtain⟨a1,n1,b1,c1⟩:=wD rows _ _ m1 h2;have hm:=(kV r _ m' h).1;obtain⟨n2,b2,c2⟩:=BJ r _ m' h hn;refine⟨n1++n2,by rw[b2,b1,aM],λag j hj=>?_⟩;simp only[aF,aN]at hj;have hd:(n1++n2++ag).drop (tX rows).length=n2++ag:=(by rw[<- c1,aM,List.drop_left]);simp only[lens,hd];by_cases hjk:j=k
    ·subst hjk;exact⟨_,_,hn _ (hm.1 _ (a1.1 _ (by simp))),h1,λc2 l2 he=>by cases he⟩
    ·rcases hj with rfl |hj
     ·exact(hjk rfl).elim
     ·exact c2 ag j hj
   ·cases h
  ·cases h
theorem BK:∀(os:List (Nat×OP X.ι))(L:List (DC X)),((lens os L).map (·.1)).Sublist (os.map (·.1))
 |[],_=>by simp[lens]
 |(k,.l c)::r,L=>by
  simp only[lens];split
  ·exact(BK r _).cons_cons _
  ·exact List.nil_sublist _
 |(k,.m kc vc)::r,L=>by
  simp only[lens];exact(BK r _).cons _
 |(k,.c sz rows)::r,L=>by
  simp only[lens];exact(BK r _).cons _
def aeT(get':Nat->Option aS)(NM:List (Nat×Nat))(oS:List Nat)(bs:List OB)(ks:List Nat):Prop:=
 ∀(j:Nat) hs q o,bs[j]? =some (.zt hs)->ks[j]? =some q->get' q=some o->∀k∈LU o,(∃ z,(k,z)∈NM)\/k∈oS
theorem JR{sz:Nat}{rows:List (List (DV X))}{k:Nat}(h:k∈LU (bC (.cells sz rows))):k∈(rows.map aQ).flatten:=by
 simp only[LU,bC,mem_flatMap,mem_map]at h;obtain⟨a,⟨r,hr,rfl⟩,hk⟩:=h;rw[gI]at hk;exact List.mem_flatten.2 ⟨_,mem_map.2 ⟨r,hr,rfl⟩,hk⟩
theorem XU:∀ts:List Tree,dU (ts.map AV.t)=[]
 |[]=>rfl
 |t::ts=>by simp only[aF,dU,refs,XU ts,append_nil]
theorem ad3{P:Program}{get:Nat->Option aS}:∀(ts:List Tree)(hs:List LH),lF P get (ts.map AV.t) hs=some (ts.map AV.t,hs,[])
 |[],hs=>rfl
 |t::ts,hs=>by simp only[aF,lF,mI,af,ad3 ts hs,append_nil]
theorem aeU{P:Program}{get:Nat->Option aS}{ae:List Nat}(v:TV):nL P get ae v.av []=some (v.av,[],[]):=by
 cases v with
 |s x=>rfl
 |a cs=>
  have h:refs (.agg (cs.map AV.t))=[]:=XU cs;simp only[TV.av,nL,h,List.all_nil,if_true,mI,ad3,af]
theorem Wp{P:Program}{get:Nat->Option aS}{ae:List Nat}:∀rows:List (TV×TV),wh P get ae (rows.map λq=>[q.1.av,q.2.av]) (rows.map λ_=>[])=some (rows.map λq=>[q.1.av,q.2.av],[])
 |[]=>rfl
 |q::rows=>by simp only[aF,wh,kU,aeU,af,Wp rows,append_nil]
theorem yh(hi:∀q∈NM,ae[q.2]? =some q.1)(hv:∀k∈oS,k∉ae)(hrd:∀k,(∃ q,(k,q)∈NM)\/k∈oS->k∈rd)(ho:∀q∈NM,∀c l,get q.1=some (.dp c l)->df q.2=l.length):
 ∀(os:List (Nat×OP X.ι))(m m':MG X),Am get os m=some m'->(∀ q∈m'.nm,q∈NM)->(∀ c∈m'.ii,c=true)->(∀ k∈m'.vr,k∈oS)->
 ∃an,m'.eh=m.eh++an/\∃xs:List (Nat×bp X),(∀ ag,bT df os (an++ag)=xs.map λp=>(p.1,some p.2))/\
  ∃bs mo,(∀ p∈mo,p)/\C8 P (dw rd (eU get)) ae (os.map λp=>(ae[p.1]?).getD 0) bs=some (xs.map λp=>bC p.2,mo)/\aeT (dw rd (eU get)) NM oS bs (os.map λp=>(ae[p.1]?).getD 0)
 |[],m,m',h,_,_,_=>by
  simp only[Am,ay]at h;subst h;exact⟨[],by simp,[],λag=>rfl,[],[],by simp,rfl,λj hs q o h=>by simp at h⟩
 |(k,op)::r,m,m',h,hn,hc,hr=>by
  simp only[Am]at h;rw[ah]at h;obtain⟨o,h1,h⟩:=h;split at h
  ·rename_i c c' l;have⟨l',h2,h⟩:=ah.1 h;have hm:=(kV r _ m' h).1;have hq:(pm m k,k)∈NM:=hn _ (hm.1 _ (by simp));have hid:(ae[k]?).getD 0=pm m k:=(by rw[hi _ hq];rfl);have hget:=dP (hrd (pm m k) (.inl ⟨k,hq⟩)) h1;have⟨h3,h4⟩:=iL h2;obtain⟨n2,a2,xs,b2,bs,mo,p2,q2,r2⟩:=yh hi hv hrd ho r _ m' h hn hc hr;refine⟨[⟨.sl c,l'⟩]++n2,by rw[a2,aM],(k,.dp c l')::xs,λag=>by simp only[cons_append,bK,bT,b2,aF],.dat (CT.sz X c,l'.map (CT.row X.toSE c))::bs,((bC (.dp c' l)).sz=CT.sz X c/\dM ((bC (.dp c' l)).rows.take (l'.map (CT.row X.toSE c)).length)=aG (l'.map (CT.row X.toSE c)))::mo,?_,?_,?_⟩
   ·intro p hp;rcases aN.1 hp with rfl |hp
    ·refine⟨h3,?_⟩;simp only[bC,h4];rw[take_of_length_le (by simp[aG])];simp[dM,aG,Function.comp_def,wk]
    ·exact p2 p hp
   ·simp only[aF,C8,QV,hid,hget,af,q2,cons_append,bK];rfl
   ·intro j hs q o' hj hq' ho';cases j with
    |zero=>simp at hj
    |succ j=>exact r2 j hs q o' (by simpa using hj) (by simpa using hq') ho'
  ·rename_i kc vc sA so l;split at h
   ·rename_i hone;have⟨l',h2,h⟩:=ah.1 h;have hm:=(kV r _ m' h).1;have hq:(pm m k,k)∈NM:=hn _ (hm.1 _ (by simp));have hid:(ae[k]?).getD 0=pm m k:=(by rw[hi _ hq];rfl);have hget:=dP (hrd (pm m k) (.inl ⟨k,hq⟩)) h1;have hden:bC (.map sA so l)=bC (.map kc vc l'):=by
     have⟨e,h2⟩:=qc h2;injection e with e1 e2;subst e1;subst e2;subst h2;rfl
    obtain⟨n2,a2,xs,b2,bs,mo,p2,q2,r2⟩:=yh hi hv hrd ho r _ m' h hn hc hr;rcases hone with hone |_
    ·have hab:bC (.map kc vc l')=gc (List.length l',l'.map λq=>CT.row X.toSE kc q.1++CT.row X.toSE vc q.2):=by
      simp only[bC,gc,aG,map_map];congr 1;refine map_congr_left λq _=>?_;obtain⟨t1,g1,g2⟩:=row_one hone.1 q.1;obtain⟨t2,g3,g4⟩:=row_one hone.2 q.2;simp[g1,g2,g3,g4,TV.av]
     refine⟨[⟨.mp kc vc,l'⟩]++n2,by rw[a2,aM],(k,.map kc vc l')::xs,λag=>by simp only[cons_append,bK,bT,b2,aF],.dat (List.length l',l'.map λq=>CT.row X.toSE kc q.1++CT.row X.toSE vc q.2)::bs,((bC (.map sA so l)).sz=List.length l'/\dM ((bC (.map sA so l)).rows.take (l'.map λq=>CT.row X.toSE kc q.1++CT.row X.toSE vc q.2).length)=aG (l'.map λq=>CT.row X.toSE kc q.1++CT.row X.toSE vc q.2))::mo,?_,?_,?_⟩
     ·intro p hp;rcases aN.1 hp with rfl |hp
      ·rw[hden,hab];refine⟨rfl,?_⟩;simp only[gc];rw[take_of_length_le (by simp[aG])];simp[dM,aG,Function.comp_def,wk]
      ·exact p2 p hp
     ·simp only[aF,C8,QV,hid,hget,af,q2,cons_append,bK,hab]
     ·intro j hs q o' hj hq' ho';cases j with
      |zero=>simp at hj
      |succ j=>exact r2 j hs q o' (by simpa using hj) (by simpa using hq') ho'
    ·refine⟨[⟨.mp kc vc,l'⟩]++n2,by rw[a2,aM],(k,.map kc vc l')::xs,λag=>by simp only[cons_append,bK,bT,b2,aF],.zt ((l'.map λq=>(CT.tv X.toSE kc q.1,CT.tv X.toSE vc q.2)).map λ_=>[])::bs,mo,p2,?_,?_⟩
     ·have hlr:=Wp (P:=P) (get:=dw rd (eU get)) (ae:=ae) (l'.map λq=>(CT.tv X.toSE kc q.1,CT.tv X.toSE vc q.2));have hdr:(bC (.map kc vc l')).rows=(l'.map λq=>(CT.tv X.toSE kc q.1,CT.tv X.toSE vc q.2)).map λq=>[q.1.av,q.2.av]:=(by simp only[bC,map_map];rfl);simp only[aF,C8,QV,hid,hget,af,q2,hden,hdr,hlr,bK];rw[<- hdr]
     ·intro j hs q o' hj hq' ho';cases j with
      |zero=>
       simp only[aF,List.getElem?_cons_zero,ay]at hq';subst hq';rw[hid,hget]at ho';injection ho' with ho';subst ho';intro k hk;rw[hden]at hk;simp only[LU,bC,mem_flatMap,mem_map]at hk;obtain⟨_,⟨q,_,rfl⟩,hk⟩:=hk;simp only[dU,xZ,append_nil,fO]at hk
      |succ j=>exact r2 j hs q o' (by simpa using hj) (by simpa using hq') ho'
   ·cases h
  ·rename_i sz rows sz' rows';split at h
   ·rename_i hsz;have⟨m1,h2,h⟩:=ah.1 h;have hm1:=(wD rows _ _ m1 h2).1;have hm:=(kV r _ m' h).1;have hq:(pm m k,k)∈NM:=hn _ (hm.1 _ (hm1.1 _ (by simp)));have hid:(ae[k]?).getD 0=pm m k:=(by rw[hi _ hq];rfl);have hget:=dP (hrd (pm m k) (.inl ⟨k,hq⟩)) h1;obtain⟨n1,a1,qs,b1,⟨hs1,o1,p1,q1⟩,r1⟩:=N9 (P:=P) hi hv hrd ho rows _ _ m1 h2 (λ q hq=>hn q (hm.1 q hq)) (λ q hq=>hc q (hm.2.1 q hq)) (λ q hq=>hr q (hm.2.2 q hq));obtain⟨n2,a2,xs,b2,bs,mo,p2,q2,r2⟩:=yh hi hv hrd ho r _ m' h hn hc hr;subst hsz;refine⟨n1++n2,by rw[a2,a1,aM],(k,.cells sz qs)::xs,λag=>by simp only[aM,bT,b1,b2,aF],.zt hs1::bs,o1++mo,gu p1 p2,?_,?_⟩
    ·simp only[aF,C8,QV,hid,hget,af,bC,q1,q2]
    ·intro j hs q o' hj hq' ho';cases j with
     |zero=>
      simp only[aF,List.getElem?_cons_zero,ay]at hq';rw[<- hq',hid,hget]at ho';injection ho' with ho';subst ho';exact λz hz=>r1 z (JR hz)
     |succ j=>exact r2 j hs q o' (by simpa using hj) (by simpa using hq') ho'
   ·cases h
  ·cases h
end
end
end Go.Gb
namespace Go.Gb
open Go.RowKit
section
variable {X:SX} {A:Type}
theorem O2:∀(l:List (CT X.ι))(v:VT (X:=X) l),(tY l v).map (·.c)=l
 |[],_=>rfl
 |[_],_=>rfl
 |c::c'::l,v=>by simp only[tY,aF,O2 (c'::l) v.2]
theorem Mi:∀{l:List Tree},(∀ t∈l,t.flat)->og (l.map AV.t)
 |[],_=>trivial
 |t::l,h=>⟨h t (by simp),Mi (λ u hu=>h u (by simp[hu]))⟩
theorem XV{c:CT X.ι}(h:uX c=true)(x:CT.T X.toSE c):sF (CT.tv X.toSE c x).av:=by
 have hf:=sJ h x;cases c
 case st i=>exact Mi hf
 all_goals first |exact hf _ (aT.2 rfl) |cases h
section
variable {ol:Nat->Nat}
mutual
theorem aid:∀(p:Pt X.ι)(L:List (DC X))(cs:List (CT X.ι)),L.map (·.c)=p.vars++cs->p.vars.all uX=true->sF (den (eP ol p L).1)/\(eP ol p L).2.map (·.c)=cs
 | .v c,L,cs,h,hs=>by
  match L,h with
  |d::r,h=>
   simp only[Pt.vars,aF,List.singleton_append,List.cons.injEq]at h;simp only[Pt.vars,all_cons,List.all_nil,Bool.and_true]at hs;exact⟨XV (h.1 ▸ hs) d.x,h.2⟩
  |[],h=>simp[Pt.vars]at h
 | .o k,L,cs,h,_=>⟨trivial,by simpa[Pt.vars,eP]using h⟩
 | .p k,L,cs,h,_=>⟨trivial,by simpa[Pt.vars,eP]using h⟩
 | .mp k,L,cs,h,_=>⟨trivial,by simpa[Pt.vars,eP]using h⟩
 | .oz k,L,cs,h,_=>⟨trivial,by simpa[Pt.vars,eP]using h⟩
 | .nil,L,cs,h,_=>⟨trivial,by simpa[Pt.vars,eP]using h⟩
 | .od k,L,cs,h,_=>by
  match L,h with
  |d::r,h=>
   simp only[Pt.vars,aF,List.singleton_append,List.cons.injEq]at h;exact⟨trivial,h.2⟩
  |[],h=>simp[Pt.vars]at h
 | .f F fs ps,L,cs,h,hs=>by
  simp only[Pt.vars,List.all_append,aJ]at hs;simp only[Pt.vars,aM]at h;obtain⟨a1,a2⟩:=Ao fs L _ h hs.1;obtain⟨b1,b2⟩:=Ao ps _ _ a2 hs.2;exact⟨⟨a1,b1⟩,b2⟩
 | .a ps,L,cs,h,hs=>by
  simp only[Pt.vars]at h hs;exact Ao ps L cs h hs
theorem Ao:∀(ps:List (Pt X.ι))(L:List (DC X))(cs:List (CT X.ι)),L.map (·.c)=cI ps++cs->(cI ps).all uX=true->og (bG (kw ol ps L).1)/\(kw ol ps L).2.map (·.c)=cs
 |[],L,cs,h,_=>⟨trivial,by simpa[cI,kw]using h⟩
 |p::ps,L,cs,h,hs=>by
  simp only[cI,List.all_append,aJ]at hs;simp only[cI,aM]at h;obtain⟨a1,a2⟩:=aid p L _ h hs.1;obtain⟨b1,b2⟩:=Ao ps _ _ a2 hs.2;exact⟨⟨a1,b1⟩,b2⟩
end
mutual
theorem aie:∀(p:Pt X.ι)(L:List (DC X)),∀j∈bo (eP ol p L).1,j∈p.refs
 | .v c,L,j,h=>by cases L<;>simp[eP,bo]at h
 | .o k,L,j,h=>by simpa[eP,bo,Pt.refs]using h
 | .p k,L,j,h=>by simpa[eP,bo,Pt.refs]using h
 | .mp k,L,j,h=>by simpa[eP,bo,Pt.refs]using h
 | .oz k,L,j,h=>by simpa[eP,bo,Pt.refs]using h
 | .nil,L,j,h=>by simp[eP,bo]at h
 | .od k,L,j,h=>by cases L<;>simp[eP,bo]at h<;>simp[Pt.refs,h]
 | .f F fs ps,L,j,h=>by
  simp only[eP,bo,aY]at h;simp only[Pt.refs,aY];exact h.imp (wE fs _ j) (wE ps _ j)
 | .a ps,L,j,h=>by
  simp only[eP,bo]at h;simp only[Pt.refs];exact wE ps _ j h
theorem wE:∀(ps:List (Pt X.ι))(L:List (DC X)),∀j∈aQ (kw ol ps L).1,j∈zb ps
 |[],L,j,h=>by simp[kw,aQ]at h
 |p::ps,L,j,h=>by
  simp only[kw,aQ,aY]at h;simp only[zb,aY];exact h.imp (aie p _ j) (wE ps _ j)
end
theorem IE:∀(rs:List (List (Pt X.ι)))(L:List (DC X))(cs:List (CT X.ι)),L.map (·.c)=tX rs++cs->(tZ ol rs L).2.map (·.c)=cs/\((tX rs).all uX=true->∀r∈(tZ ol rs L).1,og (bG r))
 |[],L,cs,h=>⟨by simpa[tX,tZ]using h,by simp[tZ]⟩
 |r::rs,L,cs,h=>by
  simp only[tX,aM]at h;have step:(kw ol r L).2.map (·.c)=tX rs++cs:=sE r L _ h;obtain⟨b1,b2⟩:=IE rs _ _ step;refine⟨b1,λhs q hq=>?_⟩;simp only[tX,List.all_append,aJ]at hs;simp only[tZ,aN]at hq;rcases hq with rfl |hq
  ·exact(Ao r L _ h hs.1).1
  ·exact b2 hs.2 q hq
where
 sE (ps:List (Pt X.ι)) (L:List (DC X)) (cs:List (CT X.ι)) (h:L.map (·.c)=cI ps++cs):(kw ol ps L).2.map (·.c)=cs:=nw ps L cs h
 zr:∀(p:Pt X.ι)(L:List (DC X))(cs:List (CT X.ι)),L.map (·.c)=p.vars++cs->(eP ol p L).2.map (·.c)=cs
  | .v c,L,cs,h=>by
   match L,h with
   |d::r,h=>simp only[Pt.vars,aF,List.singleton_append,List.cons.injEq]at h;exact h.2
   |[],h=>simp[Pt.vars]at h
  | .o k,L,cs,h=>by simpa[Pt.vars,eP]using h
  | .p k,L,cs,h=>by simpa[Pt.vars,eP]using h
  | .mp k,L,cs,h=>by simpa[Pt.vars,eP]using h
  | .oz k,L,cs,h=>by simpa[Pt.vars,eP]using h
  | .nil,L,cs,h=>by simpa[Pt.vars,eP]using h
  | .od k,L,cs,h=>by
   match L,h with
   |d::r,h=>simp only[Pt.vars,aF,List.singleton_append,List.cons.injEq]at h;exact h.2
   |[],h=>simp[Pt.vars]at h
  | .f F fs ps,L,cs,h=>by
   simp only[Pt.vars,aM]at h;exact nw ps _ _ (nw fs L _ h)
  | .a ps,L,cs,h=>by
   simp only[Pt.vars]at h;exact nw ps L cs h
 nw:∀(ps:List (Pt X.ι))(L:List (DC X))(cs:List (CT X.ι)),L.map (·.c)=cI ps++cs->(kw ol ps L).2.map (·.c)=cs
  |[],L,cs,h=>by simpa[cI,kw]using h
  |p::ps,L,cs,h=>by
   simp only[cI,aM]at h;exact nw ps _ _ (zr p L _ h)
theorem RF:∀(rs:List (List (Pt X.ι)))(L:List (DC X)),∀j∈((tZ ol rs L).1.map aQ).flatten,j∈rs.flatMap zb
 |[],L,j,h=>by simp[tZ]at h
 |r::rs,L,j,h=>by
  simp only[tZ,aF,flatten_cons,aY]at h;simp only[List.flatMap_cons,aY];exact h.imp (wE r _ j) (RF rs _ j)
theorem wF:∀(O:List (Nat×OP X.ι))(L:List (DC X)),((cu (bT ol O L)).map (·.1)).Sublist (O.map (·.1))/\(∀ p∈cu (bT ol O L),∃op,(p.1,op)∈O/\∀j∈cT p.2,j∈op.refs)/\
 (L.map (·.c)=cx O->(O.all λq=>match q.2 with | .l c=>uX c | .m _ _=>false | .c _ rows=>(tX rows).all uX)=true->∀p∈cu (bT ol O L),∀r∈(bC p.2).rows,og r)
 |[],L=>⟨by simp[bT,cu],by simp[bT,cu],by simp[bT,cu]⟩
 |(k,.l c)::O,L=>by
  match L with
  |[]=>exact⟨by simp[bT,cu],by simp[bT,cu],by simp[bT,cu]⟩
  |⟨.sl c',x⟩::L=>
   have⟨h1,h2,h3⟩:=wF O L;refine⟨?_,?_,?_⟩
   ·simp only[bT,cu,aF];exact h1.cons_cons _
   ·intro p hp;simp only[bT,cu,aN]at hp;rcases hp with rfl |hp
    ·exact⟨.l c,by simp,by simp[cT]⟩
    ·have⟨op,g1,g2⟩:=h2 p hp;exact⟨op,dV _ g1,g2⟩
   ·intro hL hs p hp r hr;simp only[aF,cx,List.cons.injEq]at hL;simp only[all_cons,aJ]at hs;simp only[bT,cu,aN]at hp;rcases hp with rfl |hp
    ·obtain⟨e,_⟩:=hL;injection e with e;simp only[bC,aG,mem_map]at hr;obtain⟨q,⟨y,hy,rfl⟩,rfl⟩:=hr;exact Mi (sJ (e ▸ hs.1) y)
    ·exact h3 hL.2 hs.2 p hp r hr
  |⟨.int _,x⟩::L=>exact⟨by simp[bT,cu],by simp[bT,cu],by simp[bT,cu]⟩
  |⟨.bool,x⟩::L=>exact⟨by simp[bT,cu],by simp[bT,cu],by simp[bT,cu]⟩
  |⟨.str,x⟩::L=>exact⟨by simp[bT,cu],by simp[bT,cu],by simp[bT,cu]⟩
  |⟨.any,x⟩::L=>exact⟨by simp[bT,cu],by simp[bT,cu],by simp[bT,cu]⟩
  |⟨.mp _ _,x⟩::L=>exact⟨by simp[bT,cu],by simp[bT,cu],by simp[bT,cu]⟩
  |⟨.st _,x⟩::L=>exact⟨by simp[bT,cu],by simp[bT,cu],by simp[bT,cu]⟩
 |(k,.m kc vc)::O,L=>by
  match L with
  |[]=>exact⟨by simp[bT,cu],by simp[bT,cu],by simp[bT,cu]⟩
  |⟨.mp sA so,x⟩::L=>
   have⟨h1,h2,h3⟩:=wF O L;refine⟨?_,?_,?_⟩
   ·simp only[bT,cu,aF];exact h1.cons_cons _
   ·intro p hp;simp only[bT,cu,aN]at hp;rcases hp with rfl |hp
    ·exact⟨.m kc vc,by simp,by simp[cT]⟩
    ·have⟨op,g1,g2⟩:=h2 p hp;exact⟨op,dV _ g1,g2⟩
   ·intro hL hs;simp at hs
  |⟨.sl _,x⟩::L=>exact⟨by simp[bT,cu],by simp[bT,cu],by simp[bT,cu]⟩
  |⟨.int _,x⟩::L=>exact⟨by simp[bT,cu],by simp[bT,cu],by simp[bT,cu]⟩
  |⟨.bool,x⟩::L=>exact⟨by simp[bT,cu],by simp[bT,cu],by simp[bT,cu]⟩
  |⟨.str,x⟩::L=>exact⟨by simp[bT,cu],by simp[bT,cu],by simp[bT,cu]⟩
  |⟨.any,x⟩::L=>exact⟨by simp[bT,cu],by simp[bT,cu],by simp[bT,cu]⟩
  |⟨.st _,x⟩::L=>exact⟨by simp[bT,cu],by simp[bT,cu],by simp[bT,cu]⟩
 |(k,.c sz rows)::O,L=>by
  have⟨h1,h2,h3⟩:=wF O (tZ ol rows L).2;refine⟨?_,?_,?_⟩
  ·simp only[bT,cu,aF];exact h1.cons_cons _
  ·intro p hp;simp only[bT,cu,aN]at hp;rcases hp with rfl |hp
   ·exact⟨.c sz rows,by simp,λj hj=>RF rows L j hj⟩
   ·have⟨op,g1,g2⟩:=h2 p hp;exact⟨op,dV _ g1,g2⟩
  ·intro hL hs p hp r hr;simp only[cx]at hL;simp only[all_cons,aJ]at hs;obtain⟨e1,e2⟩:=IE (ol:=ol) rows L _ hL;simp only[bT,cu,aN]at hp;rcases hp with rfl |hp
   ·simp only[bC,mem_map]at hr;obtain⟨q,hq,rfl⟩:=hr;exact e2 hs.1 q hq
   ·exact h3 e1 hs.2 p hp r hr
end
theorem Mj(k:Nat):∀os:List (Nat×bp X),ov (qO os) k=(sf os k).map bC
 |[]=>rfl
 |(j,o)::r=>by
  simp only[qO,aF,ov,sf];split
  ·rfl
  ·exact Mj k r
theorem RG(f:Nat->Nat)(c:CT X.ι)(x:CT.T X.toSE c):eW f (CT.tv X.toSE c x).av=(CT.tv X.toSE c x).av:=(yg f (.c c x)).symm
theorem RH(f:Nat->Nat):∀l:List AV,uK f l=l.map (eW f)
 |[]=>rfl
 |x::xs=>by simp only[uK,aF,RH f xs]
theorem ZL(f:Nat->Nat)(o:bp X):bC (ma f o)=EF f (bC o):=by
 cases o with
 |cells sz rows=>simp only[ma,bC,EF,map_map];congr 1;exact map_congr_left λr _=>Al f r
 |dp c l=>simp only[ma,bC,EF,aG,map_map];congr 1;exact map_congr_left λr _=>(RD f _).symm
 |map kc vc l=>simp only[ma,bC,EF,map_map];congr 1;exact map_congr_left λr _=>by simp only[Function.comp_apply,uK,RG]
 |hole c l n aa q len=>
  have ht:∀rs:List (List Tree),(aG rs).map (uK f)=aG rs:=λrs=>by
   simp only[aG,map_map];exact map_congr_left λr _=>RD f r
  simp only[ma,bC,EF,uW,List.map_set,ht];congr 2;have⟨r,hr⟩:=Ro (l.map (CT.row X.toSE c)) n.toNat;rw[hr];unfold put';have hl:∀l:List Tree,(l.map AV.t).map (eW f)=l.map AV.t:=λl=>(RH f _).symm.trans (RD f l);rw[<- map_take,<- map_drop,<- map_drop,RH,map_append,map_append,hl,hl];rfl
theorem aeV(i:Nat)(ae:List Nat)(os:List (Nat×bp X)):gW (HO i ae os)=Xx i ae (qO os):=by
 simp only[HO,Xx,qo];congr 1
 ·simp only[gW,map_map];refine map_congr_left λp _=>?_;simp only[Function.comp_apply,Mj,Option.map_map];congr 1;cases sf os p.2<;>simp[ZL]
 ·simp only[gW,qO,List.filter_map,map_map];refine map_congr_left λq _=>?_;simp[ZL]
theorem RI{ds:List (DV X)}:(∀ j∈refs (den (wz ds)),j∈aQ ds)/\(og (bG ds)->sF (den (wz ds))):=by
 match ds with
 |[]=>exact⟨λ j hj=>by simp[wz,den,bG,refs,dU]at hj,λ_=>by simp only[wz,den,sF];exact trivial⟩
 |[d]=>exact⟨λ j hj=>by simp only[wz,ic]at hj;simpa[aQ]using hj,λh=>h.1⟩
 |d::e::r=>exact⟨λ j hj=>by simp only[wz,den,refs,gI]at hj;exact hj,λh=>h⟩
theorem Wq:∀xs:List (Nat×bp X),cu (xs.map λp=>(p.1,some p.2))=xs
 |[]=>rfl
 |p::xs=>by simp only[aF,cu,Wq xs]
theorem XW{P:Program}{g:cN X}{F:FuncId}(hg:FS P F g){i:Nat}{first args caps:List (DV X)}{get:Nat->Option (bp X)}{k:KK X A}{r:A}(h:Pa g i (first++args++caps) get k=some r):
 ∃co rd wr dv upd ab,jK P i (den (.fn F first caps)) (bG args) co (dw rd (eU get))=some ab/\jJ ab.obs/\ab.v=den dv/\ab.upd=gW upd/\(∀ p∈upd,p.1=cy i\/p.1∈wr)/\k dv upd rd wr=some r:=by
 unfold Pa at h;rw[ah]at h;obtain⟨m1,h1,h⟩:=h;rw[ah]at h;obtain⟨m,h2,h⟩:=h;have⟨h3,h⟩:=dF h;rw[ah]at h;obtain⟨v,h4,h⟩:=h;have⟨h5,h⟩:=oh h;rw[ah]at h;obtain⟨rr,h6,h⟩:=h;simp only[aJ]at h3;obtain⟨hok,xe⟩:=h3;simp only at h;generalize jn:(List.range g.ie.length).map (pm m)=ae at h xe;simp only[cN.ok,aJ,aR]at hok;obtain⟨⟨⟨⟨n1,n2⟩,n3⟩,n4⟩,n5⟩:=hok;simp only[P2,aJ,aR]at xe;obtain⟨⟨hnd,hnm⟩,xa⟩:=xe;have hlen:ae.length=g.ie.length:=by rw[<- jn];simp
 have hi:∀q∈m.nm,ae[q.2]? =some q.1:=by
  intro q hq;have:=all_eq_true.1 hnm q hq;split at this
  ·rename_i k' e;rw[e,Nat.eq_of_beq_eq_true this]
  ·cases this
 have hv:∀k∈m.vr,k∉ae:=λk hk=>by
  have:=all_eq_true.1 xa k hk;simpa using this
 have hrd:∀k,(∃ q,(k,q)∈m.nm)\/k∈m.vr->k∈ae++m.vr:=by
  rintro k (⟨q,hq⟩ |hk)
  ·exact List.mem_append_left _ (bW (hi _ hq))
  ·exact mem_append_right _ hk
 have hm2:=(kV _ _ _ h2).1;have tt:=Ru h4;obtain⟨_,nA,dA,lA⟩:=uf _ _ _ _ h1;simp only[bK]at dA;obtain⟨nB,dB,lB⟩:=BJ (NM:=m.nm) _ _ _ h2 (λ q hq=>hq);have hL:m.eh=nA++nB:=by rw[dB,dA]
 have hdrop:(tY _ v).drop (cI g.ox).length=nB:=by rw[tt,hL,<- lA,List.drop_left]
 have htake:(tY _ v).take (cI g.ox).length=nA:=by rw[tt,hL,<- lA,List.take_left]
 have ho:∀q∈m.nm,∀c l,get q.1=some (.dp c l)->BG g.ie nB q.2=l.length:=by
  rintro⟨p,q⟩ hq c l hl;have hq2:=hi _ hq;have Rr:q<g.ie.length:=by rw[<- hlen];exact(bX.1 hq2).1
  obtain⟨p',o,g1,g2,g3⟩:=lB [] q (by rw[n1];exact List.mem_range.2 Rr);have:p'=p:=by
   have e1:=hi _ g1;rw[hq2]at e1;injection e1 with e1;exact e1.symm
  subst this;simp only at hl;rw[hl]at g2;injection g2 with g2;have h3:=g3 c l g2.symm;rw[append_nil]at h3;have hk:=(BK g.ie nB).nodup (by rw[n1];exact List.nodup_range);simp only[BG,sH hk h3,Option.getD_some]
 obtain⟨In,E3,ds',eA,⟨hs,obs,pA,qA⟩,rA⟩:=vT (P:=P) (ae:=ae) (rd:=ae++m.vr) (NM:=m.nm) (oS:=m.vr) (df:=BG g.ie nB) hi hv hrd ho _ _ _ _ h1 (λ q hq=>hm2.1 q hq) (λ c hc=>h5 c (hm2.2.1 c hc)) (λ q hq=>hm2.2.2 q hq);obtain⟨If,My,xs,eB,bs,mo,pB,qB,rB⟩:=yh (P:=P) (ae:=ae) (rd:=ae++m.vr) (NM:=m.nm) (oS:=m.vr) (df:=BG g.ie nB) hi hv hrd ho _ _ _ h2 (λ q hq=>hq) h5 (λ q hq=>hq);have Mo:In=nA:=by simp only[bK]at E3;rw[<- E3,dA]
 have Mn:If=nB:=List.append_cancel_left (My.symm.trans dB);subst Mo Mn;have E1:=eA [];have E0:=eB [];rw[append_nil]at E1 E0;have hargs:g.args v=ds':=by simp only[cN.args,Rw,hdrop,htake,E1]
 have sd:g.cE v=xs:=by simp only[cN.cE,Zy,hdrop,E0,Wq]
 have Ks:(g.ie.map λp=>(ae[p.1]?).getD 0)=ae:=by
  have:(g.ie.map λp=>(ae[p.1]?).getD 0)=(g.ie.map (·.1)).map λj=>(ae[j]?).getD 0:=by rw[map_map];rfl
  rw[this,n1];refine List.ext_getElem (by simp[hlen]) λj a b=>?_;simp[cZ b]
 rw[Ks]at qB rB;have P0:=qA [];rw[append_nil,gQ,gQ]at P0;have hcon:=hg v rr h6;rw[hargs,sd]at hcon;obtain⟨s1,s2,s3⟩:=wF (ol:=BG g.ia ((tY (gh (kx 0 g.fc)++cx g.ia) rr).drop (cI g.fc).length)) g.ia ((tY _ rr).drop (cI g.fc).length);have wn:∀k,CL g.ie.length k=true->Zf ae.length k:=by
  intro k hk;simp only[CL,Bool.or_eq_true,aJ,Nat.blt_eq,Nat.ble_eq]at hk;simp only[Zf,hlen];exact hk
 have good:VU ae.length (qO (g.outs rr)) (den (g.res rr)):=by
  refine⟨?_,?_,?_,?_⟩
  ·intro q hq;simp only[qO,mem_map]at hq;obtain⟨p,hp,rfl⟩:=hq;have⟨op,g1,_⟩:=s2 p hp;have:=all_eq_true.1 n3 _ g1;simp only[aJ]at this;exact wn _ this.1
  ·have:(qO (g.outs rr)).map (·.1)=(g.outs rr).map (·.1):=(by simp[qO]);rw[this];exact s1.nodup n4
  ·intro q hq r' hr' j hj;simp only[qO,mem_map]at hq;obtain⟨p,hp,rfl⟩:=hq;have⟨op,g1,g2⟩:=s2 p hp;have:=all_eq_true.1 n3 _ g1;simp only[aJ]at this;refine wn _ (all_eq_true.1 this.2 j (g2 j ?_));obtain⟨pk,po⟩:=p;cases po with
   |cells sz rows=>exact JR (mem_flatMap.2 ⟨r',hr',hj⟩)
   |dp c l=>
    simp only[bC,aG,mem_map]at hr';obtain⟨z,_,rfl⟩:=hr';rw[XU]at hj;simp at hj
   |map kc vc l=>
    simp only[bC,mem_map]at hr';obtain⟨z,_,rfl⟩:=hr';simp only[dU,xZ,append_nil]at hj;simp at hj
   |hole c l n aa q len=>
    obtain⟨x,hx,hj⟩:∃x∈r',j∈refs x:=by
     clear hr'
     induction r' with
     |nil=>simp[dU]at hj
     |cons y ys ih=>
      simp only[dU,aY]at hj;rcases hj with hj |hj
      ·exact⟨y,by simp,hj⟩
      ·have⟨x,h1,h2⟩:=ih hj;exact⟨x,by simp[h1],h2⟩
    simpa[cT]using V6 hr' hx hj
  ·intro j hj;have:=(RI (ds:=Rw g.fc g.ia (tY _ rr))).1 j hj;exact wn _ (all_eq_true.1 n5 j (wE g.fc _ j this))
 have flat:g.flat=true->ml (qO (g.outs rr)) (den (g.res rr)):=by
  intro hf;simp only[cN.flat,aJ]at hf;have hc:(tY (gh (kx 0 g.fc)++cx g.ia) rr).map (·.c)=cI g.fc++cx g.ia:=(O2 _ rr).trans (by rw[Me]);refine⟨(RI (ds:=Rw g.fc g.ia (tY _ rr))).2 ?_,?_⟩
  ·refine(Ao (ol:=_) g.fc _ [] ?_ hf.1).1;rw[append_nil,map_take,hc,List.take_left]
  ·intro q hq r' hr';simp only[qO,mem_map]at hq;obtain⟨p,hp,rfl⟩:=hq;exact s3 (by rw[map_drop,hc,List.drop_left]) hf.2 p hp r' hr'
 have cJ:QW (dw (ae++m.vr) (eU get)) (bG first++bG args++bG caps) ae m.vr bs:=by
  refine⟨hv,λj hj hn=>?_,λj hs' q o e1 e2 e3 z hz hn=>?_⟩
  ·rw[<- gQ,<- gQ,gI]at hj;rcases rA j hj with ⟨q,hq⟩ |hj
   ·exact absurd (bW (hi _ hq)) hn
   ·exact hj
  ·rcases rB j hs' q o e1 e2 e3 z hz with ⟨q',hq⟩ |hz
   ·exact absurd (bW (hi _ hq)) hn
   ·exact hz
 refine⟨.sm ae m.vr bs hs (qO (g.outs rr)) (den (g.res rr)) g.flat,ae++m.vr,_,_,_,
  ⟨eW (cn i ae) (den (g.res rr)),Xx i ae (qO (g.outs rr))++(if g.flat then []else m.vr.map λk=>(k,none)),obs++mo++[AM P F (bG ds') (xs.map λp=>bC p.2) (qO (g.outs rr)) (den (g.res rr)),VU ae.length (qO (g.outs rr)) (den (g.res rr)),QW (dw (ae++m.vr) (eU get)) (bG first++bG args++bG caps) ae m.vr bs]++(if g.flat then [ml (qO (g.outs rr)) (den (g.res rr))]else [])⟩,?_,?_,(yg _ _).symm,?_,?_,h⟩
 ·simp only[den,jK,JB,qB,P0,af];rw[bn ⟨hnd,by omega⟩]
 ·refine pM _ (gu (gu (gu pA pB) ?_) ?_)
  ·intro z hz;simp only[aN,fO,or_false]at hz;rcases hz with rfl |rfl |rfl
   ·exact hcon
   ·exact good
   ·exact cJ
  ·intro z hz;cases hf:g.flat with
   |true=>rw[hf]at hz;simp only[if_true,aT]at hz;subst hz;exact flat hf
   |false=>rw[hf]at hz;simp at hz
 ·simp only[qo,aeV];congr 1;cases g.flat with
  |true=>rfl
  |false=>exact(Aj m.vr).symm
 ·intro p hp;refine .inr ?_;rcases aY.1 hp with hp |hp
  ·exact List.mem_append_left _ (mem_append_right _ (mem_map.2 ⟨p,hp,rfl⟩))
  ·cases hf:g.flat with
   |true=>rw[hf]at hp;simp at hp
   |false=>
    rw[hf]at hp;simp only[Bool.false_eq_true,if_false,mem_map]at hp;obtain⟨z,hz,rfl⟩:=hp;exact mem_append_right _ hz
end
end Go.Gb
