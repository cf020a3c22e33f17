/-
  Calls of functions that are told by patterns, in the typed walk: they are what the call does.
-/
import Derived.Test.YtbploijhogfmnaaGreatW3
open Option (bind_some)
open List (map_cons mem_cons append_assoc mem_append mem_map all_eq_true mem_singleton nil_append length_cons cons_append length_map append_nil mem_cons_of_mem map_map map_congr_left flatten_cons map_nil all_cons map_take map_drop map_append mem_append_right)
open Bool (and_eq_true)
namespace Go.Gb
open Go.RowKit
section
variable {X:SX} {A:Type}
theorem VE:∀ (l:List (CT X.ι)) (v:VT (X:=X) l),(oW l v).map (·.c)=l
 |[],_=>rfl
 |[_],_=>rfl
 |c::c'::l,v=>by simp only[oW,map_cons,VE (c'::l) v.2]
theorem GR:∀ {l:List Tree},(∀ t∈l,t.flat)->j4 (l.map AV.t)
 |[],_=>trivial
 |t::l,h=>⟨h t (by simp),GR (fun u hu=>h u (by simp[hu]))⟩
theorem QS {c:CT X.ι} (h:qM c=true) (x:CT.T X.toSE c):nO (CT.tv X.toSE c x).av:=by
 have hf:=nT h x;cases c
 case st i=>exact GR hf
 all_goals first |exact hf _ (mem_singleton.2 rfl) |cases h
section
variable {ol:Nat->Nat}
mutual
theorem aby:∀ (p:Pt X.ι) (L:List (DC X)) (cs:List (CT X.ι)),L.map (·.c)=p.vars++cs->p.vars.all qM=true->nO (den (eP ol p L).1)∧(eP ol p L).2.map (·.c)=cs
 | .v c,L,cs,h,hs=>by
  match L,h with
  |d::r,h=>
   simp only[Pt.vars,map_cons,List.singleton_append,List.cons.injEq]at h;simp only[Pt.vars,all_cons,List.all_nil,Bool.and_true]at hs;exact⟨QS (h.1 ▸ hs) d.x,h.2⟩
  |[],h=>simp[Pt.vars]at h
 | .o k,L,cs,h,_=>⟨trivial,by simpa[Pt.vars,eP]using h⟩
 | .p k,L,cs,h,_=>⟨trivial,by simpa[Pt.vars,eP]using h⟩
 | .mp k,L,cs,h,_=>⟨trivial,by simpa[Pt.vars,eP]using h⟩
 | .oz k,L,cs,h,_=>⟨trivial,by simpa[Pt.vars,eP]using h⟩
 | .nil,L,cs,h,_=>⟨trivial,by simpa[Pt.vars,eP]using h⟩
 | .od k,L,cs,h,_=>by
  match L,h with
  |d::r,h=>
   simp only[Pt.vars,map_cons,List.singleton_append,List.cons.injEq]at h;exact⟨trivial,h.2⟩
  |[],h=>simp[Pt.vars]at h
 | .f F fs ps,L,cs,h,hs=>by
  simp only[Pt.vars,List.all_append,and_eq_true]at hs;simp only[Pt.vars,append_assoc]at h;obtain⟨a1,a2⟩:=wK fs L _ h hs.1;obtain⟨b1,b2⟩:=wK ps _ _ a2 hs.2;exact⟨⟨a1,b1⟩,b2⟩
 | .a ps,L,cs,h,hs=>by
  simp only[Pt.vars]at h hs;exact wK ps L cs h hs
theorem wK:∀ (ps:List (Pt X.ι)) (L:List (DC X)) (cs:List (CT X.ι)),L.map (·.c)=varsL ps++cs->(varsL ps).all qM=true->j4 (aI (ePs ol ps L).1)∧(ePs ol ps L).2.map (·.c)=cs
 |[],L,cs,h,_=>⟨trivial,by simpa[varsL,ePs]using h⟩
 |p::ps,L,cs,h,hs=>by
  simp only[varsL,List.all_append,and_eq_true]at hs;simp only[varsL,append_assoc]at h;obtain⟨a1,a2⟩:=aby p L _ h hs.1;obtain⟨b1,b2⟩:=wK ps _ _ a2 hs.2;exact⟨⟨a1,b1⟩,b2⟩
end
mutual
theorem abz:∀ (p:Pt X.ι) (L:List (DC X)),∀ j∈drefs (eP ol p L).1,j∈p.refs
 | .v c,L,j,h=>by cases L<;>simp[eP,drefs]at h
 | .o k,L,j,h=>by simpa[eP,drefs,Pt.refs]using h
 | .p k,L,j,h=>by simpa[eP,drefs,Pt.refs]using h
 | .mp k,L,j,h=>by simpa[eP,drefs,Pt.refs]using h
 | .oz k,L,j,h=>by simpa[eP,drefs,Pt.refs]using h
 | .nil,L,j,h=>by simp[eP,drefs]at h
 | .od k,L,j,h=>by cases L<;>simp[eP,drefs]at h<;>simp[Pt.refs,h]
 | .f F fs ps,L,j,h=>by
  simp only[eP,drefs,mem_append]at h;simp only[Pt.refs,mem_append];exact h.imp (sG fs _ j) (sG ps _ j)
 | .a ps,L,j,h=>by
  simp only[eP,drefs]at h;simp only[Pt.refs];exact sG ps _ j h
theorem sG:∀ (ps:List (Pt X.ι)) (L:List (DC X)),∀ j∈aD (ePs ol ps L).1,j∈vz ps
 |[],L,j,h=>by simp[ePs,aD]at h
 |p::ps,L,j,h=>by
  simp only[ePs,aD,mem_append]at h;simp only[vz,mem_append];exact h.imp (abz p _ j) (sG ps _ j)
end
theorem Du:∀ (rs:List (List (Pt X.ι))) (L:List (DC X)) (cs:List (CT X.ι)),L.map (·.c)=oV rs++cs->(oZ ol rs L).2.map (·.c)=cs∧((oV rs).all qM=true->∀ r∈(oZ ol rs L).1,j4 (aI r))
 |[],L,cs,h=>⟨by simpa[oV,oZ]using h,by simp[oZ]⟩
 |r::rs,L,cs,h=>by
  simp only[oV,append_assoc]at h;have step:(ePs ol r L).2.map (·.c)=oV rs++cs:=ePs_codes r L _ h;obtain⟨b1,b2⟩:=Du rs _ _ step;refine⟨b1,fun hs q hq=>?_⟩;simp only[oV,List.all_append,and_eq_true]at hs;simp only[oZ,mem_cons]at hq;rcases hq with rfl |hq
  ·exact (wK r L _ h hs.1).1
  ·exact b2 hs.2 q hq
where
 ePs_codes (ps:List (Pt X.ι)) (L:List (DC X)) (cs:List (CT X.ι)) (h:L.map (·.c)=varsL ps++cs):(ePs ol ps L).2.map (·.c)=cs:=codesL ps L cs h
 codes1:∀ (p:Pt X.ι) (L:List (DC X)) (cs:List (CT X.ι)),L.map (·.c)=p.vars++cs->(eP ol p L).2.map (·.c)=cs
  | .v c,L,cs,h=>by
   match L,h with
   |d::r,h=>simp only[Pt.vars,map_cons,List.singleton_append,List.cons.injEq]at h;exact h.2
   |[],h=>simp[Pt.vars]at h
  | .o k,L,cs,h=>by simpa[Pt.vars,eP]using h
  | .p k,L,cs,h=>by simpa[Pt.vars,eP]using h
  | .mp k,L,cs,h=>by simpa[Pt.vars,eP]using h
  | .oz k,L,cs,h=>by simpa[Pt.vars,eP]using h
  | .nil,L,cs,h=>by simpa[Pt.vars,eP]using h
  | .od k,L,cs,h=>by
   match L,h with
   |d::r,h=>simp only[Pt.vars,map_cons,List.singleton_append,List.cons.injEq]at h;exact h.2
   |[],h=>simp[Pt.vars]at h
  | .f F fs ps,L,cs,h=>by
   simp only[Pt.vars,append_assoc]at h;exact codesL ps _ _ (codesL fs L _ h)
  | .a ps,L,cs,h=>by
   simp only[Pt.vars]at h;exact codesL ps L cs h
 codesL:∀ (ps:List (Pt X.ι)) (L:List (DC X)) (cs:List (CT X.ι)),L.map (·.c)=varsL ps++cs->(ePs ol ps L).2.map (·.c)=cs
  |[],L,cs,h=>by simpa[varsL,ePs]using h
  |p::ps,L,cs,h=>by
   simp only[varsL,append_assoc]at h;exact codesL ps _ _ (codes1 p L _ h)
theorem Ls:∀ (rs:List (List (Pt X.ι))) (L:List (DC X)),∀ j∈((oZ ol rs L).1.map aD).flatten,j∈rs.flatMap vz
 |[],L,j,h=>by simp[oZ]at h
 |r::rs,L,j,h=>by
  simp only[oZ,map_cons,flatten_cons,mem_append]at h;simp only[List.flatMap_cons,mem_append];exact h.imp (sG r _ j) (Ls rs _ j)
theorem sH:∀ (O:List (Nat×OP X.ι)) (L:List (DC X)),((aS (aO ol O L)).map (·.1)).Sublist (O.map (·.1))∧(∀ p∈aS (aO ol O L),∃ op,(p.1,op)∈O∧∀ j∈orefs p.2,j∈op.refs)∧
 (L.map (·.c)=varsO O->(O.all fun q=>match q.2 with | .l c=>qM c | .m _ _=>false | .c _ rows=>(oV rows).all qM)=true->∀ p∈aS (aO ol O L),∀ r∈(aH p.2).rows,j4 r)
 |[],L=>⟨by simp[aO,aS],by simp[aO,aS],by simp[aO,aS]⟩
 |(k,.l c)::O,L=>by
  match L with
  |[]=>exact⟨by simp[aO,aS],by simp[aO,aS],by simp[aO,aS]⟩
  |⟨.sl c',x⟩::L=>
   obtain⟨h1,h2,h3⟩:=sH O L;refine⟨?_,?_,?_⟩
   ·simp only[aO,aS,map_cons];exact h1.cons_cons _
   ·intro p hp;simp only[aO,aS,mem_cons]at hp;rcases hp with rfl |hp
    ·exact⟨.l c,by simp,by simp[orefs]⟩
    ·obtain⟨op,g1,g2⟩:=h2 p hp;exact⟨op,mem_cons_of_mem _ g1,g2⟩
   ·intro hL hs p hp r hr;simp only[map_cons,varsO,List.cons.injEq]at hL;simp only[all_cons,and_eq_true]at hs;simp only[aO,aS,mem_cons]at hp;rcases hp with rfl |hp
    ·obtain⟨e,_⟩:=hL;injection e with e;simp only[aH,ay,mem_map]at hr;obtain⟨q,⟨y,hy,rfl⟩,rfl⟩:=hr;exact GR (nT (e ▸ hs.1) y)
    ·exact h3 hL.2 hs.2 p hp r hr
  |⟨.int _,x⟩::L=>exact⟨by simp[aO,aS],by simp[aO,aS],by simp[aO,aS]⟩
  |⟨.bool,x⟩::L=>exact⟨by simp[aO,aS],by simp[aO,aS],by simp[aO,aS]⟩
  |⟨.str,x⟩::L=>exact⟨by simp[aO,aS],by simp[aO,aS],by simp[aO,aS]⟩
  |⟨.any,x⟩::L=>exact⟨by simp[aO,aS],by simp[aO,aS],by simp[aO,aS]⟩
  |⟨.mp _ _,x⟩::L=>exact⟨by simp[aO,aS],by simp[aO,aS],by simp[aO,aS]⟩
  |⟨.st _,x⟩::L=>exact⟨by simp[aO,aS],by simp[aO,aS],by simp[aO,aS]⟩
 |(k,.m kc vc)::O,L=>by
  match L with
  |[]=>exact⟨by simp[aO,aS],by simp[aO,aS],by simp[aO,aS]⟩
  |⟨.mp kc' vc',x⟩::L=>
   obtain⟨h1,h2,h3⟩:=sH O L;refine⟨?_,?_,?_⟩
   ·simp only[aO,aS,map_cons];exact h1.cons_cons _
   ·intro p hp;simp only[aO,aS,mem_cons]at hp;rcases hp with rfl |hp
    ·exact⟨.m kc vc,by simp,by simp[orefs]⟩
    ·obtain⟨op,g1,g2⟩:=h2 p hp;exact⟨op,mem_cons_of_mem _ g1,g2⟩
   ·intro hL hs;simp at hs
  |⟨.sl _,x⟩::L=>exact⟨by simp[aO,aS],by simp[aO,aS],by simp[aO,aS]⟩
  |⟨.int _,x⟩::L=>exact⟨by simp[aO,aS],by simp[aO,aS],by simp[aO,aS]⟩
  |⟨.bool,x⟩::L=>exact⟨by simp[aO,aS],by simp[aO,aS],by simp[aO,aS]⟩
  |⟨.str,x⟩::L=>exact⟨by simp[aO,aS],by simp[aO,aS],by simp[aO,aS]⟩
  |⟨.any,x⟩::L=>exact⟨by simp[aO,aS],by simp[aO,aS],by simp[aO,aS]⟩
  |⟨.st _,x⟩::L=>exact⟨by simp[aO,aS],by simp[aO,aS],by simp[aO,aS]⟩
 |(k,.c sz rows)::O,L=>by
  obtain⟨h1,h2,h3⟩:=sH O (oZ ol rows L).2;refine⟨?_,?_,?_⟩
  ·simp only[aO,aS,map_cons];exact h1.cons_cons _
  ·intro p hp;simp only[aO,aS,mem_cons]at hp;rcases hp with rfl |hp
   ·exact⟨.c sz rows,by simp,fun j hj=>Ls rows L j hj⟩
   ·obtain⟨op,g1,g2⟩:=h2 p hp;exact⟨op,mem_cons_of_mem _ g1,g2⟩
  ·intro hL hs p hp r hr;simp only[varsO]at hL;simp only[all_cons,and_eq_true]at hs;obtain⟨e1,e2⟩:=Du (ol:=ol) rows L _ hL;simp only[aO,aS,mem_cons]at hp;rcases hp with rfl |hp
   ·simp only[aH,mem_map]at hr;obtain⟨q,hq,rfl⟩:=hr;exact e2 hs.1 q hq
   ·exact h3 e1 hs.2 p hp r hr
end
theorem GU (k:Nat):∀ os:List (Nat×DObj X),olk (mD os) k=(dlk os k).map aH
 |[]=>rfl
 |(j,o)::r=>by
  simp only[mD,map_cons,olk,dlk];split
  ·rfl
  ·exact GU k r
theorem Lu (f:Nat->Nat) (c:CT X.ι) (x:CT.T X.toSE c):rnA f (CT.tv X.toSE c x).av=(CT.tv X.toSE c x).av:=(uI f (.c c x)).symm
theorem S9 (f:Nat->Nat) (o:DObj X):aH (rnO f o)=Cr f (aH o):=by
 cases o with
 |cells sz rows=>simp only[rnO,aH,Cr,map_map];congr 1;exact map_congr_left fun r _=>wI f r
 |lst c l=>simp only[rnO,aH,Cr,ay,map_map];congr 1;exact map_congr_left fun r _=>(VB f _).symm
 |map kc vc l=>simp only[rnO,aH,Cr,map_map];congr 1;exact map_congr_left fun r _=>by simp only[Function.comp_apply,qP,Lu]
theorem Yw (i:Nat) (ids:List Nat) (os:List (Nat×DObj X)):dh (Xv i ids os)=Qv i ids (mD os):=by
 simp only[Xv,Qv,lV];congr 1
 ·simp only[dh,map_map];refine map_congr_left fun p _=>?_;simp only[Function.comp_apply,GU,Option.map_map];congr 1;cases dlk os p.2<;>simp[S9]
 ·simp only[dh,mD,List.filter_map,map_map];refine map_congr_left fun q _=>?_;simp[S9]
theorem Lv {ds:List (DV X)}:(∀ j∈refs (den (su ds)),j∈aD ds)∧(j4 (aI ds)->nO (den (su ds))):=by
 match ds with
 |[]=>exact⟨fun j hj=>by simp[su,den,aI,refs,bH]at hj,fun _=>by simp only[su,den,nO];exact trivial⟩
 |[d]=>exact⟨fun j hj=>by simp only[su,dR]at hj;simpa[aD]using hj,fun h=>h.1⟩
 |d::e::r=>exact⟨fun j hj=>by simp only[su,den,refs,dG]at hj;exact hj,fun h=>h⟩
theorem O8:∀ xs:List (Nat×DObj X),aS (xs.map fun p=>(p.1,some p.2))=xs
 |[]=>rfl
 |p::xs=>by simp only[map_cons,aS,O8 xs]
theorem Xw:∀ l:List Tree,bH (l.map AV.t)=[]
 |[]=>rfl
 |_::l=>by simp only[map_cons,bH,refs,Xw l,nil_append]
theorem QT {P:Program} {g:GSig X} {F:FuncId} (hg:ZV P F g) {i:Nat} {first args caps:List (DV X)} {get:Nat->Option (DObj X)} {k:KK X A} {r:A} (h:VD g i (first++args++caps) get k=some r):
 ∃ orc rd wr dv upd out,fF P i (den (.fn F first caps)) (aI args) orc (aX rd (bT get))=some out∧fC out.obs∧out.v=den dv∧out.upd=dh upd∧(∀ p∈upd,p.1=nid i∨p.1∈wr)∧k dv upd rd wr=some r:=by
 unfold VD at h;rw[ai]at h;obtain⟨m1,h1,h⟩:=h;rw[ai]at h;obtain⟨m,h2,h⟩:=h;obtain⟨h3,h⟩:=aT h;rw[ai]at h;obtain⟨v,h4,h⟩:=h;obtain⟨h5,h⟩:=j5 h;rw[ai]at h;obtain⟨rr,h6,h⟩:=h;simp only[and_eq_true]at h3;obtain⟨hok,hokG⟩:=h3;simp only at h;generalize hids:(List.range g.inO.length).map (nmG m)=ids at h hokG;simp only[GSig.ok,and_eq_true,decide_eq_true_eq]at hok;obtain⟨⟨⟨⟨n1,n2⟩,n3⟩,n4⟩,n5⟩:=hok;simp only[okG,and_eq_true,decide_eq_true_eq]at hokG;obtain⟨⟨hnd,hnm⟩,hvr⟩:=hokG;have hlen:ids.length=g.inO.length:=by rw[<- hids];simp
 have hi:∀ q∈m.nm,ids[q.2]? =some q.1:=by
  intro q hq;have:=all_eq_true.1 hnm q hq;split at this
  ·rename_i k' e;rw[e,Nat.eq_of_beq_eq_true this]
  ·cases this
 have hv:∀ k∈m.vr,k∉ids:=fun k hk=>by
  have:=all_eq_true.1 hvr k hk;simpa using this
 have hrd:∀ k,(∃ q,(k,q)∈m.nm)∨k∈m.vr->k∈ids++m.vr:=by
  rintro k (⟨q,hq⟩ |hk)
  ·exact List.mem_append_left _ (List.mem_of_getElem? (hi _ hq))
  ·exact mem_append_right _ hk
 have hm2:=(ig _ _ _ h2).1;have hdcs:=Le h4;obtain⟨_,nA,dA,lA⟩:=o8 _ _ _ _ h1;simp only[nil_append]at dA;obtain⟨nB,dB,lB⟩:=yc (NM:=m.nm) _ _ _ h2 (fun q hq=>hq);have hL:m.dcs=nA++nB:=by rw[dB,dA]
 have hdrop:(oW _ v).drop (varsL g.inP).length=nB:=by rw[hdcs,hL,<- lA,List.drop_left]
 have htake:(oW _ v).take (varsL g.inP).length=nA:=by rw[hdcs,hL,<- lA,List.take_left]
 have ho:∀ q∈m.nm,∀ c l,get q.1=some (.lst c l)->vv g.inO nB q.2=l.length:=by
  rintro⟨p,q⟩ hq c l hl;have hq2:=hi _ hq;have hqn:q < g.inO.length:=by rw[<- hlen];exact (List.getElem?_eq_some_iff.1 hq2).1
  obtain⟨p',o,g1,g2,g3⟩:=lB [] q (by rw[n1];exact List.mem_range.2 hqn);have:p'=p:=by
   have e1:=hi _ g1;rw[hq2]at e1;injection e1 with e1;exact e1.symm
  subst this;simp only at hl;rw[hl]at g2;injection g2 with g2;have h3:=g3 c l g2.symm;rw[append_nil]at h3;have hk:=(yg g.inO nB).nodup (by rw[n1];exact List.nodup_range);simp only[vv,nQ hk h3,Option.getD_some]
 obtain⟨nA',dA',ds',eA,⟨hs,obs,pA,qA⟩,rA⟩:=rO (P:=P) (ids:=ids) (rd:=ids++m.vr) (NM:=m.nm) (VRS:=m.vr) (olen:=vv g.inO nB) hi hv hrd ho _ _ _ _ h1 (fun q hq=>hm2.1 q hq) (fun c hc=>h5 c (hm2.2.1 c hc)) (fun q hq=>hm2.2.2 q hq);obtain⟨nB',dB',xs,eB,bs,mo,pB,qB,rB⟩:=uJ (P:=P) (ids:=ids) (rd:=ids++m.vr) (NM:=m.nm) (VRS:=m.vr) (olen:=vv g.inO nB) hi hv hrd ho _ _ _ h2 (fun q hq=>hq) h5 (fun q hq=>hq);have eqA:nA'=nA:=by simp only[nil_append]at dA';rw[<- dA',dA]
 have eqB:nB'=nB:=List.append_cancel_left (dB'.symm.trans dB);subst eqA eqB;have eA0:=eA [];have eB0:=eB [];rw[append_nil]at eA0 eB0;have hargs:g.args v=ds':=by simp only[GSig.args,Lg,hdrop,htake,eA0]
 have hobjs:g.objs v=xs:=by simp only[GSig.objs,SA,hdrop,eB0,O8]
 have hidl:(g.inO.map fun p=>(ids[p.1]?).getD 0)=ids:=by
  have:(g.inO.map fun p=>(ids[p.1]?).getD 0)=(g.inO.map (·.1)).map fun j=>(ids[j]?).getD 0:=by rw[map_map];rfl
  rw[this,n1];refine List.ext_getElem (by simp[hlen]) fun j a b=>?_;simp[List.getElem?_eq_getElem b]
 rw[hidl]at qB rB;have qA0:=qA [];rw[append_nil,dN,dN]at qA0;have hcon:=hg v rr h6;rw[hargs,hobjs]at hcon;obtain⟨s1,s2,s3⟩:=sH (ol:=vv g.outO ((oW (varsS (zipS 0 g.outP)++varsO g.outO) rr).drop (varsL g.outP).length)) g.outO ((oW _ rr).drop (varsL g.outP).length);have nmok:∀ k,nmB g.inO.length k=true->Sc ids.length k:=by
  intro k hk;simp only[nmB,Bool.or_eq_true,and_eq_true,Nat.blt_eq,Nat.ble_eq]at hk;simp only[Sc,hlen];exact hk
 have good:OI ids.length (mD (g.outs rr)) (den (g.res rr)):=by
  refine⟨?_,?_,?_,?_⟩
  ·intro q hq;simp only[mD,mem_map]at hq;obtain⟨p,hp,rfl⟩:=hq;obtain⟨op,g1,_⟩:=s2 p hp;have:=all_eq_true.1 n3 _ g1;simp only[and_eq_true]at this;exact nmok _ this.1
  ·have:(mD (g.outs rr)).map (·.1)=(g.outs rr).map (·.1):=(by simp[mD]);rw[this];exact s1.nodup n4
  ·intro q hq r' hr' j hj;simp only[mD,mem_map]at hq;obtain⟨p,hp,rfl⟩:=hq;obtain⟨op,g1,g2⟩:=s2 p hp;have:=all_eq_true.1 n3 _ g1;simp only[and_eq_true]at this;refine nmok _ (all_eq_true.1 this.2 j (g2 j ?_));obtain⟨pk,po⟩:=p;cases po with
   |cells sz rows=>exact EW (List.mem_flatMap.2 ⟨r',hr',hj⟩)
   |lst c l=>
    simp only[aH,ay,mem_map]at hr';obtain⟨z,_,rfl⟩:=hr';rw[Xw]at hj;simp at hj
   |map kc vc l=>
    simp only[aH,mem_map]at hr';obtain⟨z,_,rfl⟩:=hr';simp only[bH,xW,append_nil]at hj;simp at hj
  ·intro j hj;have:=(Lv (ds:=Lg g.outP g.outO (oW _ rr))).1 j hj;exact nmok _ (all_eq_true.1 n5 j (sG g.outP _ j this))
 have flat:g.flat=true->flatG (mD (g.outs rr)) (den (g.res rr)):=by
  intro hf;simp only[GSig.flat,and_eq_true]at hf;have hc:(oW (varsS (zipS 0 g.outP)++varsO g.outO) rr).map (·.c)=varsL g.outP++varsO g.outO:=(VE _ rr).trans (by rw[GK]);refine⟨(Lv (ds:=Lg g.outP g.outO (oW _ rr))).2 ?_,?_⟩
  ·refine (wK (ol:=_) g.outP _ [] ?_ hf.1).1;rw[append_nil,map_take,hc,List.take_left]
  ·intro q hq r' hr';simp only[mD,mem_map]at hq;obtain⟨p,hp,rfl⟩:=hq;exact s3 (by rw[map_drop,hc,List.drop_left]) hf.2 p hp r' hr'
 have lids:KI (aX (ids++m.vr) (bT get)) (aI first++aI args++aI caps) ids m.vr bs:=by
  refine⟨hv,fun j hj hn=>?_,fun j hs' q o e1 e2 e3 z hz hn=>?_⟩
  ·rw[<- dN,<- dN,dG]at hj;rcases rA j hj with ⟨q,hq⟩ |hj
   ·exact absurd (List.mem_of_getElem? (hi _ hq)) hn
   ·exact hj
  ·rcases rB j hs' q o e1 e2 e3 z hz with ⟨q',hq⟩ |hz
   ·exact absurd (List.mem_of_getElem? (hi _ hq)) hn
   ·exact hz
 refine⟨.callg ids m.vr bs hs (mD (g.outs rr)) (den (g.res rr)) g.flat,ids++m.vr,_,_,_,
  ⟨rnA (cn i ids) (den (g.res rr)),Qv i ids (mD (g.outs rr))++(if g.flat then []else m.vr.map fun k=>(k,none)),obs++mo++[FnG P F (aI ds') (xs.map fun p=>aH p.2) (mD (g.outs rr)) (den (g.res rr)),OI ids.length (mD (g.outs rr)) (den (g.res rr)),KI (aX (ids++m.vr) (bT get)) (aI first++aI args++aI caps) ids m.vr bs]++(if g.flat then [flatG (mD (g.outs rr)) (den (g.res rr))]else [])⟩,?_,?_,(uI _ _).symm,?_,?_,h⟩
 ·simp only[den,fF,EB,qB,qA0,bind_some];rw[if_pos ⟨hnd,by omega⟩]
 ·refine lm _ (dz (dz (dz pA pB) ?_) ?_)
  ·intro z hz;simp only[mem_cons,List.not_mem_nil,or_false]at hz;rcases hz with rfl |rfl |rfl
   ·exact hcon
   ·exact good
   ·exact lids
  ·intro z hz;cases hf:g.flat with
   |true=>rw[hf]at hz;simp only[if_true,mem_singleton]at hz;subst hz;exact flat hf
   |false=>rw[hf]at hz;simp at hz
 ·simp only[lV,Yw];congr 1;cases g.flat with
  |true=>rfl
  |false=>exact (wF m.vr).symm
 ·intro p hp;refine .inr ?_;rcases mem_append.1 hp with hp |hp
  ·exact List.mem_append_left _ (mem_append_right _ (mem_map.2 ⟨p,hp,rfl⟩))
  ·cases hf:g.flat with
   |true=>rw[hf]at hp;simp at hp
   |false=>
    rw[hf]at hp;simp only[Bool.false_eq_true,if_false,mem_map]at hp;obtain⟨z,hz,rfl⟩:=hp;exact mem_append_right _ hz
end
section
variable {X:SX} {A:Type}
def Lx:RT X.ι->Bool
 | .d c=>qM c
 | .fresh e=>qM e
 | .whole _=>true
 | .mu c=>qM c
 | .mr c=>qM c
 | .mv=>true
theorem Ta {c:CT X.ι} (h:qM c=true) (x:CT.T X.toSE c):(CT.tv X.toSE c x).flat:=by
 cases c
 case st i=>exact nT h x
 all_goals first |exact trivial |cases h
theorem LA {ns:List Nat} {q:RT X.ι} {x:RT.T X q} (h:Lx q=true):∀ c∈Lh ns q x,c.flat:=by
 intro c hc;cases q<;>simp only[Lh,mem_singleton,List.not_mem_nil]at hc
 case d c=>subst hc;exact Ta h x
 case fresh e=>
  subst hc;intro row hr;obtain⟨y,_,rfl⟩:=mem_map.1 hr;exact nT h y
 case whole j=>subst hc;exact trivial
theorem IL {ns:List Nat}:∀ {l:List (RT X.ι)} {x:mh X l},l.all Lx=true->∀ c∈vw ns l x,c.flat
 |[],x,_,c,hc=>by simp[vw]at hc
 |[q],x,h,c,hc=>LA (by simpa using h) c hc
 |q::q'::l,x,h,c,hc=>by
  simp only[all_cons,and_eq_true]at h;simp only[vw,mem_append]at hc;rcases hc with hc |hc
  ·exact LA h.1 c hc
  ·exact IL (by simp only[all_cons,and_eq_true];exact h.2) c hc
theorem LB {l:List (RT X.ι)} (x:mh X l) (h:l.all Lx=true):(mE l x).flat:=by
 have:=IL (ns:=QM l x) (x:=x) h;unfold mE;split
 ·rename_i c hc;exact this c (by rw[hc];simp)
 ·exact this
theorem O9 {q:RT X.ι} {x:RT.T X q} (h:Lx q=true):Ku (kK q x):=by
 intro p hp;cases q<;>simp only[kK,mem_singleton,List.not_mem_nil,Option.some.injEq,reduceCtorEq]at hp
 case mu c=>
  subst hp;intro r hr;obtain⟨y,_,rfl⟩:=mem_map.1 hr;exact nT h y
 case mr c=>
  subst hp;intro r hr;obtain⟨y,_,rfl⟩:=mem_map.1 hr;exact nT h y
theorem Pb:∀ {l:List (RT X.ι)} {x:mh X l},l.all Lx=true->Ku (jo l x)
 |[],x,_=>fun p hp=>by simp[jo]at hp
 |[q],x,h=>O9 (q:=q) (by simpa using h)
 |q::q'::l,x,h=>by
  simp only[all_cons,and_eq_true]at h;intro p hp;rcases mem_append.1 (show some p∈kK q x.1++jo (q'::l) x.2 from hp)with hp |hp
  ·exact O9 h.1 p hp
  ·exact Pb (l:=q'::l) (by simp only[all_cons,and_eq_true];exact h.2) p hp
def Ao (i:Nat) (ids ns:List Nat):(q:RT X.ι)->RT.T X q->List (DV X)×List (Nat×Option (DObj X))
 | .d c,x=>([.c c x],[])
 | .fresh e,l=>([.own (nid i) 0 l.length],[(nid i,some (.lst e l))])
 | .whole j,_=>([match ids[j]? with |some k=> .own k 0 (ns.getD j 0) |none=> .undef],[])
 |_,_=>([],[])
def Dj (i:Nat) (ids ns:List Nat):(l:List (RT X.ι))->mh X l->Option (List (DV X)×List (Nat×Option (DObj X)))
 |[],_=>some ([],[])
 |[q],x=>some (Ao i ids ns q x)
 |q::q'::l,x=>(Dj i ids ns (q'::l) x.2).bind fun p=>if (Ao i ids ns q x.1).2.isEmpty || p.2.isEmpty then some ((Ao i ids ns q x.1).1++p.1,(Ao i ids ns q x.1).2++p.2)else none
def ada:List (DV X)->DV X
 |[d]=>d
 |ds=> .tup ds
def Yx (i:Nat) (ids:List Nat) (l:List (RT X.ι)) (x:mh X l):Option (DV X×List (Nat×Option (DObj X))):=
 (Dj i ids (QM l x) l x).bind fun p=>some (ada p.1,p.2)
theorem QU (u:List (Nat×Option (DObj X))):(dh u).isEmpty=u.isEmpty:=by cases u<;>rfl
theorem Pd (i:Nat) (ids ns:List Nat) (q:RT X.ι) (x:RT.T X q):(∃ c,Lh ns q x=[c]∧∃ d,(Ao i ids ns q x).1=[d]∧Co i ids c=(den d,dh (Ao i ids ns q x).2))∨(Lh ns q x=[]∧Ao i ids ns q x=([],[])):=by
 cases q
 case d c=>exact .inl ⟨_,rfl,_,rfl,rfl⟩
 case fresh e=>exact .inl ⟨_,rfl,_,rfl,by simp[Co,Ao,den,dh,aH,ay]⟩
 case whole j=>
  refine .inl ⟨_,rfl,_,rfl,?_⟩;simp only[Co,dh,Ao,map_nil,Prod.mk.injEq,and_true];cases ids[j]?<;>rfl
 all_goals exact .inr ⟨rfl,rfl⟩
theorem Tc (i:Nat) (ids:List Nat) (c:RC):Es i ids [c]=some ([(Co i ids c).1],(Co i ids c).2):=by simp[Es]
theorem Pe (i:Nat) (ids ns:List Nat):∀ (l:List (RT X.ι)) (x:mh X l) (p:List (DV X)×List (Nat×Option (DObj X))),Dj i ids ns l x=some p->Es i ids (vw ns l x)=some (aI p.1,dh p.2)
 |[],_,p,h=>by simp only[Dj,Option.some.injEq]at h;subst h;rfl
 |[q],x,p,h=>by
  simp only[Dj,Option.some.injEq]at h;subst h;simp only[vw];rcases Pd i ids ns q x with ⟨c,h1,d,h2,h3⟩ |⟨h1,h2⟩
  ·rw[h1,Tc,h2,h3];simp[aI]
  ·rw[h1,h2];rfl
 |q::q'::l,x,p,h=>by
  simp only[Dj]at h;rw[ai]at h;obtain⟨p',h1,h⟩:=h;have ih:=Pe i ids ns (q'::l) x.2 p' h1;split at h
  ·rename_i hc;injection h with h;subst h;simp only[vw];rcases Pd i ids ns q x.1 with ⟨c,h1,d,h2,h3⟩ |⟨h1,h2⟩
   ·rw[h1];simp only[List.singleton_append,Es,ih,bind_some,h3,QU];rw[if_pos hc,h2];simp[aI,dh]
   ·rw[h1,h2];simp only[nil_append];exact ih
  ·cases h
theorem Td {i:Nat} {ids:List Nat} {l:List (RT X.ι)} {x:mh X l} {p:DV X×List (Nat×Option (DObj X))} (h:Yx i ids l x=some p):imp i ids (mE l x)=some (den p.1,dh p.2):=by
 unfold Yx at h;rw[ai]at h;obtain⟨p',h1,h⟩:=h;injection h with h;subst h;have ih:=Pe i ids _ l x p' h1;unfold mE;split
 ·rename_i c hc;rw[hc,Tc]at ih;simp only[Option.some.injEq,Prod.mk.injEq]at ih;obtain⟨ds,u⟩:=p'
  match ds,ih with
  |[d],ih=>
   simp only[aI,List.cons.injEq,and_true]at ih;simp only[imp,ada,<- ih.1,<- ih.2]
  |[],ih=>simp[aI]at ih
  |_::_::_,ih=>simp[aI]at ih
 ·rename_i hne;simp only[imp,ih,bind_some];obtain⟨ds,u⟩:=p'
  match ds,ih with
  |[],_=>rfl
  |_::_::_,_=>rfl
  |[d],ih=>
   exfalso;generalize hcs:vw (QM l x) l x=cs at ih hne
   match cs,ih,hne with
   |[],ih,_=>simp[Es,aI]at ih
   |[c],_,hne=>exact hne c rfl
   |c::c'::cs,ih,_=>
    simp only[Es]at ih;cases h3:Es i ids cs with
    |none=>rw[h3]at ih;simp at ih
    |some q=>
     rw[h3]at ih;simp only[bind_some]at ih;split at ih
     ·simp only[bind_some]at ih;split at ih
      ·simp[aI]at ih
      ·cases ih
     ·simp at ih
def abA:(q:RT X.ι)->RT.T X q->List (Option (DObj X))
 | .mu c,x=>[some (.lst c x)]
 | .mr c,x=>[some (.cells (CT.sz X c) [nS c x])]
 | .mv,_=>[none]
 |_,_=>[]
def LC:(l:List (RT X.ι))->mh X l->List (Option (DObj X))
 |[],_=>[]
 |[q],x=>abA q x
 |q::q'::l,x=>abA q x.1++LC (q'::l) x.2
def Ap:List Nat->List (Option (DObj X))->List (Nat×Option (DObj X))
 |k::ids,p::os=>(k,p)::Ap ids os
 |_,_=>[]
theorem Te (q:RT X.ι) (x:RT.T X q):(abA q x).map (·.map aH)=(kK q x).map (·.map aob):=by
 cases q<;>try rfl
 case mr c=>simp only[abA,kK,map_cons,map_nil,Option.map_some,aH,aob,lJ,ay,iX]
theorem GV:∀ (l:List (RT X.ι)) (x:mh X l),(LC l x).map (·.map aH)=(jo l x).map (·.map aob)
 |[],_=>rfl
 |[q],x=>Te q x
 |q::q'::l,x=>by simp only[LC,jo,map_append,Te,GV (q'::l) x.2]
theorem Pf:∀ (ids:List Nat) (os:List (Option (DObj X))) (os':List (Option bJ)),os.map (·.map aH)=os'.map (·.map aob)->dh (Ap ids os)=u6 ids os'
 |[],_,_,_=>by simp[Ap,u6,dh]
 |_::_,[],[],_=>rfl
 |k::ids,p::os,p'::os',h=>by
  simp only[map_cons,List.cons.injEq]at h;have:=Pf ids os os' h.2;simp only[dh]at this;simp only[Ap,u6,dh,map_cons,h.1,this]
 |_::_,[],_::_,h=>by simp at h
 |_::_,_::_,[],h=>by simp at h
theorem Dv:∀ {ids:List Nat} {os:List (Option (DObj X))} {p:Nat×Option (DObj X)},p∈Ap ids os->p.1∈ids
 |[],_,_,h=>by simp[Ap]at h
 |_::_,[],_,h=>by simp[Ap]at h
 |k::ids,q::os,p,h=>by
  simp only[Ap,mem_cons]at h;rcases h with rfl |h
  ·simp
  ·exact mem_cons_of_mem _ (Dv h)
def QV (get:Nat->Option (DObj X)) (d:DV X) (c:CT X.ι):Option (List (CT.T X.toSE c)×Nat×List Bool):=
 match d with
 | .own k 0 len=>(get k).bind fun o=>match o with
  | .lst b l=>(bZ (.sl b) (.sl c) l).bind fun (l:List (CT.T X.toSE c))=>some (l,k,[eqL len (List.length l)])
  |_=>none
 |_=>none
def LD (get:Nat->Option (DObj X)) (d:DV X) (c:CT X.ι):Option (CT.T X.toSE c×Nat):=
 match d with
 | .ptr k 0 0=>(get k).bind fun o=>match o with
  | .cells sz [row]=>if sz=CT.sz X c then (EM c row).bind fun x=>some (x,k)else none
  |_=>none
 |_=>none
def jN (Γ:FuncId->Option (Sig X)) (get:Nat->Option (DObj X)):List (DV X)->(l:List (AT X.ι))->Option (dY X l×List Nat×List Bool)
 |[],[]=>some ((),[],[])
 |d::ds,.mut c::l=>(QV get d c).bind fun x=>(jN Γ get ds l).bind fun h=>some ((x.1,h.1),x.2.1::h.2.1,x.2.2++h.2.2)
 |d::ds,.mref c::l=>(LD get d c).bind fun x=>(jN Γ get ds l).bind fun h=>some ((x.1,h.1),x.2::h.2.1,h.2.2)
 |d::ds,.d c::l=>(II Γ get 3 [d] [.d c]).bind fun x=>(jN Γ get ds l).bind fun h=>some ((x.1.1,h.1),h.2.1,x.2++h.2.2)
 |d::ds,.ref c::l=>(II Γ get 3 [d] [.ref c]).bind fun x=>(jN Γ get ds l).bind fun h=>some ((x.1.1,h.1),h.2.1,x.2++h.2.2)
 |d::ds,.clo as r::l=>(II Γ get 3 [d] [.clo as r]).bind fun x=>(jN Γ get ds l).bind fun h=>some ((x.1.1,h.1),h.2.1,x.2++h.2.2)
 |d::ds,.nil::l=>match d with
  | .nil=>(jN Γ get ds l).bind fun h=>some (((),h.1),h.2.1,h.2.2)
  |_=>none
 |_,_=>none
def BX:List (DV X)->List (AT X.ι)->List Nat
 |d::ds,a::l=>(if a.im then []else drefs d)++BX ds l
 |_,_=>[]
def GX (get:Nat->Option (DObj X)):List (DV X)->(l:List (CT X.ι))->Option (HL X.toSE l×List Bool)
 |[],[]=>some ((),[])
 |d::ds,c::l=>(zx get d c).bind fun x=>(GX get ds l).bind fun h=>some ((x.1,h.1),x.2++h.2)
 |_,_=>none
variable (Γ:FuncId->Option (Sig X))
def Z8 (i:Nat) (f:DV X) (args:List (DV X)) (get:Nat->Option (DObj X)) (k:KK X A):Option A:=
 match f with
 | .fn F first caps=>(Γ F).bind fun s=>match s.gen.filter fun g=>(gAs get g.inP (first++args++caps) ⟨[],[],[],[]⟩).isSome with
  |some g=>VD g i (first++args++caps) get k
  |none=>if (s.args.all (fun q=>q.pl)&&s.res.all (fun q=>!q.out))=true then (II Γ get 3 (first++args++caps) s.args).bind fun a=>K4 a.2 ((s.fn a.1).bind fun x=>(Yx i [] s.res x).bind fun p=>
   if s.res.all Lx then k p.1 p.2 (aD (first++args++caps)) []
   else k p.1 (p.2++ES (aD (first++args++caps))) (aD (first++args++caps)) (aD (first++args++caps)))
  else (jN Γ get (first++args++caps) s.args).bind fun a=>K4 a.2.2 ((s.fn a.1).bind fun x=>(Yx i a.2.1 s.res x).bind fun p=>
   if (decide a.2.1.Nodup&&(BX (first++args++caps) s.args).all (fun j=>!a.2.1.contains j)&&decide ((LC s.res x).length=a.2.1.length))=true then
    if s.res.all Lx then k p.1 (p.2++Ap a.2.1 (LC s.res x)) (aD (first++args++caps)) a.2.1
    else k p.1 (p.2++(Ap a.2.1 (LC s.res x)++ES ((aD (first++args++caps)).filter fun j=>!a.2.1.contains j))) (aD (first++args++caps)) (a.2.1++(aD (first++args++caps)).filter fun j=>!a.2.1.contains j)
   else none)
 | .clo as q φ=>(GX get args as).bind fun h=>K4 h.2 ((φ h.1).bind fun y=>
  if qM q then k (.c q y) [] (aD args) []else k (.c q y) (ES (aD args)) (aD args) (aD args))
 |_=>none
def VF (fz:List Nat) (T:Tab) (code:TypeId->Option (CT X.ι)) (i:Nat) (o:Op) (ρ:Operand->DV X) (get:Nat->Option (DObj X)) (k:KK X A):Option A:=
 match o with
 | .call { callee:= .value f,args:=args,argTypes:=_ }=>Z8 Γ i (ρ f) (args.toList.map ρ) get k
 |o=>if ac6 o ρ then acB T code i o ρ get k else if ac7 o ρ || fz.contains i then acC T code i o ρ get k else if ac9 o ρ then acE T i o ρ get k else if ac8 T o ρ then acD T code o ρ get k else opD T code i o ρ get k
variable {Γ}
theorem EX {P:Program} {get:Nat->Option (DObj X)} {rd:List Nat}:∀ {ds:List (DV X)} {l:List (CT X.ι)} {h:HL X.toSE l×List Bool},GX get ds l=some h->(∀ b∈h.2,b=true)->(∀ j∈aD ds,j∈rd)->
 ∃ hs obs,(∀ p∈obs,p)∧∀ rest,iR P (aX rd (bT get)) (aI ds) (hs++rest)=some ((HL.tvs X.toSE l h.1).map TV.av,rest,obs)
 |[],[],h,_,_,_=>⟨[],[],by simp,fun rest=>rfl⟩
 |d::ds,c::l,h,hr,hc,hrd=>by
  simp only[GX]at hr;rw[ai]at hr;obtain⟨x,h1,hr⟩:=hr;rw[ai]at hr;obtain⟨g,h2,hr⟩:=hr;injection hr with hr;subst hr;obtain⟨hs1,o1,p1,q1⟩:=uH (P:=P) (rd:=rd) h1 (fun b hb=>hc b (by simp[hb])) (fun j hj=>hrd j (by simp[aD,hj]));obtain⟨hs2,o2,p2,q2⟩:=EX (P:=P) (rd:=rd) h2 (fun b hb=>hc b (by simp[hb])) (fun j hj=>hrd j (by simp[aD,hj]));refine⟨hs1++hs2,o1++o2,dz p1 p2,fun rest=>?_⟩;simp only[aI,iR,append_assoc,q1,bind_some,q2];rfl
 |[],_::_,_,hr,_,_=>by simp[GX]at hr
 |_::_,[],_,hr,_,_=>by simp[GX]at hr
theorem LF {i:Nat} {ids ns:List Nat} {q:RT X.ι} {x:RT.T X q}:∀ p∈(Ao i ids ns q x).2,p.1=nid i:=by cases q<;>simp[Ao]
theorem LG {i:Nat} {ids ns:List Nat}:∀ {l:List (RT X.ι)} {x:mh X l} {p:List (DV X)×List (Nat×Option (DObj X))},Dj i ids ns l x=some p->∀ q∈p.2,q.1=nid i
 |[],_,p,h=>by simp only[Dj,Option.some.injEq]at h;subst h;simp
 |[q],x,p,h=>by simp only[Dj,Option.some.injEq]at h;subst h;exact LF
 |q::q'::l,x,p,h=>by
  simp only[Dj]at h;rw[ai]at h;obtain⟨p',h1,h⟩:=h;split at h
  ·injection h with h;subst h;intro z hz;rcases mem_append.1 hz with hz |hz
   ·exact LF z hz
   ·exact LG h1 z hz
  ·cases h
theorem Pg {i:Nat} {ids:List Nat} {l:List (RT X.ι)} {x:mh X l} {p:DV X×List (Nat×Option (DObj X))} (h:Yx i ids l x=some p):∀ q∈p.2,q.1=nid i:=by
 unfold Yx at h;rw[ai]at h;obtain⟨p',h1,h⟩:=h;injection h with h;subst h;exact LG h1
theorem Aq {P:Program} {get:Nat->Option aF} {x:AV} {hs rest:List LH} {y:AV} {o:List Prop} (h:iR P get [x] hs=some ([y],rest,o)):jJ P get x hs=some (y,rest,o):=by
 simp only[iR,bind_some,append_nil,ai,Option.some.injEq,Prod.mk.injEq,List.cons.injEq,and_true]at h;obtain⟨q,h1,h2,h3,h4⟩:=h;rw[h1,<- h2,<- h3,<- h4]
theorem gP {d:DV X} {ds:List (DV X)} {a:AT X.ι} {l:List (AT X.ι)} {P:Nat->Prop} (h:∀ j∈BX (d::ds) (a::l),P j):(a.im=false->∀ j∈drefs d,P j)∧∀ j∈BX ds l,P j:=by
 simp only[BX,mem_append]at h;exact⟨fun e j hj=>h j (.inl (by rw[e];simpa using hj)),fun j hj=>h j (.inr hj)⟩
theorem acG {c:CT X.ι} {l:List (CT.T X.toSE c)}:bA ((ay (l.map (CT.row X.toSE c))).take (l.map (CT.row X.toSE c)).length)=ay (l.map (CT.row X.toSE c)):=by
 rw[List.take_of_length_le (by simp[ay])];simp only[bA,ay,map_map];exact map_congr_left fun y _=>by
  simp only[Function.comp,map_map];exact map_congr_left fun z _=>rfl
theorem N8 {get:Nat->Option (DObj X)} {d:DV X} {c:CT X.ι} {x:List (CT.T X.toSE c)×Nat×List Bool} (h:QV get d c=some x) (hc:∀ b∈x.2.2,b=true):
 d= .own x.2.1 0 (List.length x.1)∧∃ o,get x.2.1=some o∧(aH o).sz=(lJ c x.1).1∧bA ((aH o).rows.take (lJ c x.1).2.length)=ay (lJ c x.1).2:=by
 unfold QV at h;split at h
 ·rename_i k len;rw[ai]at h;obtain⟨o,h1,h⟩:=h;split at h
  ·rename_i b l;rw[ai]at h;obtain⟨l',h2,h⟩:=h;injection h with h;subst h;obtain⟨h3,h4⟩:=eu h2;have h5:len=List.length l':=(by simpa[eqL]using hc (eqL len (List.length l')) (by simp));refine⟨by rw[h5],.lst b l,h1,by simp only[aH,lJ];exact h3,?_⟩;simp only[aH,lJ,h4];exact acG
  ·cases h
 ·cases h
theorem LJ {get:Nat->Option (DObj X)} {d:DV X} {c:CT X.ι} {x:CT.T X.toSE c×Nat} (h:LD get d c=some x):
 d= .ptr x.2 0 0∧∃ o,get x.2=some o∧(aH o).sz=(lJ c [x.1]).1∧bA ((aH o).rows.take (lJ c [x.1]).2.length)=ay (lJ c [x.1]).2:=by
 unfold LD at h;split at h
 ·rename_i k;rw[ai]at h;obtain⟨o,h1,h⟩:=h;split at h
  ·rename_i sz row;split at h
   ·rename_i hsz;rw[ai]at h;obtain⟨y,h2,h⟩:=h;injection h with h;subst h;refine⟨rfl,_,h1,by simp only[aH,lJ];exact hsz,?_⟩;simp only[aH,lJ,map_cons,map_nil,List.length_singleton,List.take_succ_cons,List.take_zero,bA,ay];rw[rJ h2]
   ·cases h
  ·cases h
 ·cases h
theorem iY {P:Program} {Γ:FuncId->Option (Sig X)} (hΓ:GOk P Γ) {get:Nat->Option (DObj X)} {rd ids:List Nat}:∀ {n:Nat} {ds:List (DV X)} {l:List (AT X.ι)} {a:dY X l×List Nat×List Bool},jN Γ get ds l=some a->(∀ b∈a.2.2,b=true)->(∀ j∈aD ds,j∈rd)->(∀ j∈BX ds l,j∉ids)->ids.drop n=a.2.1->
 (∃ hs obs,(∀ p∈obs,p)∧∀ rest,iG P (aX rd (bT get)) ids (aI ds) (hs++rest)=some (bq n l a.1,rest,obs))∧∃ mo,uZ (aX rd (bT get)) a.2.1 (kJ l a.1)=some mo∧∀ p∈mo,p
 |n,[],[],a,h,_,_,_,_=>by
  simp only[jN,Option.some.injEq]at h;subst h;exact⟨⟨[],[],by simp,fun rest=>rfl⟩,[],rfl,by simp⟩
 |n,d::ds,.mut c::l,a,h,hc,hrd,hnr,hid=>by
  simp only[jN]at h;rw[ai]at h;obtain⟨x,h1,h⟩:=h;rw[ai]at h;obtain⟨q,h2,h⟩:=h;injection h with h;subst h;obtain⟨rfl,o,g1,g2,g3⟩:=N8 h1 (fun b hb=>hc b (by simp[hb]));have hidn:ids[n]? =some x.2.1:=by rw[<- List.head?_drop,hid];rfl
  have hid':ids.drop (n+1)=q.2.1:=by rw[<- List.tail_drop,hid];rfl
  obtain⟨⟨hs,obs,p1,p2⟩,mo,m1,m2⟩:=iY hΓ (n:=n+1) h2 (fun b hb=>hc b (by simp[hb])) (fun j hj=>hrd j (by simp[aD,hj])) (gP hnr).2 hid';refine⟨⟨.mut n::hs,obs,p1,fun rest=>?_⟩,((aH o).sz=(lJ c x.1).1∧bA ((aH o).rows.take (lJ c x.1).2.length)=ay (lJ c x.1).2)::mo,?_,?_⟩
  ·simp only[aI,den,iG,cons_append,lH,hidn,if_true,bind_some,p2,bq,nil_append]
  ·simp only[kJ,uZ,bg (hrd x.2.1 (by simp[aD,drefs])) g1,bind_some,m1]
  ·intro p hp;rcases mem_cons.1 hp with rfl |hp
   ·exact⟨g2,g3⟩
   ·exact m2 p hp
 |n,d::ds,.mref c::l,a,h,hc,hrd,hnr,hid=>by
  simp only[jN]at h;rw[ai]at h;obtain⟨x,h1,h⟩:=h;rw[ai]at h;obtain⟨q,h2,h⟩:=h;injection h with h;subst h;obtain⟨rfl,o,g1,g2,g3⟩:=LJ h1;have hidn:ids[n]? =some x.2:=by rw[<- List.head?_drop,hid];rfl
  have hid':ids.drop (n+1)=q.2.1:=by rw[<- List.tail_drop,hid];rfl
  obtain⟨⟨hs,obs,p1,p2⟩,mo,m1,m2⟩:=iY hΓ (n:=n+1) h2 (fun b hb=>hc b (by simp[hb])) (fun j hj=>hrd j (by simp[aD,hj])) (gP hnr).2 hid';refine⟨⟨.mut n::hs,obs,p1,fun rest=>?_⟩,((aH o).sz=(lJ c [x.1]).1∧bA ((aH o).rows.take (lJ c [x.1]).2.length)=ay (lJ c [x.1]).2)::mo,?_,?_⟩
  ·simp only[aI,den,iG,cons_append,lH,hidn,if_true,bind_some,p2,bq,nil_append]
  ·simp only[kJ,uZ,bg (hrd x.2 (by simp[aD,drefs])) g1,bind_some,m1]
  ·intro p hp;rcases mem_cons.1 hp with rfl |hp
   ·exact⟨g2,g3⟩
   ·exact m2 p hp
 |n,d::ds,.d c::l,a,h,hc,hrd,hnr,hid=>by
  simp only[jN]at h;rw[ai]at h;obtain⟨x,h1,h⟩:=h;rw[ai]at h;obtain⟨q,h2,h⟩:=h;injection h with h;subst h;obtain⟨hs1,o1,p1,q1⟩:=lU (P:=P) hΓ 3 (n:=n) h1 (fun b hb=>hc b (by simp[hb])) (rd:=rd) (fun j hj=>hrd j (by simp only[aD,append_nil]at hj;simp[aD,hj]));obtain⟨⟨hs,obs,p2,q2⟩,mo,m1,m2⟩:=iY hΓ (n:=n) h2 (fun b hb=>hc b (by simp[hb])) (fun j hj=>hrd j (by simp[aD,hj])) (gP hnr).2 hid;refine⟨⟨NZ (den d) hs1++hs,o1++obs,dz p1 p2,fun rest=>?_⟩,mo,m1,m2⟩;have:=rM (Aq (q1 (hs++rest))) (fun k hk=>(gP hnr).1 rfl k (by rwa [dR]at hk));rw[EU]at this;simp only[aI,iG,append_assoc,this,bind_some,q2,bq]
 |n,d::ds,.ref c::l,a,h,hc,hrd,hnr,hid=>by
  simp only[jN]at h;rw[ai]at h;obtain⟨x,h1,h⟩:=h;rw[ai]at h;obtain⟨q,h2,h⟩:=h;injection h with h;subst h;obtain⟨hs1,o1,p1,q1⟩:=lU (P:=P) hΓ 3 (n:=n) h1 (fun b hb=>hc b (by simp[hb])) (rd:=rd) (fun j hj=>hrd j (by simp only[aD,append_nil]at hj;simp[aD,hj]));obtain⟨⟨hs,obs,p2,q2⟩,mo,m1,m2⟩:=iY hΓ (n:=n) h2 (fun b hb=>hc b (by simp[hb])) (fun j hj=>hrd j (by simp[aD,hj])) (gP hnr).2 hid;refine⟨⟨NZ (den d) hs1++hs,o1++obs,dz p1 p2,fun rest=>?_⟩,mo,m1,m2⟩;have:=rM (Aq (q1 (hs++rest))) (fun k hk=>(gP hnr).1 rfl k (by rwa [dR]at hk));rw[EU]at this;simp only[aI,iG,append_assoc,this,bind_some,q2,bq]
 |n,d::ds,.clo as r::l,a,h,hc,hrd,hnr,hid=>by
  simp only[jN]at h;rw[ai]at h;obtain⟨x,h1,h⟩:=h;rw[ai]at h;obtain⟨q,h2,h⟩:=h;injection h with h;subst h;obtain⟨hs1,o1,p1,q1⟩:=lU (P:=P) hΓ 3 (n:=n) h1 (fun b hb=>hc b (by simp[hb])) (rd:=rd) (fun j hj=>hrd j (by simp only[aD,append_nil]at hj;simp[aD,hj]));obtain⟨⟨hs,obs,p2,q2⟩,mo,m1,m2⟩:=iY hΓ (n:=n) h2 (fun b hb=>hc b (by simp[hb])) (fun j hj=>hrd j (by simp[aD,hj])) (gP hnr).2 hid;refine⟨⟨NZ (den d) hs1++hs,o1++obs,dz p1 p2,fun rest=>?_⟩,mo,m1,m2⟩;have:=rM (Aq (q1 (hs++rest))) (fun k hk=>(gP hnr).1 rfl k (by rwa [dR]at hk));rw[EU]at this;simp only[aI,iG,append_assoc,this,bind_some,q2,bq]
 |n,d::ds,.nil::l,a,h,hc,hrd,hnr,hid=>by
  simp only[jN]at h;split at h
  ·rw[ai]at h;obtain⟨q,h2,h⟩:=h;injection h with h;subst h;obtain⟨⟨hs,obs,p2,q2⟩,mo,m1,m2⟩:=iY hΓ (n:=n) h2 hc (fun j hj=>hrd j (by simp[aD,hj])) (gP hnr).2 hid;refine⟨⟨.nil::hs,obs,p2,fun rest=>?_⟩,mo,m1,m2⟩;have:=rM (P:=P) (get':=aX rd (bT get)) (ids:=ids) (x:= .nilsl) (hs:= .nil::(hs++rest)) (p:=(.nilsl,hs++rest,[])) rfl (fun k hk=>by simp[refs]at hk);simp only[NZ]at this;simp only[aI,den,iG,cons_append,this,bind_some,q2,bq,nil_append]
  ·cases h
 |_,[],_::_,_,h,_,_,_,_=>by simp[jN]at h
 |_,_::_,[],_,h,_,_,_,_=>by simp[jN]at h
theorem Tf {P:Program} (hΓ:GOk P Γ) {i:Nat} {f:DV X} {args:List (DV X)} {get:Nat->Option (DObj X)} {k:KK X A} {r:A} (h:Z8 Γ i f args get k=some r):
 ∃ orc rd wr dv upd out,fF P i (den f) (aI args) orc (aX rd (bT get))=some out∧fC out.obs∧out.v=den dv∧out.upd=dh upd∧(∀ p∈upd,p.1=nid i∨p.1∈wr)∧k dv upd rd wr=some r:=by
 unfold Z8 at h;split at h
 ·rename_i F first caps
  rw[ai]at h;obtain⟨s,h1,h⟩:=h;split at h
  ·rename_i g hgen;exact QT ((hΓ F s h1).2.2 g (Option.filter_eq_some_iff.1 hgen).1) h
  split at h
  ·rename_i hpure;rw[ai]at h;obtain⟨⟨a,cs⟩,h2,h⟩:=h;obtain⟨hcs,h⟩:=j5 h;rw[ai]at h;obtain⟨x,h3,h⟩:=h;rw[ai]at h;obtain⟨p,h4,h⟩:=h;have hf0:=(hΓ F s h1).2.1 a x h3;simp only[and_eq_true]at hpure;rw[sD (ac3 hpure.1),SC hpure.2]at hf0;have hf:=KV hf0;have hi:=Td h4;have hk:=Pg h4;obtain⟨hs,obs,g1,g2⟩:=lU (P:=P) hΓ 3 h2 hcs (rd:=aD (first++args++caps)) (fun j hj=>hj);have g3:=g2 [];rw[append_nil,dN,dN]at g3;have hrefs:bH (aI first++aI args++aI caps)=aD (first++args++caps):=(by rw[<- dN,<- dN,dG]);split at h
   ·rename_i hfl;refine⟨.call hs (mE s.res x) true,_,[],p.1,p.2,⟨den p.1,dh p.2,obs++[FnP P F (sw s.args a) (mE s.res x),(mE s.res x).flat]⟩,?_,?_,rfl,rfl,fun q hq=> .inl (hk q hq),h⟩
    ·simp only[den,fF,jM,qO,hi,bind_some,g3];rfl
    ·exact lm _ (dz g1 (by
      intro q hq;simp only[mem_cons,List.not_mem_nil,or_false]at hq;rcases hq with rfl |rfl
      ·exact hf
      ·exact LB x hfl))
   ·refine⟨.call hs (mE s.res x) false,_,_,p.1,_,⟨den p.1,dh p.2++(aD (first++args++caps)).map (fun k=>(k,none)),obs++[FnP P F (sw s.args a) (mE s.res x)]⟩,?_,?_,rfl,?_,?_,h⟩
    ·simp only[den,fF,jM,qO,hi,bind_some,g3,hrefs];rfl
    ·exact lm _ (dz g1 (by
      intro q hq;simp only[mem_singleton]at hq;subst hq;exact hf))
    ·simp only[lV,wF]
    ·intro q hq;rcases mem_append.1 hq with hq |hq
     ·exact .inl (hk q hq)
     ·exact .inr (BR hq)
  ·rename_i hpure;rw[ai]at h;obtain⟨⟨a,ids,cs⟩,h2,h⟩:=h;obtain⟨hcs,h⟩:=j5 h;rw[ai]at h;obtain⟨x,h3,h⟩:=h;rw[ai]at h;obtain⟨p,h4,h⟩:=h;split at h
   ·rename_i hc;simp only[and_eq_true,decide_eq_true_eq]at hc;obtain⟨⟨hnd,hnr⟩,hlen⟩:=hc;have hf:=(hΓ F s h1).2.1 a x h3;have hi:=Td h4;have hk:=Pg h4;obtain⟨⟨hs,obs,g1,g2⟩,mo,m1,m2⟩:=iY (P:=P) hΓ (rd:=aD (first++args++caps)) (ids:=ids) (n:=0) h2 hcs (fun j hj=>hj) (fun j hj=>by simpa using all_eq_true.1 hnr j hj) rfl;have g3:=g2 [];rw[append_nil,dN,dN]at g3;have hrefs:bH (aI first++aI args++aI caps)=aD (first++args++caps):=(by rw[<- dN,<- dN,dG]);have hlen':(jo s.res x).length=ids.length:=by
     rw[<- hlen];simpa using (congrArg List.length (GV s.res x)).symm
    have hout:dh (Ap ids (LC s.res x))=u6 ids (jo s.res x):=Pf _ _ _ (GV s.res x);split at h
    ·rename_i hfl;refine⟨.callw ids (kJ s.args a) (jo s.res x) hs (mE s.res x) true,_,ids,p.1,_,⟨den p.1,dh p.2++u6 ids (jo s.res x),obs++mo++[FnW P F (sw s.args a) (kJ s.args a) (jo s.res x) (mE s.res x),(mE s.res x).flat,Ku (jo s.res x)]⟩,?_,?_,rfl,?_,?_,h⟩
     ·simp only[den,fF,jM,z8,hi,bind_some,m1,g3];rw[if_pos ⟨hnd,hlen'⟩];rfl
     ·refine lm _ (dz (dz g1 m2) ?_);intro q hq;simp only[mem_cons,List.not_mem_nil,or_false]at hq;rcases hq with rfl |rfl |rfl
      ·exact hf
      ·exact LB x hfl
      ·exact Pb hfl
     ·simp only[lV,hout]
     ·intro q hq;rcases mem_append.1 hq with hq |hq
      ·exact .inl (hk q hq)
      ·exact .inr (Dv hq)
    ·refine⟨.callw ids (kJ s.args a) (jo s.res x) hs (mE s.res x) false,_,_,p.1,_,⟨den p.1,dh p.2++(u6 ids (jo s.res x)++((aD (first++args++caps)).filter fun j=>!ids.contains j).map (fun k=>(k,none))),obs++mo++[FnW P F (sw s.args a) (kJ s.args a) (jo s.res x) (mE s.res x)]⟩,?_,?_,rfl,?_,?_,h⟩
     ·simp only[den,fF,jM,z8,hi,bind_some,m1,g3,zZ,hrefs];rw[if_pos ⟨hnd,hlen'⟩];rfl
     ·refine lm _ (dz (dz g1 m2) ?_);intro q hq;simp only[mem_singleton]at hq;subst hq;exact hf
     ·simp only[lV,hout,wF]
     ·intro q hq;rcases mem_append.1 hq with hq |hq
      ·exact .inl (hk q hq)
      ·rcases mem_append.1 hq with hq |hq
       ·exact .inr (List.mem_append_left _ (Dv hq))
       ·exact .inr (mem_append_right _ (BR hq))
   ·cases h
 ·rename_i as q φ;rw[ai]at h;obtain⟨⟨hh,cs⟩,h1,h⟩:=h;obtain⟨hcs,h⟩:=j5 h;rw[ai]at h;obtain⟨y,h2,h⟩:=h;obtain⟨hs,obs,g1,g2⟩:=EX (P:=P) h1 hcs (rd:=aD args) (fun j hj=>hj);have g3:=g2 [];rw[append_nil]at g3;have hφ:∃ h' x',φ h'=some x'∧HL.tvs X.toSE as hh=HL.tvs X.toSE as h'∧CT.tv X.toSE q y=CT.tv X.toSE q x':=⟨hh,y,h2,rfl,rfl⟩;split at h
  ·rename_i hfl;refine⟨.cclo hs (HL.tvs X.toSE as hh) (CT.tv X.toSE q y) true,_,[],.c q y,[],⟨(CT.tv X.toSE q y).av,[],obs++[(HL.tvs X.toSE as hh).map TV.av=(HL.tvs X.toSE as hh).map TV.av,(∃ h' x',φ h'=some x'∧HL.tvs X.toSE as hh=HL.tvs X.toSE as h'∧CT.tv X.toSE q y=CT.tv X.toSE q x'),(CT.tv X.toSE q y).flat]⟩,?_,?_,rfl,rfl,by simp,h⟩
   ·simp only[den,fF,jM,qO,g3,bind_some];rfl
   ·exact lm _ (dz g1 (by
     intro z hz;simp only[mem_cons,List.not_mem_nil,or_false]at hz;rcases hz with rfl |rfl |rfl
     ·trivial
     ·exact hφ
     ·exact Ta hfl y))
  ·refine⟨.cclo hs (HL.tvs X.toSE as hh) (CT.tv X.toSE q y) false,_,_,.c q y,_,⟨(CT.tv X.toSE q y).av,(aD args).map (fun k=>(k,none)),obs++[(HL.tvs X.toSE as hh).map TV.av=(HL.tvs X.toSE as hh).map TV.av,(∃ h' x',φ h'=some x'∧HL.tvs X.toSE as hh=HL.tvs X.toSE as h'∧CT.tv X.toSE q y=CT.tv X.toSE q x')]⟩,?_,?_,rfl,(wF _).symm,fun z hz=> .inr (BR hz),h⟩
   ·simp only[den,fF,jM,qO,g3,bind_some,dG];rfl
   ·exact lm _ (dz g1 (by
     intro z hz;simp only[mem_cons,List.not_mem_nil,or_false]at hz;rcases hz with rfl |rfl
     ·trivial
     ·exact hφ))
 ·cases h
theorem VG {P:Program} (hΓ:GOk P Γ) {fz:List Nat} {T:Tab} {code:TypeId->Option (CT X.ι)} {i:Nat} {o:Oper} {ρ:Operand->DV X} {get:Nat->Option (DObj X)} {k:KK X A} {r:A} (h:VF Γ fz T code i o.op ρ get k=some r):SdAny P T i o ρ get k r:=by
 obtain⟨dst,op,ty,pos,after,guard⟩:=o;unfold VF at h;simp only at h;split at h
 ·rename_i f args tys;have:=Tf hΓ h;simp only[<- JX]at this;obtain⟨orc,rd,wr,dv,upd,out,g1,g2⟩:=this;exact .call g1 g2
 ·split at h
  ·exact Vx (o:=⟨dst,op,ty,pos,after,guard⟩) h
  ·split at h
   ·exact Vy (o:=⟨dst,op,ty,pos,after,guard⟩) h
   ·split at h
    ·exact VA (o:=⟨dst,op,ty,pos,after,guard⟩) h
    split at h
    ·exact Vz (o:=⟨dst,op,ty,pos,after,guard⟩) h
    ·rename_i hne _ _ _ _;obtain⟨orc,rd,wr,dv,upd,out,g1,g2⟩:=OY (o:=⟨dst,op,ty,pos,after,guard⟩) h;exact SdAny.op (fun f args tys e=>hne f args tys e) g1 g2
end
def Wkn (x y:AV):Prop:=∀ P β w I v,VR P β w I x v->VR P β w I y v
theorem Wkn.refl (x:AV):Wkn x x:=fun _ _ _ _ _ h=>h
theorem Wkn.undef (x:AV):Wkn x .undef:=fun _ _ _ _ _ _=>by simp[VR]
theorem Wkn.wk (x:AV):Wkn x (wk x):=fun _ _ _ _ _ h=>h.wk
section
variable {P:Program} {w0:World} {O0:Was} {N:Nat} {β:Nat->Option Blk} {I:Nat->Prop} {a:Act} {w:World} {f g:Nat->Nat} {D:Nat->Prop}
mutual
theorem VR.rn (hgf:∀ k,D k->g (f k)=k):∀ (x:AV) (v:Value),(∀ k∈refs x,D k)->VR P β w I x v->VR P (fun j=>β (g j)) w I (rnA f x) v
 | .own k off len,v,hd,h=>by simp only[rnA,VR,hgf k (hd k (by simp[refs]))]at h ⊢;exact h
 | .ptr k row off,v,hd,h=>by simp only[rnA,VR,hgf k (hd k (by simp[refs]))]at h ⊢;exact h
 | .agg cs,v,hd,h=>by
  simp only[rnA,VR]at h ⊢;obtain⟨vs,h1,h2⟩:=h;exact⟨vs,h1,VRl.rn hgf cs _ (by simpa[refs]using hd) h2⟩
 | .tup cs,v,hd,h=>by
  simp only[rnA,VR]at h ⊢;obtain⟨vs,h1,h2⟩:=h;exact⟨vs,h1,VRl.rn hgf cs _ (by simpa[refs]using hd) h2⟩
 | .fn F first caps,v,hd,h=>by
  simp only[rnA,VR]at h ⊢;obtain⟨fs,cs,h1,h2,h3⟩:=h;exact⟨fs,cs,h1,VRl.rn hgf first _ (fun k hk=>hd k (by simp[refs,hk])) h2,VRl.rn hgf caps _ (fun k hk=>hd k (by simp[refs,hk])) h3⟩
 | .t x,v,_,h=>by simpa[rnA,VR]using h
 | .rptr r o,v,_,h=>by simpa[rnA,VR]using h
 | .clo φ,v,_,h=>by simpa[rnA,VR]using h
 | .mp k,v,hd,h=>by simp only[rnA,VR,hgf k (hd k (by simp[refs]))]at h ⊢;exact h
 | .oz k len,v,hd,h=>by simp only[rnA,VR,hgf k (hd k (by simp[refs]))]at h ⊢;exact h
 | .nilsl,v,_,h=>by simpa[rnA,VR]using h
 | .ub,v,_,h=>by simpa[rnA,VR]using h
 | .undef,v,_,h=>by simp[rnA,VR]
theorem VRl.rn (hgf:∀ k,D k->g (f k)=k):∀ (xs:List AV) (vs:List Value),(∀ k∈bH xs,D k)->VRl P β w I xs vs->VRl P (fun j=>β (g j)) w I (qP f xs) vs
 |[],[],_,_=>by simp[qP,VRl]
 |x::xs,v::vs,hd,h=>by
  simp only[VRl]at h;simp only[qP,VRl];exact⟨VR.rn hgf x v (fun k hk=>hd k (by simp[bH,hk])) h.1,VRl.rn hgf xs vs (fun k hk=>hd k (by simp[bH,hk])) h.2⟩
 |[],_::_,_,h=>by simp[VRl]at h
 |_::_,[],_,h=>by simp[VRl]at h
end
def RowW (D:Nat->Prop) (f:Nat->Nat):List AV->List AV->Prop
 |[],[]=>True
 |x::xs,y::ys=>((∀ k∈refs x,D k)∧Wkn (rnA f x) y)∧RowW D f xs ys
 |_,_=>False
def RowsW (D:Nat->Prop) (f:Nat->Nat):List (List AV)->List (List AV)->Prop
 |[],[]=>True
 |r::rs,q::qs=>RowW D f r q∧RowsW D f rs qs
 |_,_=>False
theorem RowW.length:∀ {r q:List AV},RowW D f r q->q.length=r.length
 |[],[],_=>rfl
 |_::xs,_::ys,h=>by simp[RowW.length h.2]
 |[],_::_,h=>h.elim
 |_::_,[],h=>h.elim
theorem ORow.re (hgf:∀ k,D k->g (f k)=k):∀ {r q:List AV} {c:Array Value} {off:Nat},RowW D f r q->ORow P β w I r c off->ORow P (fun j=>β (g j)) w I q c off
 |[],[],_,_,_,_=>trivial
 |x::xs,y::ys,c,off,hr,⟨⟨v,h1,h2,h3⟩,h4⟩=>⟨⟨v,h1,hr.1.2 _ _ _ _ _ (VR.rn hgf x v hr.1.1 h2),h3⟩,ORow.re hgf hr.2 h4⟩
 |[],_::_,_,_,h,_=>h.elim
 |_::_,[],_,_,h,_=>h.elim
theorem ORows.re (hgf:∀ k,D k->g (f k)=k):∀ {rs qs:List (List AV)} {c:Array Value} {off sz:Nat},RowsW D f rs qs->ORows P β w I rs c off sz->ORows P (fun j=>β (g j)) w I qs c off sz
 |[],[],_,_,_,_,_=>trivial
 |r::rs,q::qs,c,off,sz,hr,⟨h1,h2,h3⟩=>⟨by rw[hr.1.length];exact h1,ORow.re hgf hr.1 h2,ORows.re hgf hr.2 h3⟩
 |[],_::_,_,_,_,h,_=>h.elim
 |_::_,[],_,_,_,h,_=>h.elim
theorem VRl.re (hgf:∀ k,D k->g (f k)=k):∀ {r q:List AV} {vs:List Value},RowW D f r q->VRl P β w I r vs->VRl P (fun j=>β (g j)) w I q vs
 |[],[],[],_,_=>by simp[VRl]
 |x::xs,y::ys,v::vs,hr,h=>by
  simp only[VRl]at h ⊢;exact⟨hr.1.2 _ _ _ _ _ (VR.rn hgf x v hr.1.1 h.1),VRl.re hgf hr.2 h.2⟩
 |[],_::_,_,h,_=>h.elim
 |_::_,[],_,h,_=>h.elim
 |[],[],_::_,_,h=>by simp[VRl]at h
 |_::_,_::_,[],_,h=>by simp[VRl]at h
theorem MRows.re (hgf:∀ k,D k->g (f k)=k):∀ {rs qs:List (List AV)} {es:List MapEntry},RowsW D f rs qs->MRows P β w I rs es->MRows P (fun j=>β (g j)) w I qs es
 |[],[],[],_,_=>trivial
 |r::rs,q::qs,_::es,hr,⟨h1,h2⟩=>⟨VRl.re hgf hr.1 h1,MRows.re hgf hr.2 h2⟩
 |[],_::_,_,h,_=>h.elim
 |_::_,[],_,h,_=>h.elim
 |[],[],_::_,_,h=>h.elim
 |_::_,_::_,[],_,h=>h.elim
theorem RowsW.length:∀ {rs qs:List (List AV)},RowsW D f rs qs->qs.length=rs.length
 |[],[],_=>rfl
 |_::xs,_::ys,h=>by simp[RowsW.length h.2]
 |[],_::_,h=>h.elim
 |_::_,[],h=>h.elim
theorem Rel.re {s s':St} (hgf:∀ k,D k->g (f k)=k) (hg:∀ j,j < 1000->g j=j) (hr:Rel P w0 O0 N β I s a w) (hok:∀ t,s.ok t=none∨s'.env t= .undef) (hok':∀ t,s'.ok t=none)
 (hE:∀ t,s'.env t= .undef∨((∀ k∈refs (s.env t),D k)∧Wkn (rnA f (s.env t)) (s'.env t)))
 (hO:∀ j o',s'.obj j=some o'->∃ k o,s.obj k=some o∧D k∧f k=j∧o'.sz=o.sz∧RowsW D f o.rows o'.rows):Rel P w0 O0 N (fun j=>β (g j)) I s' a w:=by
 refine⟨hr.defers,hr.size,fun t=>?_,?_⟩
 ·have h1:=hr.env t;rw[hok' t];rcases hok t with hk |h
  rotate_left
  ·rw[h];simp[SlotR,VR]
  rw[hk]at h1;rcases hE t with h |⟨h2,h3⟩
  ·rw[h];simp[SlotR,VR]
  ·exact h3 _ _ _ _ _ (VR.rn hgf _ _ h2 h1)
 ·have hm:=hr.mem;constructor
  ·intro j o' hj;obtain⟨k,o,h1,h2,rfl,h4,h5⟩:=hO j o' hj;obtain⟨B,hB,hOR⟩:=hm.objs k o h1;refine⟨B,by simp only[hgf k h2];exact hB,?_⟩;cases B with
   |none=>
    simp only[OR]at hOR ⊢;rw[hOR]at h5;cases ho:o'.rows with
    |nil=>rfl
    |cons=>rw[ho]at h5;exact h5.elim
   | «at» b sz n=>
    obtain⟨g1,c,e,g2,g3,g4⟩:=hOR;exact⟨by rw[g1,h4],c,e,g2,g3,ORows.re hgf h5 g4⟩
   |mp b=>
    obtain⟨es,cl,g1,gl,g2,g3⟩:=hOR;have hl:=h5.length;exact⟨es,cl,g1,by omega,fun e=>MRows.re hgf h5 (g2 (by omega)),g3⟩
  ·intro j j' o o' B B' b h1 h2 h3 h4 h5 h6;obtain⟨k,q,i1,i2,rfl,_⟩:=hO j o h1;obtain⟨k',q',i1',i2',rfl,_⟩:=hO j' o' h2;simp only[hgf k i2,hgf k' i2']at h3 h4;rw[hm.injB k k' q q' B B' b i1 i1' h3 h4 h5 h6]
  ·intro j o B b h1 h2;obtain⟨k,q,i1,i2,rfl,_⟩:=hO j o h1;simp only[hgf k i2]at h2;exact hm.ownB k q B b i1 h2
  ·exact hm.lt
  ·exact hm.up
  ·exact hm.keep
  ·exact hm.le
  ·exact hm.os
  ·exact hm.tape
  ·exact hm.output
  ·intro j B hj;show β (g j)=some B;rw[hg j (O0.lt j B hj)];exact hm.anch j B hj
  ·exact hm.vars
end
section
variable {X:SX}
theorem Tg {D:Nat->Prop} (f:Nat->Nat):∀ r:List (DV X),(∀ k∈aD r,D k)->RowW D f (aI r) (aI (Cu f r))
 |[],_=>trivial
 |x::xs,h=>⟨⟨fun k hk=>h k (by rw[dR]at hk;simp[aD,hk]),by rw[uI];exact Wkn.refl _⟩,Tg f xs fun k hk=>h k (by simp[aD,hk])⟩
theorem BZ {D:Nat->Prop} (f:Nat->Nat) (o:DObj X) (h:∀ k∈orefs o,D k):(aH (rnO f o)).sz=(aH o).sz∧RowsW D f (aH o).rows (aH (rnO f o)).rows:=by
 cases o with
 |cells sz rows=>
  refine⟨rfl,?_⟩;simp only[aH,rnO,map_map];simp only[orefs]at h
  induction rows with
  |nil=>trivial
  |cons r rs ih=>
   refine⟨Tg f r fun k hk=>h k (by simp[hk]),ih fun k hk=>h k ?_⟩;simp only[map_cons,flatten_cons,mem_append];exact .inr hk
 |lst c l=>
  refine⟨rfl,?_⟩;simp only[aH,rnO];generalize l.map (CT.row X.toSE c)=rows;have hrow:∀ r:List Tree,RowW D f (r.map AV.t) (r.map AV.t):=by
   intro r
   induction r with
   |nil=>trivial
   |cons y ys ih=>exact⟨⟨by simp[refs],Wkn.refl _⟩,ih⟩
  induction rows with
  |nil=>trivial
  |cons r rs ih=>exact⟨hrow r,ih⟩
 |map kc vc l=>
  refine⟨rfl,?_⟩;simp only[aH,rnO];clear h
  induction l with
  |nil=>trivial
  |cons p ps ih=>exact⟨⟨⟨by simp[xW],by rw[Lu];exact Wkn.refl _⟩,⟨by simp[xW],by rw[Lu];exact Wkn.refl _⟩,trivial⟩,ih⟩
structure Low (s:DSt X):Prop where
 le:s.nx<=1000000
 ge:1000<=s.nx
 env:∀ t,∀ k∈drefs (lke s.env t),k < s.nx
 obj:∀ k o,lko s.obj k=some o->k < s.nx∧∀ j∈orefs o,j < s.nx
theorem LK {o:DObj X} {r:List AV} {x:AV} (hr:r∈(aH o).rows) (hx:x∈r):∀ j∈refs x,j∈orefs o:=by
 intro j hj;cases o with
 |cells sz rows=>
  simp only[aH,mem_map]at hr;obtain⟨q,hq,rfl⟩:=hr;rw[jm,mem_map]at hx;obtain⟨d,hd,rfl⟩:=hx;simp only[orefs,List.mem_flatten,mem_map];refine⟨_,⟨q,hq,rfl⟩,?_⟩;have:∀ l:List (DV X),d∈l->j∈aD l:=by
   intro l
   induction l with
   |nil=>intro h;simp at h
   |cons y ys ih=>intro h;rcases mem_cons.1 h with rfl |h
                  ·simp only[aD,mem_append];left;rwa [dR]at hj
                  ·simp only[aD,mem_append];exact .inr (ih h)
  exact this q hd
 |lst c l=>
  simp only[aH,ay,mem_map]at hr;obtain⟨q,_,rfl⟩:=hr;simp only[mem_map]at hx;obtain⟨t,_,rfl⟩:=hx;simp[refs]at hj
 |map kc vc l=>
  simp only[aH,mem_map]at hr;obtain⟨q,_,rfl⟩:=hr;simp only[mem_cons,List.not_mem_nil,or_false]at hx;rcases hx with rfl |rfl<;>simp[xW]at hj
theorem Low.old {s:DSt X} (h:Low s):Old s.st:=by
 have hle:=h.le;constructor
 ·intro t k hk;have:=h.env t k (by rw[<- dR];exact hk);omega
 ·intro k o hk;simp only[DSt.st,Option.map_eq_some_iff]at hk;obtain⟨o',h1,rfl⟩:=hk;obtain⟨h2,h3⟩:=h.obj k o' h1;refine⟨by omega,fun r hr x hx j hj=>?_⟩;have:=h3 j (LK hr hx j hj);omega
end
section
variable {X:SX} {A:Type}
def lkE (e b:List (Nat×DV X)) (t:Nat):DV X:=match lk e t with |some x=>x |none=>lke b t
def lkO (o b:List (Nat×Option (DObj X))) (k:Nat):Option (DObj X):=match lk o k with |some x=>x |none=>lko b k
def tX (dst:Option Tmp) (dv:DV X) (e:List (Nat×DV X)):List (Nat×DV X):=match dst with |some t=>(t,dv)::e |none=>e
def LM:DV X->DV X
 | .skip=> .undef
 |x=>x
def Dk (e:List (Nat×DV X)):Operand->Bool
 | .tmp t=>match lk e t with |some .skip=>false |_=>true
 |_=>true
def IQ (e b:List (Nat×DV X)) (o:Op):Bool:=
 match o with
 | .pick c x y=>Dk e c&&((Dk e x&&Dk e y) || match KZ (lkE e b) c with | .c .bool t=>bif t then Dk e x else Dk e y |_=>false)
 |o=>o.operands.toList.all (Dk e)
abbrev Fps:=List (Nat×List Nat×List Nat)
section
variable (Γ:FuncId->Option (Sig X)) (fz:List Nat) (T:Tab) (code:TypeId->Option (CT X.ι)) (ops:Array Oper) (b:DSt X)
def sI (k:List (Nat×DV X)->List (Nat×Option (DObj X))->Fps->Option A):List Nat->List (Nat×DV X)->List (Nat×Option (DObj X))->Fps->Option A
 |[],e,o,fps=>k e o fps
 |i::r,e,o,fps=>(ops[i]?).bind fun op=>match op.guard with
  |none=>bif IQ e b.env op.op then VF Γ fz T code i op.op (KZ (lkE e b.env)) (lkO o b.obj) fun dv upd rd wr=>sI k r (tX op.dst (LM dv) e) (upd++o) ((i,rd,wr)::fps)else none
  |some (j,p)=>((ops[j]?).bind (·.dst)).bind fun t=>match lkE e b.env t with
   | .c .bool v=>
    bif v then (bif p then (bif IQ ((t,.c .bool true)::e) b.env op.op then VF Γ fz T code i op.op (KZ (lkE ((t,.c .bool true)::e) b.env)) (lkO o b.obj) fun dv upd rd wr=>sI k r (tX op.dst (LM dv) ((t,.c .bool true)::e)) (upd++o) ((i,rd,wr)::fps)else none)
     else sI k r (tX op.dst .skip ((t,.c .bool true)::e)) o ((i,[],[])::fps))
    else (bif p then sI k r (tX op.dst .skip ((t,.c .bool false)::e)) o ((i,[],[])::fps)
     else (bif IQ ((t,.c .bool false)::e) b.env op.op then VF Γ fz T code i op.op (KZ (lkE ((t,.c .bool false)::e) b.env)) (lkO o b.obj) fun dv upd rd wr=>sI k r (tX op.dst (LM dv) ((t,.c .bool false)::e)) (upd++o) ((i,rd,wr)::fps)else none))
   | .skip=>bif (lk e t).isSome then sI k r (tX op.dst .skip e) o ((i,[],[])::fps)else none
   |_=>none
end
def dM (b:DSt X) (e:List (Nat×DV X)) (o:List (Nat×Option (DObj X))):St:=⟨fun t=>den (lkE e b.env t),fun k=>(lkO o b.obj k).map aH,fun t=>match lk e t with |some .skip=>some false |_=>none⟩
theorem Yy (x:DV X):den (LM x)=den x:=by cases x<;>rfl
theorem Z9 (b:DSt X) (e:List (Nat×DV X)) (o:List (Nat×Option (DObj X))) (dst:Option Tmp) (dv:DV X) (upd:List (Nat×Option (DObj X))) (obs:List Prop):
 (dM b e o).app dst (⟨den dv,dh upd,obs⟩,none)=dM b (tX dst (LM dv) e) (upd++o):=by
 simp only[dM,St.app,St.mk.injEq];refine⟨?_,?_,?_⟩
 ·funext t;cases dst with
  |none=>simp[rU,tX]
  |some d=>
   simp only[rU,tX,lkE,lk,Option.some.injEq];by_cases h:d=t<;>simp[h,Yy]
 ·funext j
  induction upd with
  |nil=>rfl
  |cons p u ih=>
   obtain⟨q,x⟩:=p;simp only[dh,map_cons,aL,cons_append,lkO,lk]at ih ⊢;by_cases h:j=q
   ·simp[h]
   ·rw[if_neg h,if_neg (Ne.symm h)];exact ih
 ·funext t;cases dst with
  |none=>simp[rU,tX]
  |some d=>
   simp only[rU,tX,lk,Option.some.injEq];by_cases h:d=t
   ·simp only[h,if_true];cases dv<;>rfl
   ·simp only[if_neg h]
theorem Yz (b:DSt X) (e:List (Nat×DV X)) (o:List (Nat×Option (DObj X))) (dst:Option Tmp):(dM b e o).app dst (⟨.undef,[],[]⟩,some false)=dM b (tX dst .skip e) o:=by
 simp only[dM,St.app,St.mk.injEq];refine⟨?_,rfl,?_⟩
 ·funext t;cases dst with
  |none=>simp[rU,tX]
  |some d=>
   simp only[rU,tX,lkE,lk,Option.some.injEq];by_cases h:d=t<;>simp[h,den]
 ·funext t;cases dst with
  |none=>simp[rU,tX]
  |some d=>
   simp only[rU,tX,lk,Option.some.injEq];by_cases h:d=t<;>simp[h]
theorem Ti (b:DSt X) (e:List (Nat×DV X)) (o:List (Nat×Option (DObj X))):opv (dM b e o).env=fun x=>den (KZ (lkE e b.env) x):=by funext x;exact (EL _ x).symm
theorem wL {b:DSt X} {e:List (Nat×DV X)} {o:List (Nat×Option (DObj X))} {x:Operand} (h:Dk e x=true):qL (dM b e o).ok x=[]:=by
 cases x with
 |tmp t=>
  simp only[Dk]at h;simp only[qL,dM];cases ht:lk e t with
  |none=>rfl
  |some d=>rw[ht]at h;cases d<;>first |rfl |cases h
 |_=>rfl
theorem YA {b:DSt X} {e:List (Nat×DV X)} {o:List (Nat×Option (DObj X))} {P:Program} {T:Tab} {i:Nat} {op:Oper} {orc:Orc} {get:Nat->Option aF} {out:Out} (hok:IQ e b.env op.op=true)
 (h:eT P T i op orc (opv (dM b e o).env) get=some out):∀ p∈needs (dM b e o).env (dM b e o).ok op.op,p:=by
 obtain⟨dst,op,ty,pos,after,guard⟩:=op;unfold needs;split
 ·rename_i c x y heq;simp only at heq;subst heq;simp only[IQ,and_eq_true,Bool.or_eq_true]at hok;obtain⟨hc,hxy⟩:=hok;have hb:∃ t,opv (dM b e o).env c= .t (.sc (.bool t)):=by
   have h0:(∃ n,orc= .ext n)∨(∃ ids fr q,orc= .frz ids fr q)∨kF T i ⟨dst,.pick c x y,ty,pos,after,guard⟩ orc (opv (dM b e o).env) get=some out:=(by cases orc<;>first |exact .inl ⟨_,rfl⟩ |exact .inr (.inl ⟨_,_,_,rfl⟩) |exact .inr (.inr h));rcases h0 with ⟨n,rfl⟩ |⟨ids,fr,q,rfl⟩ |h0
   ·simp[eT,j3,X9,jF,gH]at h
   ·simp[eT,Aa,U7]at h
   ·simp only[kF]at h0;split at h0
    ·rename_i t ht;exact⟨t,ht⟩
    ·cases h0
  obtain⟨t,ht⟩:=hb;rw[ht];simp only[wL hc,nil_append];rcases hxy with ⟨hx,hy⟩ |hxy
  ·simp[wL hx,wL hy]
  ·split at hxy
   ·rename_i t' ht';have e1:opv (dM b e o).env c= .t (.sc (.bool t')):=(by rw[Ti];simp only[ht'];rfl);rw[e1]at ht;injection ht with ht;injection ht with ht;injection ht with ht;subst ht;cases t' with
    |true=>
     simp only[cond_true]at hxy;simp[wL hxy]
    |false=>
     simp only[cond_false]at hxy;simp[wL hxy]
   ·cases hxy
 ·rename_i o' hne;intro p hp;have hall:∀ x∈op.operands.toList,Dk e x=true:=by
   have:IQ e b.env op=op.operands.toList.all (Dk e):=(by cases op<;>first |rfl |exact (hne _ _ _ rfl).elim);rw[this]at hok;exact all_eq_true.1 hok
  simp only[List.mem_flatMap]at hp;obtain⟨x,hx,hp⟩:=hp;rw[wL (hall x hx)]at hp;simp at hp
theorem aac {a b:List Prop} (h:∀ p∈a,p) (h':fC b):fC (a++b):=lm _ (dz h (EF b h'))
variable {Γ:FuncId->Option (Sig X)} {fz:List Nat} {T:Tab} {code:TypeId->Option (CT X.ι)} {ops:Array Oper} {b:DSt X} {P:Program}
theorem YB (hΓ:GOk P Γ) {i:Nat} {op:Oper} {e:List (Nat×DV X)} {o:List (Nat×Option (DObj X))} {k:KK X A} {r:A} (hop:ops[i]? =some op) (hw:want ops op (dM b e o).env (dM b e o).ok=some true) (hok:IQ e b.env op.op=true)
 (h:VF Γ fz T code i op.op (KZ (lkE e b.env)) (lkO o b.obj) k=some r):
 ∃ (a:Ann) (dv:DV X) (upd:List (Nat×Option (DObj X))),a.sym=false∧k dv upd a.rd a.wr=some r∧∀ (ann:Nat->Ann) (K:St->Prop),ann i=a->K (dM b (tX op.dst (LM dv) e) (upd++o))->eOp P T ops ann i K (dM b e o):=by
 obtain⟨orc,rd,wr,dv,upd,out,h1,h2,h3,h4,h5,h6⟩:=VG hΓ h;refine⟨⟨orc,rd,wr,false⟩,dv,upd,rfl,h6,fun ann K ha hK=>?_⟩;have h1':eT P T i op orc (opv (dM b e o).env) (aX rd (dM b e o).obj)=some out:=by rw[Ti];exact h1
 refine⟨op,(⟨out.v,out.upd,needs (dM b e o).env (dM b e o).ok op.op++out.obs⟩,none),hop,?_,?_,?_⟩
 ·unfold opAt;simp only[hop,bind_some,hw,ha,h1'];rw[if_pos];rw[all_eq_true];intro p hp;rw[h4]at hp;simp only[dh,mem_map]at hp;obtain⟨q,hq,rfl⟩:=hp;rcases h5 q hq with h |h
  ·simp[h,KG.2 (.inl rfl:ownN (nid i) (nid i))]
  ·simp[h]
 ·exact aac (YA hok h1') h2
 ·rw[h3,h4,Z9];exact hK
theorem step_skip {i:Nat} {op:Oper} {e:List (Nat×DV X)} {o:List (Nat×Option (DObj X))} (hop:ops[i]? =some op) (hw:want ops op (dM b e o).env (dM b e o).ok=some false)
 (ann:Nat->Ann) (K:St->Prop) (ha:ann i=⟨.none,[],[],false⟩) (hK:K (dM b (tX op.dst .skip e) o)):eOp P T ops ann i K (dM b e o):=by
 refine⟨op,(⟨.undef,[],[]⟩,some false),hop,?_,trivial,?_⟩
 ·unfold opAt;simp only[hop,bind_some,hw,ha]
 ·rw[Yz];exact hK
theorem VH {e:List (Nat×DV X)} {o:List (Nat×Option (DObj X))} {t:Nat} {v:Bool} (h:lkE e b.env t= .c .bool v):dM b ((t,.c .bool v)::e) o=dM b e o:=by
 simp only[dM,St.mk.injEq,true_and];refine⟨?_,?_⟩
 ·funext s;by_cases hs:t=s
  ·subst hs;rw[h];simp[lkE,lk]
  ·simp[lkE,lk,hs]
 ·funext s;by_cases hs:t=s
  ·subst hs;simp only[lk,if_true];unfold lkE at h;cases ht:lk e t with
   |none=>rfl
   |some d=>rw[ht]at h;simp only at h;subst h;rfl
  ·simp[lk,hs]
def Cv (tr:List (Nat×Ann)):Fps:=tr.map fun p=>(p.1,p.2.rd,p.2.wr)
def IU (ops:Array Oper) (t:Nat):Prop:=∃ (j:Nat) (op:Oper),ops[j]? =some op∧op.dst=some t
theorem Tj {dst:Option Tmp} {dv:DV X} {e:List (Nat×DV X)} {p:Nat×DV X} (h:p∈tX dst dv e):p∈e∨dst=some p.1:=by
 cases dst with
 |none=>exact .inl h
 |some t=>
  simp only[tX,mem_cons]at h;rcases h with rfl |h
  ·exact .inr rfl
  ·exact .inl h
theorem yh (hΓ:GOk P Γ) {k:List (Nat×DV X)->List (Nat×Option (DObj X))->Fps->Option A} {r:A}:∀ (l:List Nat) (e:List (Nat×DV X)) (o:List (Nat×Option (DObj X))) (fps:Fps),sI Γ fz T code ops b k l e o fps=some r->
 ∃ (tr:List (Nat×Ann)) (e':List (Nat×DV X)) (o':List (Nat×Option (DObj X))),tr.map (·.1)=l∧k e' o' ((Cv tr).reverse++fps)=some r∧(∀ p∈e',p∈e∨IU ops p.1)∧
   ∀ ann:Nat->Ann,(∀ p∈tr,ann p.1=p.2)->Ji P T ops ann (fun σ=>σ=dM b e' o') l (dM b e o)
 |[],e,o,fps,h=>⟨[],e,o,rfl,h,fun _ hp=> .inl hp,fun _ _=>rfl⟩
 |i::l,e,o,fps,h=>by
  simp only[sI]at h;rw[ai]at h;obtain⟨op,hop,h⟩:=h
  have exec:∀ e:List (Nat×DV X),want ops op (dM b e o).env (dM b e o).ok=some true->
   (bif IQ e b.env op.op then VF Γ fz T code i op.op (KZ (lkE e b.env)) (lkO o b.obj) fun dv upd rd wr=>sI Γ fz T code ops b k l (tX op.dst (LM dv) e) (upd++o) ((i,rd,wr)::fps)else none)=some r->
   ∃ (tr:List (Nat×Ann)) (e':List (Nat×DV X)) (o':List (Nat×Option (DObj X))),tr.map (·.1)=i::l∧k e' o' ((Cv tr).reverse++fps)=some r∧(∀ p∈e',p∈e∨IU ops p.1)∧
     ∀ ann:Nat->Ann,(∀ p∈tr,ann p.1=p.2)->Ji P T ops ann (fun σ=>σ=dM b e' o') (i::l) (dM b e o):=by
   intro e hw h;obtain⟨hok,h⟩:=aT h;obtain⟨a,dv,upd,_,h1,h2⟩:=YB hΓ hop hw hok h;obtain⟨tr,e',o',g1,g2,g4,g3⟩:=yh hΓ l _ _ _ h1;refine⟨(i,a)::tr,e',o',by simp[g1],?_,fun p hp=>(g4 p hp).elim (fun hp=>(Tj hp).elim .inl fun hd=> .inr ⟨i,op,hop,hd⟩) .inr,fun ann ha=>?_⟩
   ·simpa[Cv]using g2
   ·exact h2 ann _ (ha (i,a) (by simp)) (g3 ann fun p hp=>ha p (by simp[hp]))
  have skip:∀ e:List (Nat×DV X),want ops op (dM b e o).env (dM b e o).ok=some false->sI Γ fz T code ops b k l (tX op.dst .skip e) o ((i,[],[])::fps)=some r->
   ∃ (tr:List (Nat×Ann)) (e':List (Nat×DV X)) (o':List (Nat×Option (DObj X))),tr.map (·.1)=i::l∧k e' o' ((Cv tr).reverse++fps)=some r∧(∀ p∈e',p∈e∨IU ops p.1)∧
     ∀ ann:Nat->Ann,(∀ p∈tr,ann p.1=p.2)->Ji P T ops ann (fun σ=>σ=dM b e' o') (i::l) (dM b e o):=by
   intro e hw h;obtain⟨tr,e',o',g1,g2,g4,g3⟩:=yh hΓ l _ _ _ h;refine⟨(i,⟨.none,[],[],false⟩)::tr,e',o',by simp[g1],?_,fun p hp=>(g4 p hp).elim (fun hp=>(Tj hp).elim .inl fun hd=> .inr ⟨i,op,hop,hd⟩) .inr,fun ann ha=>?_⟩
   ·simpa[Cv]using g2
   ·exact step_skip hop hw ann _ (ha (i,_) (by simp)) (g3 ann fun p hp=>ha p (by simp[hp]))
  split at h
  ·rename_i hg;exact exec e (by simp[want,hg]) h
  ·rename_i j p hg;rw[ai]at h;obtain⟨t,ht,h⟩:=h;split at h
   ·rename_i v hv;have hw:∀ e:List (Nat×DV X),lkE e b.env t= .c .bool v->want ops op (dM b e o).env (dM b e o).ok=some (v==p):=by
     intro e he;simp only[want,hg,ht];have h0:(dM b e o).ok t=none:=by
      simp only[dM];unfold lkE at he;cases hq:lk e t with
      |none=>rfl
      |some d=>rw[hq]at he;simp only at he;subst he;rfl
     have h1:(dM b e o).env t= .t (.sc (.bool v)):=(by simp only[dM,he];rfl);rw[h0,h1]
    have hk:=VH (b:=b) (o:=o) hv;have hv':lkE ((t,.c .bool v)::e) b.env t= .c .bool v:=(by simp[lkE,lk]);have htd:IU ops t:=by
     rw[ai]at ht;obtain⟨oj,h1,h2⟩:=ht;exact⟨j,oj,h1,h2⟩
    have wide:(∃ (tr:List (Nat×Ann)) (e':List (Nat×DV X)) (o':List (Nat×Option (DObj X))),tr.map (·.1)=i::l∧k e' o' ((Cv tr).reverse++fps)=some r∧(∀ p∈e',p∈((t,.c .bool v)::e:List (Nat×DV X))∨IU ops p.1)∧
     ∀ ann:Nat->Ann,(∀ p∈tr,ann p.1=p.2)->Ji P T ops ann (fun σ=>σ=dM b e' o') (i::l) (dM b ((t,.c .bool v)::e) o))->
     ∃ (tr:List (Nat×Ann)) (e':List (Nat×DV X)) (o':List (Nat×Option (DObj X))),tr.map (·.1)=i::l∧k e' o' ((Cv tr).reverse++fps)=some r∧(∀ p∈e',p∈e∨IU ops p.1)∧
     ∀ ann:Nat->Ann,(∀ p∈tr,ann p.1=p.2)->Ji P T ops ann (fun σ=>σ=dM b e' o') (i::l) (dM b e o):=by
     rintro⟨tr,e',o',g1,g2,g4,g3⟩;refine⟨tr,e',o',g1,g2,fun q hq=>?_,hk ▸ g3⟩;rcases g4 q hq with h |h
     ·rcases mem_cons.1 h with rfl |h
      ·exact .inr htd
      ·exact .inl h
     ·exact .inr h
    apply wide;cases v with
    |true=>
     simp only[cond_true]at h;cases p with
     |true=>exact exec _ (hw _ hv') h
     |false=>exact skip _ (hw _ hv') h
    |false=>
     simp only[cond_false]at h;cases p with
     |true=>exact skip _ (hw _ hv') h
     |false=>exact exec _ (hw _ hv') h
   ·rename_i hv;obtain⟨hsome,h⟩:=aT h;refine skip e ?_ h;simp only[want,hg,ht];have h1:(dM b e o).env t= .undef:=(by simp only[dM,hv];rfl);cases hq:lk e t with
    |some d=>
     have h0:(dM b e o).ok t=some false:=by
      unfold lkE at hv;rw[hq]at hv;simp only at hv;subst hv;simp only[dM,hq]
     rw[h0,h1]
    |none=>rw[hq]at hsome;cases hsome
   ·cases h
end
section
variable {X:SX} {A:Type}
def fN (nx k:Nat):Nat:=if k < 1000000 then k else nx+(k - 1000000)
def gN (nx j:Nat):Nat:=if j < nx then j else 1000000+(j - nx)
def okN (nx sz k:Nat):Bool:=decide (k < nx) || (decide (1000000<=k)&&decide (k < 1000000+sz))
def okE (nx sz:Nat) (e:List (Nat×DV X)):Bool:=e.all fun p=>(drefs p.2).all (okN nx sz)
def okO (nx sz:Nat) (o:List (Nat×Option (DObj X))):Bool:=o.all fun p=>okN nx sz p.1&&match p.2 with |some x=>(orefs x).all (okN nx sz) |none=>true
def abB (fps:Fps):Nat->Ann:=fun i=>match lk fps i with |some p=>⟨.none,p.1,p.2,false⟩ |none=>⟨.none,[],[],false⟩
def YC (tr:List (Nat×Ann)):Nat->Ann:=fun i=>match lk tr i with |some a=>a |none=>⟨.none,[],[],false⟩
def aad:DV X->DV X
 | .skip=> .undef
 |x=>x
theorem aae (x:DV X):den (aad x)=den x:=by cases x<;>rfl
theorem Ph (x:DV X):drefs (aad x)=drefs x:=by cases x<;>rfl
def fin (s:DSt X) (e:List (Nat×DV X)) (o:List (Nat×Option (DObj X))) (sz:Nat):DSt X:=
 ⟨e.map (fun p=>(p.1,aad (rnD (fN s.nx) p.2)))++s.env,o.map (fun p=>(fN s.nx p.1,p.2.map (rnO (fN s.nx))))++s.obj,s.nx+sz,o.map (fun p=>fN s.nx p.1)++s.log⟩
def aaf (N:Nat) (ops:Array Oper) (d:Bool) (nx:Nat) (e:List (Nat×DV X)) (o:List (Nat×Option (DObj X))) (fps:Fps):Bool:=
 Qx N ops&&(!d || Xl ops (abB fps))&&okE nx (64*ops.size) e&&okO nx (64*ops.size) o&&decide (nx+64*ops.size<=1000000)
def VI (Γ:FuncId->Option (Sig X)) (fz:List Nat) (T:Tab) (code:TypeId->Option (CT X.ι)) (N:Nat) (ops:Array Oper) (d:Bool) (s:DSt X) (k:DSt X->Option A):Option A:=
 sI Γ fz T code ops s (fun e o fps=>bif aaf N ops d s.nx e o fps then k (fin s e o (64*ops.size))else none) (List.range ops.size) [] [] []
theorem Tk {ops:Array Oper} {ann ann':Nat->Ann} (h:∀ i,(ann i).rd=(ann' i).rd∧(ann i).wr=(ann' i).wr):Xl ops ann=Xl ops ann':=by
 have h1:qQ ann=qQ ann':=by
  funext i j;simp only[qQ,(h i).1,(h i).2,(h j).1,(h j).2]
 have h2:∀ md,Gv md ops ann=Gv md ops ann':=by
  intro md;funext listed i;simp only[Gv,h1]
 have h3:∀ (md:Region.Mode) (n k:Nat) (listed:Array Bool),lexFrom' md ops ann n k listed=lexFrom' md ops ann' n k listed:=by
  intro md n
  induction n with
  |zero=>intro k listed;rfl
  |succ n ih=>intro k listed;simp only[lexFrom',h2,ih]
 exact h3 _ _ _ _
theorem wM {α:Type}:∀ (a b:List (Nat×α)) (k:Nat),lk (a++b) k=match lk a k with |some x=>some x |none=>lk b k
 |[],_,_=>rfl
 |(j,x)::a,b,k=>by
  simp only[cons_append,lk];by_cases h:j=k
  ·simp[h]
  ·simp only[if_neg h,wM a b k]
theorem Xx {α:Type}:∀ {l:List (Nat×α)} {k:Nat},lk l k=none->∀ x,(k,x)∉l
 |(j,y)::r,k,h,x=>by
  simp only[lk]at h;split at h
  ·cases h
  ·rename_i hn;simp only[mem_cons,Prod.mk.injEq,not_or];exact⟨fun e=>hn e.1.symm,Xx h x⟩
 |[],_,_,_=>by simp
theorem acH {tr:List (Nat×Ann)} (hn:(tr.map (·.1)).Nodup) (i:Nat):(abB (Cv tr).reverse i).rd=(YC tr i).rd∧(abB (Cv tr).reverse i).wr=(YC tr i).wr:=by
 have hn':((Cv tr).reverse.map (·.1)).Nodup:=by
  rw[List.map_reverse];have h1:((Cv tr).map (·.1)).Nodup:=by simpa[Cv,Function.comp_def]using hn
  exact List.pairwise_reverse.2 (h1.imp fun h=>Ne.symm h)
 unfold abB YC;cases h:lk tr i with
 |none=>
  cases h':lk (Cv tr).reverse i with
  |none=>exact⟨rfl,rfl⟩
  |some p=>
   have:=lI h';simp only[Cv,List.mem_reverse,mem_map]at this;obtain⟨q,hq,he⟩:=this;injection he with e1 e2;subst e1;exact (Xx h q.2 hq).elim
 |some a=>
  have h1:=lI h;have h2:(i,a.rd,a.wr)∈(Cv tr).reverse:=by
   simp only[Cv,List.mem_reverse,mem_map];exact⟨(i,a),h1,rfl⟩
  rw[nQ hn' h2];exact⟨rfl,rfl⟩
theorem aag {tr:List (Nat×Ann)} (hn:(tr.map (·.1)).Nodup):∀ p∈tr,YC tr p.1=p.2:=by
 rintro⟨i,a⟩ hp;unfold YC;rw[nQ hn hp]
theorem LP {nx sz k:Nat} (h:okN nx sz k=true):k < nx∨(1000000<=k∧k < 1000000+sz):=by simpa[okN]using h
theorem gfN {nx sz k:Nat} (hle:nx+sz<=1000000) (h:k < nx∨(1000000<=k∧k < 1000000+sz)):gN nx (fN nx k)=k:=by
 unfold gN fN;rcases h with h |⟨h1,h2⟩
 ·rw[if_pos (show k < 1000000 by omega),if_pos h]
 ·rw[if_neg (show ¬ k < 1000000 by omega),if_neg (by omega)];omega
theorem Pj {nx sz k:Nat} (hle:nx+sz<=1000000) (h:k < nx∨(1000000<=k∧k < 1000000+sz)):fN nx k < nx+sz:=by
 unfold fN;rcases h with h |⟨h1,h2⟩
 ·rw[if_pos (show k < 1000000 by omega)];omega
 ·rw[if_neg (show ¬ k < 1000000 by omega)];omega
theorem Xy {nx k:Nat} (hle:nx<=1000000) (h:k < nx):fN nx k=k:=if_pos (by omega)
mutual
theorem LQ {f:Nat->Nat}:∀ x:DV X,(∀ k∈drefs x,f k=k)->rnD f x=x
 | .own k _ _,h=>by simp only[rnD,h k (by simp[drefs])]
 | .ptr k _ _,h=>by simp only[rnD,h k (by simp[drefs])]
 | .ptl k _ _,h=>by simp only[rnD,h k (by simp[drefs])]
 | .mp k,h=>by simp only[rnD,h k (by simp[drefs])]
 | .oz k _,h=>by simp only[rnD,h k (by simp[drefs])]
 | .pta k _ _ _ _,h=>by simp only[rnD,h k (by simp[drefs])]
 | .agg cs,h=>by simp only[rnD,uK cs (by simpa[drefs]using h)]
 | .tup cs,h=>by simp only[rnD,uK cs (by simpa[drefs]using h)]
 | .fn F first caps,h=>by simp only[rnD,uK first (fun k hk=>h k (by simp[drefs,hk])),uK caps (fun k hk=>h k (by simp[drefs,hk]))]
 | .c _ _,_=>rfl
 | .rp _ _ _,_=>rfl
 | .rpa _ _ _ _ _,_=>rfl
 | .clo _ _ _,_=>rfl
 | .raw _,_=>rfl
 | .nil,_=>rfl
 | .ub,_=>rfl
 | .skip,_=>rfl
 | .undef,_=>rfl
theorem uK {f:Nat->Nat}:∀ l:List (DV X),(∀ k∈aD l,f k=k)->Cu f l=l
 |[],_=>rfl
 |x::xs,h=>by simp only[Cu,LQ x (fun k hk=>h k (by simp[aD,hk])),uK xs (fun k hk=>h k (by simp[aD,hk]))]
end
mutual
theorem LU (f:Nat->Nat):∀ x:DV X,drefs (rnD f x)=(drefs x).map f
 | .own _ _ _=>rfl
 | .ptr _ _ _=>rfl
 | .ptl _ _ _=>rfl
 | .mp _=>rfl
 | .oz _ _=>rfl
 | .pta _ _ _ _ _=>rfl
 | .agg cs=>by simp only[rnD,drefs,rP f cs]
 | .tup cs=>by simp only[rnD,drefs,rP f cs]
 | .fn F first caps=>by simp only[rnD,drefs,rP f first,rP f caps,map_append]
 | .c _ _=>rfl
 | .rp _ _ _=>rfl
 | .rpa _ _ _ _ _=>rfl
 | .clo _ _ _=>rfl
 | .raw _=>rfl
 | .nil=>rfl
 | .ub=>rfl
 | .skip=>rfl
 | .undef=>rfl
theorem rP (f:Nat->Nat):∀ l:List (DV X),aD (Cu f l)=(aD l).map f
 |[]=>rfl
 |x::xs=>by simp only[Cu,aD,LU f x,rP f xs,map_append]
end
theorem Tm (f:Nat->Nat) (o:DObj X):orefs (rnO f o)=(orefs o).map f:=by
 cases o with
 |cells sz rows=>simp only[rnO,orefs,map_map,List.map_flatten];congr 1;exact map_congr_left fun r _=>rP f r
 |lst c l=>rfl
 |map kc vc l=>rfl
theorem aah {α β:Type} (f:α->β):∀ (l:List (Nat×α)) (k:Nat),lk (l.map fun p=>(p.1,f p.2)) k=(lk l k).map f
 |[],_=>rfl
 |(j,x)::r,k=>by
  simp only[map_cons,lk];by_cases h:j=k
  ·simp[h]
  ·simp only[if_neg h,aah f r k]
theorem Xz {α β:Type} (f:α->β) (g:Nat->Nat):∀ (l:List (Nat×α)) (j:Nat),(∀ p∈l,∀ q∈l,g p.1=g q.1->p.1=q.1)->
 (∀ y,lk (l.map fun p=>(g p.1,f p.2)) j=some y->∃ k x,lk l k=some x∧g k=j∧y=f x)∧(lk (l.map fun p=>(g p.1,f p.2)) j=none->∀ p∈l,g p.1≠j)
 |[],_,_=>⟨fun _ h=>by simp[lk]at h,fun _=>by simp⟩
 |(k0,x0)::r,j,hi=>by
  obtain⟨i1,i2⟩:=Xz f g r j (fun p hp q hq=>hi p (by simp[hp]) q (by simp[hq]));simp only[map_cons,lk];by_cases h:g k0=j
  ·rw[if_pos h];exact⟨fun y hy=>by injection hy with hy;exact⟨k0,x0,by simp,h,hy.symm⟩,fun hn=>by cases hn⟩
  ·rw[if_neg h];refine⟨fun y hy=>?_,fun hn p hp=>?_⟩
   ·obtain⟨k,x,h1,h2,h3⟩:=i1 y hy;refine⟨k,x,?_,h2,h3⟩;have hne:k0≠k:=fun e=>h (by rw[e];exact h2);rw[if_neg hne];exact h1
   ·rcases mem_cons.1 hp with rfl |hp
    ·exact h
    ·exact i2 hn p hp
structure Ext (ds:Nat->Prop) (s s':DSt X):Prop where
 env:∀ t,¬ ds t->lke s'.env t=lke s.env t∨lke s'.env t= .undef
 obj:∃ d,s'.log=d++s.log∧∀ k,k < s.nx->k∉d->lko s'.obj k=lko s.obj k∨lko s'.obj k=none
 nx:s.nx<=s'.nx
variable {Γ:FuncId->Option (Sig X)} {fz:List Nat} {T:Tab} {code:TypeId->Option (CT X.ι)} {P:Program} {N:Nat}
theorem EY (s:DSt X) (e:List (Nat×DV X)) (o:List (Nat×Option (DObj X))) (sz t:Nat):lke (fin s e o sz).env t=match lk e t with |some d=>aad (rnD (fN s.nx) d) |none=>lke s.env t:=by
 simp only[fin,lke,wM,aah (fun d=>aad (rnD (fN s.nx) d))];cases lk e t<;>rfl
theorem QW (hT:bI P T) (hm:P.follows .mixedOrders=true) (hΓ:GOk P Γ) {id:Nat} {ops:Array Oper} {d:Bool} {s:DSt X} {k:DSt X->Option A} {r:A} (hl:Low s) (h:VI Γ fz T code N ops d s k=some r):
 ∃ s':DSt X,k s'=some r∧Low s'∧Ext (IU ops) s s'∧Ev P N (.region id ops d) (fun e σ=>e= .normal∧σ=s'.st) s.st:=by
 unfold VI at h;obtain⟨tr,e,o,h1,h2,h3,h4⟩:=yh hΓ _ _ _ _ h;obtain⟨h5,h6⟩:=aT h2;simp only[aaf,and_eq_true,append_nil]at h5;obtain⟨⟨⟨⟨hd,hlex⟩,hE⟩,hO⟩,hnx⟩:=h5;have hle:s.nx+64*ops.size<=1000000:=of_decide_eq_true hnx;have hnod:(tr.map (·.1)).Nodup:=by rw[h1];exact List.nodup_range
 have hEn:∀ t x,lk e t=some x->∀ j∈drefs x,j < s.nx∨(1000000<=j∧j < 1000000+64*ops.size):=by
  intro t x hx j hj;have:=all_eq_true.1 hE _ (lI hx);exact LP (all_eq_true.1 this j hj)
 have hOn:∀ p∈o,(p.1 < s.nx∨(1000000<=p.1∧p.1 < 1000000+64*ops.size))∧∀ x,p.2=some x->∀ j∈orefs x,j < s.nx∨(1000000<=j∧j < 1000000+64*ops.size):=by
  intro p hp;have:=all_eq_true.1 hO _ hp;simp only[and_eq_true]at this;refine⟨LP this.1,fun x hx j hj=>?_⟩;have h2:=this.2;rw[hx]at h2;exact LP (all_eq_true.1 h2 j hj)
 have hinj:∀ p∈o,∀ q∈o,fN s.nx p.1=fN s.nx q.1->p.1=q.1:=by
  intro p hp q hq he;have:=congrArg (gN s.nx) he
  rwa [gfN hle (hOn p hp).1,gfN hle (hOn q hq).1]at this
 have hlko:∀ j,(∃ q x,lk o q=some x∧fN s.nx q=j∧lko (fin s e o (64*ops.size)).obj j=x.map (rnO (fN s.nx)))∨(lko (fin s e o (64*ops.size)).obj j=lko s.obj j∧∀ p∈o,fN s.nx p.1≠j):=by
  intro j;obtain⟨i1,i2⟩:=Xz (fun x:Option (DObj X)=>x.map (rnO (fN s.nx))) (fN s.nx) o j hinj;simp only[fin,lko,wM];cases hj:lk (o.map fun p=>(fN s.nx p.1,p.2.map (rnO (fN s.nx)))) j with
  |none=>exact .inr ⟨rfl,i2 hj⟩
  |some y=>
   obtain⟨q,x,g1,g2,g3⟩:=i1 y hj;exact .inl ⟨q,x,g1,g2,by rw[g3];rfl⟩
 refine⟨fin s e o (64*ops.size),h6,?_,?_,?_⟩
 ·constructor
  ·exact hle
  ·have:=hl.ge;show 1000<=s.nx+64*ops.size;omega
  ·intro t j hj;rw[EY]at hj;cases ht:lk e t with
   |none=>rw[ht]at hj;have:=hl.env t j hj;show j < s.nx+64*ops.size;omega
   |some x=>
    rw[ht,Ph,LU]at hj;obtain⟨q,hq,rfl⟩:=mem_map.1 hj;exact Pj hle (hEn t x ht q hq)
  ·intro j x hx;rcases hlko j with ⟨q,y,g1,rfl,g3⟩ |⟨g1,_⟩
   ·rw[g3]at hx;rw[Option.map_eq_some_iff]at hx;obtain⟨z,rfl,rfl⟩:=hx;obtain⟨k1,k2⟩:=hOn _ (lI g1);refine⟨Pj hle k1,fun i hi=>?_⟩;rw[Tm]at hi;obtain⟨i',hi',rfl⟩:=mem_map.1 hi;exact Pj hle (k2 z rfl i' hi')
   ·rw[g1]at hx;obtain⟨k1,k2⟩:=hl.obj j x hx;refine⟨show j < s.nx+64*ops.size by omega,fun i hi=>?_⟩;have:=k2 i hi;show i < s.nx+64*ops.size;omega
 ·refine⟨fun t ht=> .inl ?_,⟨o.map (fun p=>fN s.nx p.1),rfl,fun j hj hn=>?_⟩,by show s.nx<=s.nx+64*ops.size;omega⟩
  ·rw[EY];cases hx:lk e t with
   |none=>rfl
   |some x=>
    rcases h3 _ (lI hx)with h |h
    ·simp at h
    ·exact (ht h).elim
  ·rcases hlko j with ⟨q,y,g1,g2,g3⟩ |⟨g1,_⟩
   ·exact (hn (mem_map.2 ⟨(q,y),lI g1,g2⟩)).elim
   ·exact .inl g1
 ·have hst:dM s [] []=s.st:=rfl;have hex:=h4 (YC tr) (aag hnod);rw[hst]at hex;intro w0 O0 β I a w hr ho;have done:∀ (e':Exit) (a':Act) (w':World),(∃ β' I' σ1,Rel P w0 O0 N β' I' σ1 a' w'∧e'= .normal∧σ1=dM s e o)->∃ β' I' σ1,Rel P w0 O0 N β' I' σ1 a' w'∧Old σ1∧e'= .normal∧σ1=(fin s e o (64*ops.size)).st:=by
   rintro e' a' w' ⟨β',I',σ1,g1,rfl,rfl⟩;refine⟨_,I',(fin s e o (64*ops.size)).st,Rel.re (f:=fN s.nx) (g:=gN s.nx) (D:=fun k=>k < s.nx∨(1000000<=k∧k < 1000000+64*ops.size)) (fun k hk=>gfN hle hk) (fun j hj=>by have:=hl.ge;unfold gN;rw[if_pos (by omega)]) g1 (fun t=>?_) (fun _=>rfl) (fun t=> .inr ?_) (fun j o' hj=>?_),?_,rfl,rfl⟩
   ·show (match lk e t with |some .skip=>some false |_=>none)=none∨den (lke (fin s e o (64*ops.size)).env t)= .undef;rw[EY];cases ht:lk e t with
    |none=>exact .inl rfl
    |some d=>cases d<;>first |exact .inl rfl |exact .inr rfl
   ·show (∀ k∈refs (den (lkE e s.env t)),_)∧Wkn (rnA (fN s.nx) (den (lkE e s.env t))) (den (lke (fin s e o (64*ops.size)).env t));rw[EY,dR,<- uI];unfold lkE;cases ht:lk e t with
    |none=>
     refine⟨fun q hq=> .inl (hl.env t q hq),?_⟩;rw[LQ _ (fun q hq=>Xy (by omega) (hl.env t q hq))];exact Wkn.refl _
    |some x=>exact⟨hEn t x ht,by simp only[aae];exact Wkn.refl _⟩
   ·simp only[DSt.st,Option.map_eq_some_iff]at hj;obtain⟨x,hx,rfl⟩:=hj;rcases hlko j with ⟨q,y,i1,rfl,i3⟩ |⟨i1,i2⟩
    ·rw[i3,Option.map_eq_some_iff]at hx;obtain⟨z,rfl,rfl⟩:=hx;obtain⟨k1,k2⟩:=hOn _ (lI i1);obtain⟨r1,r2⟩:=BZ (D:=fun k=>k < s.nx∨(1000000<=k∧k < 1000000+64*ops.size)) (fN s.nx) z (fun i hi=>k2 z rfl i hi);refine⟨q,aH z,?_,k1,rfl,r1,r2⟩;simp only[dM,lkO,i1,Option.map_some]
    ·rw[i1]at hx;obtain⟨k1,k2⟩:=hl.obj j x hx;have hid:rnO (fN s.nx) x=x:=by
      cases x with
      |lst c l=>rfl
      |map kc vc l=>rfl
      |cells sz rows=>
       simp only[rnO];congr 1;have:∀ q∈rows,Cu (fN s.nx) q=q:=fun q hq=>uK q fun i hi=>Xy (by omega) (k2 i (by
        simp only[orefs,List.mem_flatten,mem_map];exact⟨_,⟨q,hq,rfl⟩,hi⟩))
       rw[map_congr_left this];simp
     obtain⟨r1,r2⟩:=BZ (D:=fun k=>k < s.nx∨(1000000<=k∧k < 1000000+64*ops.size)) (fN s.nx) x (fun i hi=> .inl (k2 i hi));rw[hid]at r1 r2;refine⟨j,aH x,?_,.inl k1,Xy (by omega) k1,r1,r2⟩;simp only[dM,lkO];cases hlo:lk o j with
     |none=>simp[hx]
     |some y=>exact (i2 _ (lI hlo) (Xy (by omega) k1)).elim
   ·have hL:Low (fin s e o (64*ops.size)):=by
     constructor
     ·exact hle
     ·have:=hl.ge;show 1000<=s.nx+64*ops.size;omega
     ·intro t j hj;rw[EY]at hj;cases ht:lk e t with
      |none=>rw[ht]at hj;have:=hl.env t j hj;show j < s.nx+64*ops.size;omega
      |some x=>
       rw[ht,Ph,LU]at hj;obtain⟨q,hq,rfl⟩:=mem_map.1 hj;exact Pj hle (hEn t x ht q hq)
     ·intro j x hx;rcases hlko j with ⟨q,y,g1,rfl,g3⟩ |⟨g1,_⟩
      ·rw[g3]at hx;rw[Option.map_eq_some_iff]at hx;obtain⟨z,rfl,rfl⟩:=hx;obtain⟨k1,k2⟩:=hOn _ (lI g1);refine⟨Pj hle k1,fun i hi=>?_⟩;rw[Tm]at hi;obtain⟨i',hi',rfl⟩:=mem_map.1 hi;exact Pj hle (k2 z rfl i' hi')
      ·rw[g1]at hx;obtain⟨k1,k2⟩:=hl.obj j x hx;refine⟨show j < s.nx+64*ops.size by omega,fun i hi=>?_⟩;have:=k2 i hi;show i < s.nx+64*ops.size;omega
    exact hL.old
  cases d with
  |false=>exact wp_mono (Yb hT hd ho hex hr) done
  |true=>
   refine wp_mono (KP hT hm hd ?_ ho hex hr) done;rw[<- Tk (acH hnod)];simpa using hlex
end
end Go.Gb
namespace Go.Gb
open Go.RowKit
structure Sh (ι:Type) where
 slots:List (Nat×Pt ι)
 objs:List (Nat×OP ι)
 keep:List Nat
 keepO:List Nat
 nx:Nat
 nils:List (Nat×CT ι)
def Sh.vars {ι:Type} (s:Sh ι):List (CT ι):=varsS s.slots++varsO s.objs
section
variable {X:SX}
def nz (z:Bool) (k:Nat):DV X:=bif z then .oz k 0 else .own k 0 0
def Tn (z:Bool) (s:DSt X) (t:Nat) (c:CT X.ι):DSt X:=
 match lke s.env t with
 | .nil=>if s.nx < 1000000 then⟨(t,nz z s.nx)::s.env,(s.nx,some (.lst c []))::s.obj,s.nx+1,s.nx::s.log⟩else s
 |_=>s
def YD (s:DSt X) (q j:Nat) (c:CT X.ι):DSt X:=
 match lko s.obj q with
 |some (.cells sz [row])=>match row[j]? with
  |some .nil=>if s.nx < 1000000 then⟨s.env,(q,some (.cells sz [row.set j (.own s.nx 0 0)]))::(s.nx,some (.lst c []))::s.obj,s.nx+1,q::s.nx::s.log⟩else s
  |_=>s
 |_=>s
def GY:List (Nat×CT X.ι)->DSt X->DSt X
 |[],s=>s
 |(t,c)::r,s=>GY r (bif Nat.ble 1000000 t then bif Nat.ble 1099511627776 t then Tn true s (t - 1099511627776) c else YD s ((t - 1000000)/4096) ((t - 1000000)%4096) c else Tn false s t c)
def isU:DV X->Bool
 | .undef | .skip=>true
 |_=>false
def encS (sh:Sh X.ι) (s0:DSt X) (v:VT (X:=X) sh.vars):DSt X:=
 let L:=oW sh.vars v
 let n:=(varsS sh.slots).length
 let ol:=fun k=>(lk (lens sh.objs (L.drop n)) k).getD 0
 ⟨vo ol sh.slots (L.take n)++sh.keep.map (fun t=>(t,lke s0.env t)),aO ol sh.objs (L.drop n)++sh.keepO.map (fun k=>(k,lko s0.obj k)),sh.nx,
  (List.range s0.nx).filter (fun k=>!sh.keepO.contains k)++s0.log⟩
def okS (sh:Sh X.ι) (ds:List Nat) (s0 s':DSt X) (m:MA X):Bool:=
 decide (m.nm.map (·.1)++sh.keepO).Nodup&&decide (m.nm.map (·.2)++sh.keepO).Nodup&&decide (sh.objs.map (·.1)).Nodup&&m.nm.all (fun q=>(sh.objs.map (·.1)).contains q.2&&decide (q.2 < sh.nx)&&(decide (q.1=q.2) || decide (1000<=q.2)))&&
  sh.slots.all (fun p=>ds.contains p.1)&&sh.keep.all (fun t=>!ds.contains t&&!isU (lke s'.env t)&&(drefs (lke s0.env t)).all fun j=>sh.keepO.contains j || m.nm.contains (j,j))&&
  sh.keepO.all (fun k=>decide (k < s0.nx)&&!(s'.log.take (s'.log.length - s0.log.length)).contains k&&(lko s'.obj k).isSome&&match lko s0.obj k with |some o=>(orefs o).all fun j=>sh.keepO.contains j || m.nm.contains (j,j) |none=>false)&&
  decide (s0.nx<=sh.nx)&&decide (sh.nx<=1000000)
def QX {A:Type} (sh:Sh X.ι) (ds:List Nat) (s0 s':DSt X) (k:VT (X:=X) sh.vars->Option A):Option A:=
 (Am (lko s'.obj) (lke s'.env) sh.slots ⟨[],[],[]⟩).bind fun m=>(wH (lko s'.obj) sh.objs m).bind fun m=>bif okS sh ds s0 s' m then (NU sh.vars m.dcs).bind fun v=>K4 m.chk (k v)else none
def eU {A:Type} (sh:Sh X.ι) (ds:List Nat) (s0 s':DSt X) (k:VT (X:=X) sh.vars->Option A):Option A:=
 bif sh.nils.all (fun p=>bif Nat.ble 1000000 p.1 then !Nat.ble 1099511627776 p.1 || ds.contains (p.1 - 1099511627776)else ds.contains p.1)then QX sh ds s0 (GY sh.nils s') k else none
end
section
variable {X:SX}
theorem Pk {d:DV X} {c:CT X.ι} {x:CT.T X.toSE c} (h:Ct d c=some x):drefs d=[]:=by
 cases d
 case c=>rfl
 case nil=>rfl
 all_goals cases c<;>cases h
theorem IV:∀ {ds:List (DV X)} {l:List (CT X.ι)} {h:HL X.toSE l},rZ ds l=some h->aD ds=[]
 |[],[],_,_=>rfl
 |d::ds,c::l,h,hr=>by
  simp only[rZ]at hr;rw[ai]at hr;obtain⟨x,h1,hr⟩:=hr;rw[ai]at hr;obtain⟨g,h2,hr⟩:=hr;simp only[aD,Pk h1,IV h2,append_nil]
 |[],_::_,_,hr=>by simp[rZ]at hr
 |_::_,[],_,hr=>by simp[rZ]at hr
theorem abC {d:DV X} {c:CT X.ι} {x:CT.T X.toSE c} (h:dat d c=some x):Wkn (den d) (den (.c c x:DV X))∧drefs d=[]:=by
 cases c
 case st i=>
  replace h:Vj d i=some x:=h
  cases d
  case agg cs=>
   simp only[Vj]at h;rw[ai]at h;obtain⟨g,h1,h⟩:=h;injection h with h;subst h;refine⟨fun P β w I v hv=>?_,by simp only[drefs,IV h1]⟩;have h2:=(sj h1 (X.flat i)).1;simp only[den,VR]at hv;obtain⟨vs,rfl,hv⟩:=hv;show VR P β w I (.agg ((X.row i (X.make i g)).map AV.t)) _;have h3:(X.row i (X.make i g)).map AV.t=(aI cs).map Gb.wk:=(by rw[h2];exact congrArg _ (X.row_make i g));rw[h3];simp only[VR];exact⟨vs,rfl,VRl.wk _ _ hv⟩
  case c a y=>
   replace h:bZ a (.st i) y=some x:=h
   rw[(dQ h).1];exact⟨Wkn.refl _,rfl⟩
  all_goals cases h
 all_goals
  have h1:=oQ h;refine⟨fun P β w I v hv=>?_,Pk h⟩;simp only[den];rw[<- h1];exact hv.wk
def Mono (m m':MA X):Prop:=(∀ q∈m.nm,q∈m'.nm)∧(∀ c∈m.chk,c∈m'.chk)
theorem Mono.refl (m:MA X):Mono m m:=⟨fun _ h=>h,fun _ h=>h⟩
theorem Mono.trans {a b c:MA X} (h:Mono a b) (h':Mono b c):Mono a c:=⟨fun q hq=>h'.1 q (h.1 q hq),fun q hq=>h'.2 q (h.2 q hq)⟩
theorem bP (m:MA X) (k' k:Nat):(addN m k' k).dcs=m.dcs∧(addN m k' k).chk=m.chk:=by unfold addN;split<;>exact⟨rfl,rfl⟩
theorem jr (m:MA X) (k' k:Nat):(k',k)∈(addN m k' k).nm:=by
 unfold addN;split
 ·rename_i h;simpa using h
 ·simp
theorem j6 (m:MA X) (k' k:Nat):Mono m (addN m k' k):=by
 unfold addN;split
 ·exact Mono.refl m
 ·exact⟨fun q hq=>by simp[hq],fun _ h=>h⟩
variable {get:Nat->Option (DObj X)}
mutual
theorem XA:∀ (p:Pt X.ι) (d:DV X) (m m':MA X),mP get p d m=some m'->Mono m m'∧∃ new,m'.dcs=m.dcs++new∧new.length=p.vars.length
 | .v c,d,m,m',h=>by
  simp only[mP]at h;rw[ai]at h;obtain⟨x,h1,h⟩:=h;injection h with h;subst h;exact⟨⟨fun _ h=>h,fun _ h=>h⟩,[⟨c,x⟩],rfl,rfl⟩
 | .o k,d,m,m',h=>by
  simp only[mP]at h;split at h
  ·rename_i k' len;rw[ai]at h;obtain⟨o,h1,h⟩:=h;split at h
   ·injection h with h;subst h;refine⟨Mono.trans (b:=⟨m.nm,m.dcs,m.chk++_⟩) ⟨fun _ h=>h,fun _ h=>by simp[h]⟩ (j6 _ _ _),[],by rw[(bP _ _ _).1];simp,rfl⟩
   ·cases h
  ·cases h
 | .oz k,d,m,m',h=>by
  simp only[mP]at h;split at h
  ·rw[ai]at h;obtain⟨o,h1,h⟩:=h;split at h
   ·injection h with h;subst h;refine⟨Mono.trans (b:=⟨m.nm,m.dcs,m.chk++_⟩) ⟨fun _ h=>h,fun _ h=>by simp[h]⟩ (j6 _ _ _),[],by rw[(bP _ _ _).1];simp,rfl⟩
   ·cases h
  ·rw[ai]at h;obtain⟨o,h1,h⟩:=h;split at h
   ·injection h with h;subst h;refine⟨Mono.trans (b:=⟨m.nm,m.dcs,m.chk++_⟩) ⟨fun _ h=>h,fun _ h=>by simp[h]⟩ (j6 _ _ _),[],by rw[(bP _ _ _).1];simp,rfl⟩
   ·cases h
  ·cases h
 | .p k,d,m,m',h=>by
  simp only[mP]at h;split at h
  ·injection h with h;subst h;exact⟨j6 _ _ _,[],by rw[(bP _ _ _).1];simp,rfl⟩
  ·cases h
 | .mp k,d,m,m',h=>by
  simp only[mP]at h;split at h
  ·injection h with h;subst h;exact⟨j6 _ _ _,[],by rw[(bP _ _ _).1];simp,rfl⟩
  ·cases h
 | .nil,d,m,m',h=>by
  simp only[mP]at h;split at h
  ·injection h with h;subst h;exact⟨Mono.refl _,[],by simp,rfl⟩
  ·cases h
 | .f F fs cs,d,m,m',h=>by
  simp only[mP]at h;split at h
  ·split at h
   ·rw[ai]at h;obtain⟨m1,h1,h⟩:=h;obtain⟨a1,n1,b1,c1⟩:=sJ fs _ m m1 h1;obtain⟨a2,n2,b2,c2⟩:=sJ cs _ m1 m' h;exact⟨a1.trans a2,n1++n2,by rw[b2,b1,append_assoc],by simp[Pt.vars,c1,c2]⟩
   ·cases h
  ·cases h
 | .od k,d,m,m',h=>by
  simp only[mP]at h;split at h
  ·rename_i k' off len;rw[ai]at h;obtain⟨o,h1,h⟩:=h;split at h
   ·injection h with h;subst h;refine⟨Mono.trans (b:=⟨m.nm,m.dcs++[⟨.int .i64,(off:Int)⟩],m.chk++_⟩) ⟨fun _ h=>h,fun _ h=>by simp[h]⟩ (j6 _ _ _),[⟨.int .i64,(off:Int)⟩],by rw[(bP _ _ _).1],rfl⟩
   ·cases h
  ·cases h
 | .a ps,d,m,m',h=>by
  simp only[mP]at h;split at h
  ·exact sJ ps _ m m' h
  ·cases h
theorem sJ:∀ (ps:List (Pt X.ι)) (ds:List (DV X)) (m m':MA X),mPs get ps ds m=some m'->Mono m m'∧∃ new,m'.dcs=m.dcs++new∧new.length=(varsL ps).length
 |[],[],m,m',h=>by
  simp only[mPs,Option.some.injEq]at h;subst h;exact⟨Mono.refl _,[],by simp,rfl⟩
 |p::ps,d::ds,m,m',h=>by
  simp only[mPs]at h;rw[ai]at h;obtain⟨m1,h1,h⟩:=h;obtain⟨a1,n1,b1,c1⟩:=XA p d m m1 h1;obtain⟨a2,n2,b2,c2⟩:=sJ ps ds m1 m' h;exact⟨a1.trans a2,n1++n2,by rw[b2,b1,append_assoc],by simp[varsL,c1,c2]⟩
 |[],_::_,m,m',h=>by simp[mPs]at h
 |_::_,[],m,m',h=>by simp[mPs]at h
end
theorem sK:∀ (rs:List (List (Pt X.ι))) (qs:List (List (DV X))) (m m':MA X),zy get rs qs m=some m'->Mono m m'∧∃ new,m'.dcs=m.dcs++new∧new.length=(oV rs).length
 |[],[],m,m',h=>by
  simp only[zy,Option.some.injEq]at h;subst h;exact⟨Mono.refl _,[],by simp,rfl⟩
 |r::rs,q::qs,m,m',h=>by
  simp only[zy]at h;rw[ai]at h;obtain⟨m1,h1,h⟩:=h;obtain⟨a1,n1,b1,c1⟩:=sJ r q m m1 h1;obtain⟨a2,n2,b2,c2⟩:=sK rs qs m1 m' h;exact⟨a1.trans a2,n1++n2,by rw[b2,b1,append_assoc],by simp[oV,c1,c2]⟩
 |[],_::_,m,m',h=>by simp[zy]at h
 |_::_,[],m,m',h=>by simp[zy]at h
section
variable {NM:List (Nat×Nat)} {f:Nat->Nat} {olen:Nat->Nat}
def DN (NM:List (Nat×Nat)) (j:Nat):Prop:=∃ k,(j,k)∈NM
def SN (NM:List (Nat×Nat)) (j:Nat):Prop:=∃ k,(k,j)∈NM
theorem EZ {D:Nat->Prop} {f:Nat->Nat} {P:Program} {β:Nat->Option Blk} {w:World} {I:Nat->Prop}:∀ {a b:List AV} (_:RowW D f a b) (u:List Value),VRl P β w I (qP f a) u->VRl P β w I b u
 |[],[],_,u,hu=>hu
 |[],_::_,hr,_,_=>hr.elim
 |_::_,[],hr,_,_=>hr.elim
 |y::ys,z::zs,hr,[],hu=>by simp[qP,VRl]at hu
 |y::ys,z::zs,hr,v::vs,hu=>by
  simp only[qP,VRl]at hu ⊢;exact⟨hr.1.2 _ _ _ _ _ hu.1,EZ hr.2 vs hu.2⟩
mutual
theorem Tp (hf:∀ q∈NM,f q.1=q.2) (ho:∀ q∈NM,∀ c l,get q.1=some (.lst c l)->olen q.2=l.length):∀ (p:Pt X.ι) (d:DV X) (m m':MA X),mP get p d m=some m'->(∀ q∈m'.nm,q∈NM)->(∀ c∈m'.chk,c=true)->
 ∃ new,m'.dcs=m.dcs++new∧∃ d',(∀ rest,eP olen p (new++rest)=(d',rest))∧Wkn (rnA f (den d)) (den d')∧(∀ j∈drefs d,DN NM j)∧(∀ j∈drefs d',SN NM j)
 | .v c,d,m,m',h,_,_=>by
  simp only[mP]at h;rw[ai]at h;obtain⟨x,h1,h⟩:=h;injection h with h;subst h;obtain⟨h2,h3⟩:=abC h1;refine⟨[⟨c,x⟩],rfl,.c c x,fun rest=>rfl,?_,by simp[h3],by simp[drefs]⟩;rw[<- uI,LQ d (by simp[h3])];exact h2
 | .o k,d,m,m',h,hn,hc=>by
  simp only[mP]at h;split at h
  ·rename_i k' len;rw[ai]at h;obtain⟨o,h1,h⟩:=h;split at h
   ·rename_i c l;injection h with h;subst h;have hq:(k',k)∈NM:=hn _ (jr _ _ _);have he:len=l.length:=by
     have:=hc (eqL len l.length) (by rw[(bP _ _ _).2];simp);simpa[eqL]using this
    refine⟨[],by rw[(bP _ _ _).1];simp,.own k 0 (olen k),fun rest=>rfl,?_,?_,?_⟩
    ·simp only[den,rnA];rw[hf _ hq,ho _ hq c l h1,he];exact Wkn.refl _
    ·intro j hj;simp only[drefs,mem_singleton]at hj;subst hj;exact⟨k,hq⟩
    ·intro j hj;simp only[drefs,mem_singleton]at hj;subst hj;exact⟨k',hq⟩
   ·cases h
  ·cases h
 | .oz k,d,m,m',h,hn,hc=>by
  simp only[mP]at h;split at h
  ·rename_i k' len;rw[ai]at h;obtain⟨o,h1,h⟩:=h;split at h
   ·rename_i c l;injection h with h;subst h;have hq:(k',k)∈NM:=hn _ (jr _ _ _);have he:len≠0∧len=l.length:=by
     have:=hc (!(len==0)&&eqL len l.length) (by rw[(bP _ _ _).2];simp);simpa[eqL]using this
    refine⟨[],by rw[(bP _ _ _).1];simp,.oz k (olen k),fun rest=>rfl,?_,fun j hj=>?_,fun j hj=>?_⟩
    ·simp only[den,rnA];rw[hf _ hq,ho _ hq c l h1,<- he.2];intro P β w I v hv;simp only[VR]at hv ⊢;exact .inr ⟨he.1,hv.resolve_left fun h=>he.1 h.2.2.2⟩
    ·simp only[drefs,mem_singleton]at hj;subst hj;exact⟨k,hq⟩
    ·simp only[drefs,mem_singleton]at hj;subst hj;exact⟨k',hq⟩
   ·cases h
  ·rename_i k' len;rw[ai]at h;obtain⟨o,h1,h⟩:=h;split at h
   ·rename_i c l;injection h with h;subst h;have hq:(k',k)∈NM:=hn _ (jr _ _ _);have he:len=l.length:=by
     have:=hc (eqL len l.length) (by rw[(bP _ _ _).2];simp);simpa[eqL]using this
    refine⟨[],by rw[(bP _ _ _).1];simp,.oz k (olen k),fun rest=>rfl,?_,fun j hj=>?_,fun j hj=>?_⟩
    ·simp only[den,rnA];rw[hf _ hq,ho _ hq c l h1,he];exact Wkn.refl _
    ·simp only[drefs,mem_singleton]at hj;subst hj;exact⟨k,hq⟩
    ·simp only[drefs,mem_singleton]at hj;subst hj;exact⟨k',hq⟩
   ·cases h
  ·cases h
 | .p k,d,m,m',h,hn,hc=>by
  simp only[mP]at h;split at h
  ·rename_i k';injection h with h;subst h;have hq:(k',k)∈NM:=hn _ (jr _ _ _);refine⟨[],by rw[(bP _ _ _).1];simp,.ptr k 0 0,fun rest=>rfl,?_,?_,?_⟩
   ·simp only[den,rnA];rw[hf _ hq];exact Wkn.refl _
   ·intro j hj;simp only[drefs,mem_singleton]at hj;subst hj;exact⟨k,hq⟩
   ·intro j hj;simp only[drefs,mem_singleton]at hj;subst hj;exact⟨k',hq⟩
  ·cases h
 | .mp k,d,m,m',h,hn,hc=>by
  simp only[mP]at h;split at h
  ·rename_i k';injection h with h;subst h;have hq:(k',k)∈NM:=hn _ (jr _ _ _);refine⟨[],by rw[(bP _ _ _).1];simp,.mp k,fun rest=>rfl,?_,?_,?_⟩
   ·simp only[den,rnA];rw[hf _ hq];exact Wkn.refl _
   ·intro j hj;simp only[drefs,mem_singleton]at hj;subst hj;exact⟨k,hq⟩
   ·intro j hj;simp only[drefs,mem_singleton]at hj;subst hj;exact⟨k',hq⟩
  ·cases h
 | .nil,d,m,m',h,_,_=>by
  simp only[mP]at h;split at h
  ·injection h with h;subst h;exact⟨[],by simp,.nil,fun rest=>rfl,Wkn.refl _,by simp[drefs],by simp[drefs]⟩
  ·cases h
 | .f F fs cs,d,m,m',h,hn,hc=>by
  simp only[mP]at h;split at h
  ·rename_i F' first caps
   split at h
   ·rename_i e;subst e;rw[ai]at h;obtain⟨m1,h1,h⟩:=h;have hm:=(sJ cs _ m1 m' h).1;obtain⟨n1,a1,f',b1,c1,e1,g1⟩:=wN hf ho fs _ m m1 h1 (fun q hq=>hn q (hm.1 q hq)) (fun q hq=>hc q (hm.2 q hq));obtain⟨n2,a2,c',b2,c2,e2,g2⟩:=wN hf ho cs _ m1 m' h hn hc;refine⟨n1++n2,by rw[a2,a1,append_assoc],.fn F f' c',fun rest=>by simp only[eP,append_assoc,b1,b2],?_,?_,?_⟩
    ·intro P β w I v hv;simp only[den,rnA,VR]at hv ⊢;obtain⟨us,vs,rfl,hu,hv⟩:=hv;exact⟨us,vs,rfl,EZ c1 _ hu,EZ c2 _ hv⟩
    ·intro j hj;simp only[drefs,mem_append]at hj;exact hj.elim (e1 j) (e2 j)
    ·intro j hj;simp only[drefs,mem_append]at hj;exact hj.elim (g1 j) (g2 j)
   ·cases h
  ·cases h
 | .od k,d,m,m',h,hn,hc=>by
  simp only[mP]at h;split at h
  ·rename_i k' off len;rw[ai]at h;obtain⟨o,h1,h⟩:=h;split at h
   ·rename_i c l;injection h with h;subst h;have hq:(k',k)∈NM:=hn _ (jr _ _ _);have he:off+len=l.length:=by
     have:=hc (eqL (off+len) l.length) (by rw[(bP _ _ _).2];simp);simpa[eqL]using this
    refine⟨[⟨.int .i64,(off:Int)⟩],by rw[(bP _ _ _).1],.own k off (olen k - off),fun rest=>?_,?_,?_,?_⟩
    ·simp only[eP,cons_append,nil_append];have:OZ (X:=X) ⟨.int .i64,(off:Int)⟩=off:=by
      simp only[OZ];rw[Lf];simp
     rw[this]
    ·simp only[den,rnA];rw[hf _ hq,ho _ hq c l h1,show l.length - off=len by omega];exact Wkn.refl _
    ·intro j hj;simp only[drefs,mem_singleton]at hj;subst hj;exact⟨k,hq⟩
    ·intro j hj;simp only[drefs,mem_singleton]at hj;subst hj;exact⟨k',hq⟩
   ·cases h
  ·cases h
 | .a ps,d,m,m',h,hn,hc=>by
  simp only[mP]at h;split at h
  ·rename_i ds;obtain⟨new,h1,ds',h2,h3,h4,h5⟩:=wN hf ho ps ds m m' h hn hc;refine⟨new,h1,.agg ds',fun rest=>by simp only[eP,h2],?_,by simpa[drefs]using h4,by simpa[drefs]using h5⟩;intro P β w I v hv;simp only[den,rnA,VR]at hv ⊢;obtain⟨vs,rfl,hv⟩:=hv;refine⟨vs,rfl,?_⟩;exact EZ h3 _ hv
  ·cases h
theorem wN (hf:∀ q∈NM,f q.1=q.2) (ho:∀ q∈NM,∀ c l,get q.1=some (.lst c l)->olen q.2=l.length):∀ (ps:List (Pt X.ι)) (ds:List (DV X)) (m m':MA X),mPs get ps ds m=some m'->(∀ q∈m'.nm,q∈NM)->(∀ c∈m'.chk,c=true)->
 ∃ new,m'.dcs=m.dcs++new∧∃ ds',(∀ rest,ePs olen ps (new++rest)=(ds',rest))∧RowW (DN NM) f (aI ds) (aI ds')∧(∀ j∈aD ds,DN NM j)∧(∀ j∈aD ds',SN NM j)
 |[],[],m,m',h,_,_=>by
  simp only[mPs,Option.some.injEq]at h;subst h;exact⟨[],by simp,[],fun rest=>rfl,trivial,by simp[aD],by simp[aD]⟩
 |p::ps,d::ds,m,m',h,hn,hc=>by
  simp only[mPs]at h;rw[ai]at h;obtain⟨m1,h1,h⟩:=h;have hm:=(sJ ps ds m1 m' h).1;obtain⟨n1,a1,d',b1,c1,e1,g1⟩:=Tp hf ho p d m m1 h1 (fun q hq=>hn q (hm.1 q hq)) (fun q hq=>hc q (hm.2 q hq));obtain⟨n2,a2,ds',b2,c2,e2,g2⟩:=wN hf ho ps ds m1 m' h hn hc;refine⟨n1++n2,by rw[a2,a1,append_assoc],d'::ds',fun rest=>?_,⟨⟨fun k hk=>e1 k (by rwa [dR]at hk),c1⟩,c2⟩,?_,?_⟩
  ·simp only[ePs,append_assoc,b1,b2]
  ·intro j hj;simp only[aD,mem_append]at hj;exact hj.elim (e1 j) (e2 j)
  ·intro j hj;simp only[aD,mem_append]at hj;exact hj.elim (g1 j) (g2 j)
 |[],_::_,m,m',h,_,_=>by simp[mPs]at h
 |_::_,[],m,m',h,_,_=>by simp[mPs]at h
end
theorem IW (hf:∀ q∈NM,f q.1=q.2) (ho:∀ q∈NM,∀ c l,get q.1=some (.lst c l)->olen q.2=l.length):∀ (rs:List (List (Pt X.ι))) (qs:List (List (DV X))) (m m':MA X),zy get rs qs m=some m'->(∀ q∈m'.nm,q∈NM)->(∀ c∈m'.chk,c=true)->
 ∃ new,m'.dcs=m.dcs++new∧∃ qs',(∀ rest,oZ olen rs (new++rest)=(qs',rest))∧RowsW (DN NM) f (qs.map aI) (qs'.map aI)∧(∀ j∈(qs.map aD).flatten,DN NM j)∧(∀ j∈(qs'.map aD).flatten,SN NM j)
 |[],[],m,m',h,_,_=>by
  simp only[zy,Option.some.injEq]at h;subst h;exact⟨[],by simp,[],fun rest=>rfl,trivial,by simp,by simp⟩
 |r::rs,q::qs,m,m',h,hn,hc=>by
  simp only[zy]at h;rw[ai]at h;obtain⟨m1,h1,h⟩:=h;have hm:=(sK rs qs m1 m' h).1;obtain⟨n1,a1,d',b1,c1,e1,g1⟩:=wN hf ho r q m m1 h1 (fun q hq=>hn q (hm.1 q hq)) (fun q hq=>hc q (hm.2 q hq));obtain⟨n2,a2,ds',b2,c2,e2,g2⟩:=IW hf ho rs qs m1 m' h hn hc;refine⟨n1++n2,by rw[a2,a1,append_assoc],d'::ds',fun rest=>?_,⟨c1,c2⟩,?_,?_⟩
  ·simp only[oZ,append_assoc,b1,b2]
  ·intro j hj;simp only[map_cons,flatten_cons,mem_append]at hj;exact hj.elim (e1 j) (e2 j)
  ·intro j hj;simp only[map_cons,flatten_cons,mem_append]at hj;exact hj.elim (g1 j) (g2 j)
 |[],_::_,m,m',h,_,_=>by simp[zy]at h
 |_::_,[],m,m',h,_,_=>by simp[zy]at h
end
end
section
variable {X:SX} {get:Nat->Option (DObj X)} {env:Nat->DV X}
theorem Ar:∀ (sl:List (Nat×Pt X.ι)) (m m':MA X),Am get env sl m=some m'->Mono m m'∧∃ new,m'.dcs=m.dcs++new∧new.length=(varsS sl).length
 |[],m,m',h=>by
  simp only[Am,Option.some.injEq]at h;subst h;exact⟨Mono.refl _,[],by simp,rfl⟩
 |(t,p)::r,m,m',h=>by
  simp only[Am]at h;rw[ai]at h;obtain⟨m1,h1,h⟩:=h;obtain⟨a1,n1,b1,c1⟩:=XA p _ m m1 h1;obtain⟨a2,n2,b2,c2⟩:=Ar r m1 m' h;exact⟨a1.trans a2,n1++n2,by rw[b2,b1,append_assoc],by simp[varsS,c1,c2]⟩
theorem iq:∀ (os:List (Nat×OP X.ι)) (m m':MA X),wH get os m=some m'->Mono m m'∧∃ new,m'.dcs=m.dcs++new∧new.length=(varsO os).length
 |[],m,m',h=>by
  simp only[wH,Option.some.injEq]at h;subst h;exact⟨Mono.refl _,[],by simp,rfl⟩
 |(k,op)::r,m,m',h=>by
  simp only[wH]at h;rw[ai]at h;obtain⟨o,h1,h⟩:=h;split at h
  ·rename_i c c' l;rw[ai]at h;obtain⟨l',h2,h⟩:=h;obtain⟨a2,n2,b2,c2⟩:=iq r _ m' h;refine⟨Mono.trans (Mono.trans (b:=⟨m.nm,m.dcs++[⟨.sl c,l'⟩],m.chk⟩) ⟨fun _ h=>h,fun _ h=>h⟩ (j6 _ _ _)) a2,[⟨.sl c,l'⟩]++n2,?_,by simp[varsO,c2]⟩;rw[b2,(bP _ _ _).1,append_assoc]
  ·rename_i kc vc kc' vc' l;rw[ai]at h;obtain⟨l',h2,h⟩:=h;obtain⟨a2,n2,b2,c2⟩:=iq r _ m' h;refine⟨Mono.trans (Mono.trans (b:=⟨m.nm,m.dcs++[⟨.mp kc vc,l'⟩],m.chk⟩) ⟨fun _ h=>h,fun _ h=>h⟩ (j6 _ _ _)) a2,[⟨.mp kc vc,l'⟩]++n2,?_,by simp[varsO,c2]⟩;rw[b2,(bP _ _ _).1,append_assoc]
  ·rename_i sz rows sz' rows';split at h
   ·rw[ai]at h;obtain⟨m1,h2,h⟩:=h;obtain⟨a1,n1,b1,c1⟩:=sK rows _ _ m1 h2;obtain⟨a2,n2,b2,c2⟩:=iq r m1 m' h;refine⟨((j6 m _ _).trans a1).trans a2,n1++n2,?_,by simp[varsO,c1,c2]⟩;rw[b2,b1,(bP _ _ _).1,append_assoc]
   ·cases h
  ·cases h
variable {NM:List (Nat×Nat)} {f:Nat->Nat} {olen:Nat->Nat}
theorem yj:∀ (os:List (Nat×OP X.ι)) (m m':MA X),wH get os m=some m'->(∀ q∈m'.nm,q∈NM)->∃ new,m'.dcs=m.dcs++new∧∀ rest,∀ k∈os.map (·.1),∃ k' o,(k',k)∈NM∧get k'=some o∧∀ c l,o= .lst c l->(k,List.length l)∈lens os (new++rest)
 |[],m,m',h,_=>by
  simp only[wH,Option.some.injEq]at h;subst h;exact⟨[],by simp,fun rest k hk=>by simp at hk⟩
 |(k,op)::r,m,m',h,hn=>by
  simp only[wH]at h;rw[ai]at h;obtain⟨o,h1,h⟩:=h;split at h
  ·rename_i c c' l;rw[ai]at h;obtain⟨l',h2,h⟩:=h;have hm:=(iq r _ m' h).1;obtain⟨n2,b2,c2⟩:=yj r _ m' h hn;refine⟨[⟨.sl c,l'⟩]++n2,by rw[b2,(bP _ _ _).1,append_assoc],fun rest j hj=>?_⟩;simp only[map_cons,mem_cons]at hj;simp only[append_assoc,cons_append,nil_append,lens];by_cases hjk:j=k
   ·subst hjk;refine⟨_,_,hn _ (hm.1 _ (jr _ _ _)),h1,fun c2 l2 he=>?_⟩;injection he with e1 e2;subst e1;have e2:=eq_of_heq e2;subst e2;have:=congrArg List.length (eu h2).2;simp only[length_map]at this;rw[this];exact List.mem_cons_self
   ·rcases hj with rfl |hj
    ·exact (hjk rfl).elim
    ·obtain⟨k',o',g1,g2,g3⟩:=c2 rest j hj;exact⟨k',o',g1,g2,fun c l he=>mem_cons_of_mem _ (g3 c l he)⟩
  ·rename_i kc vc kc' vc' l;rw[ai]at h;obtain⟨l',h2,h⟩:=h;have hm:=(iq r _ m' h).1;obtain⟨n2,b2,c2⟩:=yj r _ m' h hn;refine⟨[⟨.mp kc vc,l'⟩]++n2,by rw[b2,(bP _ _ _).1,append_assoc],fun rest j hj=>?_⟩;simp only[map_cons,mem_cons]at hj;simp only[append_assoc,cons_append,nil_append,lens,List.drop_succ_cons,List.drop_zero];by_cases hjk:j=k
   ·subst hjk;exact⟨_,_,hn _ (hm.1 _ (jr _ _ _)),h1,fun c2 l2 he=>by cases he⟩
   ·rcases hj with rfl |hj
    ·exact (hjk rfl).elim
    ·exact c2 rest j hj
  ·rename_i sz rows sz' rows';split at h
   ·rw[ai]at h;obtain⟨m1,h2,h⟩:=h;obtain⟨a1,n1,b1,c1⟩:=sK rows _ _ m1 h2;have hm:=(iq r _ m' h).1;obtain⟨n2,b2,c2⟩:=yj r _ m' h hn;refine⟨n1++n2,by rw[b2,b1,(bP _ _ _).1,append_assoc],fun rest j hj=>?_⟩;simp only[map_cons,mem_cons]at hj;have hd:(n1++n2++rest).drop (oV rows).length=n2++rest:=(by rw[<- c1,append_assoc,List.drop_left]);simp only[lens,hd];by_cases hjk:j=k
    ·subst hjk;exact⟨_,_,hn _ (hm.1 _ (a1.1 _ (jr _ _ _))),h1,fun c2 l2 he=>by cases he⟩
    ·rcases hj with rfl |hj
     ·exact (hjk rfl).elim
     ·exact c2 rest j hj
   ·cases h
  ·cases h
theorem Ca:∀ (os:List (Nat×OP X.ι)) (L:List (DC X)),((lens os L).map (·.1)).Sublist (os.map (·.1))
 |[],_=>by simp[lens]
 |(k,.l c)::r,L=>by
  simp only[lens];split
  ·exact (Ca r _).cons_cons _
  ·exact List.nil_sublist _
 |(k,.m kc vc)::r,L=>by
  simp only[lens];exact (Ca r _).cons _
 |(k,.c sz rows)::r,L=>by
  simp only[lens];exact (Ca r _).cons _
theorem E8 (hf:∀ q∈NM,f q.1=q.2) (ho:∀ q∈NM,∀ c l,get q.1=some (.lst c l)->olen q.2=l.length):∀ (sl:List (Nat×Pt X.ι)) (m m':MA X),Am get env sl m=some m'->(∀ q∈m'.nm,q∈NM)->(∀ c∈m'.chk,c=true)->
 ∃ new,m'.dcs=m.dcs++new∧∃ es,(∀ rest,vo olen sl (new++rest)=es)∧(∀ p∈es,p.1∈sl.map (·.1)∧Wkn (rnA f (den (env p.1))) (den p.2)∧(∀ j∈drefs (env p.1),DN NM j)∧(∀ j∈drefs p.2,SN NM j))
 |[],m,m',h,_,_=>by
  simp only[Am,Option.some.injEq]at h;subst h;exact⟨[],by simp,[],fun rest=>rfl,by simp⟩
 |(t,p)::r,m,m',h,hn,hc=>by
  simp only[Am]at h;rw[ai]at h;obtain⟨m1,h1,h⟩:=h;have hm:=(Ar r m1 m' h).1;obtain⟨n1,a1,d',b1,c1,e1,g1⟩:=Tp hf ho p _ m m1 h1 (fun q hq=>hn q (hm.1 q hq)) (fun q hq=>hc q (hm.2 q hq));obtain⟨n2,a2,es,b2,c2⟩:=E8 hf ho r m1 m' h hn hc;refine⟨n1++n2,by rw[a2,a1,append_assoc],(t,d')::es,fun rest=>by simp only[vo,append_assoc,b1,b2],fun q hq=>?_⟩;rcases mem_cons.1 hq with rfl |hq
  ·exact⟨by simp,c1,e1,g1⟩
  ·obtain⟨i1,i2⟩:=c2 q hq;exact⟨by simp only[map_cons,mem_cons];exact .inr i1,i2⟩
theorem Pm {D:Nat->Prop} (f:Nat->Nat):∀ rows:List (List Tree),RowsW D f (ay rows) (ay rows)
 |[]=>trivial
 |r::rs=>by
  refine⟨?_,Pm f rs⟩
  induction r with
  |nil=>trivial
  |cons y ys ih=>exact⟨⟨by simp[refs],Wkn.refl _⟩,ih⟩
theorem Pn {a b c d:CT X.ι} {l:List (CT.T X.toSE a×CT.T X.toSE b)} {l':List (CT.T X.toSE c×CT.T X.toSE d)} (h:bZ (.mp a b) (.mp c d) l=some l'):aH (.map c d l':DObj X)=aH (.map a b l):=by
 obtain⟨e,h⟩:=ic h;injection e with e1 e2;subst e1;subst e2;subst h;rfl
theorem Po {D:Nat->Prop} (f:Nat->Nat) {kc vc:CT X.ι}:∀ l:List (CT.T X.toSE kc×CT.T X.toSE vc),RowsW D f (aH (.map kc vc l:DObj X)).rows (aH (.map kc vc l:DObj X)).rows
 |[]=>trivial
 |p::ps=>⟨⟨⟨by simp[xW],by rw[Lu];exact Wkn.refl _⟩,⟨by simp[xW],by rw[Lu];exact Wkn.refl _⟩,trivial⟩,Po f ps⟩
theorem uL (hf:∀ q∈NM,f q.1=q.2) (ho:∀ q∈NM,∀ c l,get q.1=some (.lst c l)->olen q.2=l.length):∀ (os:List (Nat×OP X.ι)) (m m':MA X),wH get os m=some m'->(∀ q∈m'.nm,q∈NM)->(∀ c∈m'.chk,c=true)->
 ∃ new,m'.dcs=m.dcs++new∧∃ xs,(∀ rest,aO olen os (new++rest)=xs)∧(∀ p∈xs,p.1∈os.map (·.1)∧∃ k' o o',p.2=some o'∧(k',p.1)∈NM∧get k'=some o∧(aH o').sz=(aH o).sz∧RowsW (DN NM) f (aH o).rows (aH o').rows∧(∀ j∈orefs o',SN NM j))
 |[],m,m',h,_,_=>by
  simp only[wH,Option.some.injEq]at h;subst h;exact⟨[],by simp,[],fun rest=>rfl,by simp⟩
 |(k,op)::r,m,m',h,hn,hc=>by
  simp only[wH]at h;rw[ai]at h;obtain⟨o,h1,h⟩:=h;split at h
  ·rename_i c c' l;rw[ai]at h;obtain⟨l',h2,h⟩:=h;have hm:=(iq r _ m' h).1;obtain⟨n2,a2,xs,b2,c2⟩:=uL hf ho r _ m' h hn hc;refine⟨[⟨.sl c,l'⟩]++n2,by rw[a2,(bP _ _ _).1,append_assoc],(k,some (.lst c l'))::xs,fun rest=>by simp only[append_assoc,cons_append,nil_append,aO,b2],fun q hq=>?_⟩;rcases mem_cons.1 hq with rfl |hq
   ·refine⟨by simp,_,_,_,rfl,hn _ (hm.1 _ (jr _ _ _)),h1,?_,?_,by simp[orefs]⟩
    ·simp only[aH,(eu h2).1]
    ·simp only[aH,(eu h2).2];exact Pm f _
   ·obtain⟨i1,i2⟩:=c2 q hq;exact⟨by simp only[map_cons,mem_cons];exact .inr i1,i2⟩
  ·rename_i kc vc kc' vc' l;rw[ai]at h;obtain⟨l',h2,h⟩:=h;have hm:=(iq r _ m' h).1;obtain⟨n2,a2,xs,b2,c2⟩:=uL hf ho r _ m' h hn hc;refine⟨[⟨.mp kc vc,l'⟩]++n2,by rw[a2,(bP _ _ _).1,append_assoc],(k,some (.map kc vc l'))::xs,fun rest=>by simp only[append_assoc,cons_append,nil_append,aO,b2],fun q hq=>?_⟩;rcases mem_cons.1 hq with rfl |hq
   ·refine⟨by simp,_,_,_,rfl,hn _ (hm.1 _ (jr _ _ _)),h1,?_,?_,by simp[orefs]⟩
    ·rw[Pn h2]
    ·rw[Pn h2];exact Po f _
   ·obtain⟨i1,i2⟩:=c2 q hq;exact⟨by simp only[map_cons,mem_cons];exact .inr i1,i2⟩
  ·rename_i sz rows sz' rows';split at h
   ·rename_i hsz;rw[ai]at h;obtain⟨m1,h2,h⟩:=h;have hm1:=(sK rows _ _ m1 h2).1;have hm:=(iq r _ m' h).1;obtain⟨n1,a1,qs,b1,c1,e1,g1⟩:=IW hf ho rows _ _ m1 h2 (fun q hq=>hn q (hm.1 q hq)) (fun q hq=>hc q (hm.2 q hq));obtain⟨n2,a2,xs,b2,c2⟩:=uL hf ho r _ m' h hn hc;refine⟨n1++n2,by rw[a2,a1,(bP _ _ _).1,append_assoc],(k,some (.cells sz qs))::xs,fun rest=>by simp only[append_assoc,aO,b1,b2],fun q hq=>?_⟩;rcases mem_cons.1 hq with rfl |hq
    ·exact⟨by simp,_,_,_,rfl,hn _ (hm.1 _ (hm1.1 _ (jr _ _ _))),h1,hsz,c1,g1⟩
    ·obtain⟨i1,i2⟩:=c2 q hq;exact⟨by simp only[map_cons,mem_cons];exact .inr i1,i2⟩
   ·cases h
  ·cases h
theorem YE {d:DV X} (h:isU d=false) (h':d= .undef):False:=by subst h';cases h
theorem QY {A:Type} {sh:Sh X.ι} {ds:List Nat} {s0 s':DSt X} {k:VT (X:=X) sh.vars->Option A} {r:A} (hl0:Low s0) (hx:Ext (· ∈ds) s0 s') (h:QX sh ds s0 s' k=some r):
 ∃ v,k v=some r∧Low (encS sh s0 v)∧Ext (· ∈ds) s0 (encS sh s0 v)∧∀ (P:Program) (w0:World) (O0:Was) (N:Nat) (β:Nat->Option Blk) (I:Nat->Prop) (a:Act) (w:World),Rel P w0 O0 N β I s'.st a w->∃ β',Rel P w0 O0 N β' I (encS sh s0 v).st a w:=by
 unfold QX at h;rw[ai]at h;obtain⟨m1,h1,h⟩:=h;rw[ai]at h;obtain⟨m,h2,h⟩:=h;obtain⟨h3,h⟩:=aT h;rw[ai]at h;obtain⟨v,h4,h⟩:=h;obtain⟨h5,h6⟩:=j5 h;simp only[okS,and_eq_true,decide_eq_true_eq]at h3;obtain⟨⟨⟨⟨⟨⟨⟨⟨n1,n2⟩,n3⟩,n4⟩,n5⟩,n6⟩,n7⟩,n8⟩,n9⟩:=h3;have hm2:=(iq _ _ _ h2).1;have hdcs:=Le h4;obtain⟨_,nA,dA,lA⟩:=Ar _ _ _ h1;simp only[nil_append]at dA;have hnd1:(m.nm.map (·.1)).Nodup:=(List.nodup_append.1 n1).1;have hnd2:(m.nm.map (·.2)).Nodup:=(List.nodup_append.1 n2).1;have hsw:((m.nm.map fun q=>(q.2,q.1)).map (·.1)).Nodup:=by rw[map_map];exact hnd2
 generalize hf':(fun j=>match lk m.nm j with |some q=>q |none=>j:Nat->Nat)=f;generalize hg':(fun j=>match lk (m.nm.map fun q=>(q.2,q.1)) j with |some q=>q |none=>j:Nat->Nat)=g;have hf:∀ q∈m.nm,f q.1=q.2:=by
  rintro⟨p,q⟩ hq;rw[<- hf'];simp only[nQ hnd1 hq]
 have hg:∀ q∈m.nm,g q.2=q.1:=by
  rintro⟨p,q⟩ hq;rw[<- hg'];have:(q,p)∈m.nm.map fun q=>(q.2,q.1):=mem_map.2 ⟨(p,q),hq,rfl⟩;simp only[nQ hsw this]
 have hfk:∀ j∈sh.keepO,f j=j:=by
  intro j hj;rw[<- hf'];cases hh:lk m.nm j with
  |none=>simp[hh]
  |some q=>exact ((List.nodup_append.1 n1).2.2 j (mem_map.2 ⟨(j,q),lI hh,rfl⟩) j hj rfl).elim
 have hgk:∀ j∈sh.keepO,g j=j:=by
  intro j hj;rw[<- hg'];cases hh:lk (m.nm.map fun q=>(q.2,q.1)) j with
  |none=>simp[hh]
  |some q=>
   have h1:=lI hh;simp only[mem_map]at h1;obtain⟨z,hz,e⟩:=h1;injection e with e1 e2;exact ((List.nodup_append.1 n2).2.2 j (mem_map.2 ⟨z,hz,e1⟩) j hj rfl).elim
 have hg0:∀ j,j < 1000->g j=j:=by
  intro j hj;rw[<- hg'];cases hh:lk (m.nm.map fun q=>(q.2,q.1)) j with
  |none=>simp[hh]
  |some q=>
   have h1:=lI hh;simp only[mem_map]at h1;obtain⟨z,hz,e⟩:=h1;injection e with e1 e2;have:=all_eq_true.1 n4 z hz;simp only[and_eq_true,Bool.or_eq_true,decide_eq_true_eq]at this;simp only[hh];omega
 have hgf:∀ j,(DN m.nm j∨j∈sh.keepO)->g (f j)=j:=by
  rintro j (⟨q,hq⟩ |hj)
  ·rw[hf _ hq];exact hg _ hq
  ·rw[hfk j hj];exact hgk j hj
 obtain⟨nB,dB,lB⟩:=yj (NM:=m.nm) _ _ _ h2 (fun q hq=>hq);have hL:m.dcs=nA++nB:=by rw[dB,dA]
 have hdrop:(oW sh.vars v).drop (varsS sh.slots).length=nB:=by rw[hdcs,hL,<- lA,List.drop_left]
 have htake:(oW sh.vars v).take (varsS sh.slots).length=nA:=by rw[hdcs,hL,<- lA,List.take_left]
 generalize hol:(fun k=>(lk (lens sh.objs nB) k).getD 0:Nat->Nat)=olen;have ho:∀ q∈m.nm,∀ c l,lko s'.obj q.1=some (.lst c l)->olen q.2=l.length:=by
  rintro⟨p,q⟩ hq c l hl;have hqk:=all_eq_true.1 n4 _ hq;simp only[and_eq_true]at hqk;obtain⟨p',o,g1,g2,g3⟩:=lB [] q (by simpa using hqk.1.1);have:p'=p:=by
   have e1:=hg _ g1;have e2:=hg _ hq;simp only at e1 e2;rw[<- e1,e2]
  subst this;simp only at hl;rw[hl]at g2;injection g2 with g2;have h3:=g3 c l g2.symm;rw[append_nil]at h3;rw[<- hol];have hk:=(Ca sh.objs nB).nodup n3;simp only[nQ hk h3,Option.getD_some]
 obtain⟨nA',dA',es,eA,pA⟩:=E8 (NM:=m.nm) (f:=f) (olen:=olen) hf ho _ _ _ h1 (fun q hq=>hm2.1 q hq) (fun c hc=>h5 c (hm2.2 c hc));obtain⟨nB',dB',xs,eB,pB⟩:=uL (NM:=m.nm) (f:=f) (olen:=olen) hf ho _ _ _ h2 (fun q hq=>hq) h5;have eqA:nA'=nA:=by simp only[nil_append]at dA';rw[<- dA',dA]
 have eqB:nB'=nB:=List.append_cancel_left (dB'.symm.trans dB);subst eqA eqB;have eA0:=eA [];have eB0:=eB [];rw[append_nil]at eA0 eB0;have hS:encS sh s0 v=⟨es++sh.keep.map (fun t=>(t,lke s0.env t)),xs++sh.keepO.map (fun k=>(k,lko s0.obj k)),sh.nx,(List.range s0.nx).filter (fun k=>!sh.keepO.contains k)++s0.log⟩:=by simp only[encS,hdrop,htake,hol,eA0,eB0]
 have hsn:∀ j,SN m.nm j->j < sh.nx:=by
  rintro j ⟨p,hp⟩;have:=all_eq_true.1 n4 _ hp;simp only[and_eq_true,decide_eq_true_eq]at this;exact this.1.2
 have kp:∀ j,(sh.keepO.contains j || m.nm.contains (j,j))=true->j∈sh.keepO∨(j,j)∈m.nm:=by
  intro j hj;simpa using hj
 have hfp:∀ j,j∈sh.keepO∨(j,j)∈m.nm->f j=j:=fun j hj=>hj.elim (hfk j) (fun h=>hf (j,j) h);have hdp:∀ j,j∈sh.keepO∨(j,j)∈m.nm->DN m.nm j∨j∈sh.keepO:=fun j hj=>hj.elim .inr (fun h=> .inl ⟨j,h⟩);have hko:∀ j∈sh.keepO,j < s0.nx∧(∃ o,lko s0.obj j=some o∧lko s'.obj j=some o∧∀ i∈orefs o,i∈sh.keepO∨(i,i)∈m.nm):=by
  intro j hj;have:=all_eq_true.1 n7 _ hj;simp only[and_eq_true,decide_eq_true_eq,Bool.not_eq_true']at this;obtain⟨⟨⟨a1,a2⟩,a3⟩,a4⟩:=this;refine⟨a1,?_⟩;cases ho0:lko s0.obj j with
  |none=>rw[ho0]at a4;cases a4
  |some o=>
   rw[ho0]at a4;refine⟨o,rfl,?_,fun i hi=>kp i (all_eq_true.1 a4 i hi)⟩;obtain⟨d,hd,hd2⟩:=hx.obj;have hnd:j∉d:=by
    have e:s'.log.take (s'.log.length - s0.log.length)=d:=(by rw[hd,List.length_append,Nat.add_sub_cancel,List.take_left]);rw[e]at a2;simpa using a2
   rcases hd2 j a1 hnd with h |h
   ·rw[h,ho0]
   ·rw[h]at a3;cases a3
 have hke:∀ t∈sh.keep,t∉ds∧lke s'.env t=lke s0.env t∧∀ j∈drefs (lke s0.env t),j∈sh.keepO∨(j,j)∈m.nm:=by
  intro t ht;have:=all_eq_true.1 n6 _ ht;simp only[and_eq_true,Bool.not_eq_true']at this;obtain⟨⟨a1,a2⟩,a3⟩:=this;have a1':t∉ds:=by simpa using a1
  refine⟨a1',?_,fun j hj=>kp j (all_eq_true.1 a3 j hj)⟩;rcases hx.env t a1' with h |h
  ·exact h
  ·exact (YE a2 h).elim
 have hks:∀ q∈es,q.1∈ds:=by
  intro q hq;have h1:=(pA q hq).1;obtain⟨z,hz,e⟩:=mem_map.1 h1;have:=all_eq_true.1 n5 _ hz;rw[<- e];simpa using this
 have hkeep:∀ t,lk (sh.keep.map fun t=>(t,lke s0.env t)) t=if t∈sh.keep then some (lke s0.env t)else none:=by
  intro t
  induction sh.keep with
  |nil=>simp[lk]
  |cons q qs ih=>
   simp only[map_cons,lk,ih,mem_cons];by_cases e:q=t
   ·subst e;simp
   ·rw[if_neg e];simp[Ne.symm e]
 have hkeepO:∀ t,lk (sh.keepO.map fun t=>(t,lko s0.obj t)) t=if t∈sh.keepO then some (lko s0.obj t)else none:=by
  intro t
  induction sh.keepO with
  |nil=>simp[lk]
  |cons q qs ih=>
   simp only[map_cons,lk,ih,mem_cons];by_cases e:q=t
   ·subst e;simp
   ·rw[if_neg e];simp[Ne.symm e]
 have henv:∀ t,(∃ d,(t,d)∈es∧lke (encS sh s0 v).env t=d)∨(t∈sh.keep∧lke (encS sh s0 v).env t=lke s0.env t)∨lke (encS sh s0 v).env t= .undef:=by
  intro t;have e1:lke (encS sh s0 v).env t=(match lk es t with |some d=>some d |none=>if t∈sh.keep then some (lke s0.env t)else none).getD .undef:=by
   rw[hS];show (lk (es++sh.keep.map (fun t=>(t,lke s0.env t))) t).getD .undef=_;rw[wM,hkeep t];cases lk es t<;>rfl
  rw[e1];cases he:lk es t with
  |some d=>exact .inl ⟨d,lI he,rfl⟩
  |none=>
   by_cases ht:t∈sh.keep
   ·simp only[if_pos ht];exact .inr (.inl ⟨ht,rfl⟩)
   ·simp only[if_neg ht];exact .inr (.inr rfl)
 have hobj:∀ j o,lko (encS sh s0 v).obj j=some o->(∃ k' o1,(k',j)∈m.nm∧lko s'.obj k'=some o1∧(aH o).sz=(aH o1).sz∧RowsW (DN m.nm) f (aH o1).rows (aH o).rows∧(∀ i∈orefs o,SN m.nm i))∨(j∈sh.keepO∧lko s0.obj j=some o):=by
  intro j o hjo;have e1:lko (encS sh s0 v).obj j=(match lk xs j with |some d=>some d |none=>if j∈sh.keepO then some (lko s0.obj j)else none).join:=by
   rw[hS];show (lk (xs++sh.keepO.map (fun k=>(k,lko s0.obj k))) j).join=_;rw[wM,hkeepO j];cases lk xs j<;>rfl
  rw[e1]at hjo;cases he:lk xs j with
  |some x=>
   rw[he]at hjo;obtain⟨_,k',o1,o',b1,b2,b3,b4,b5,b6⟩:=pB _ (lI he);simp only at b1 b2 hjo;subst b1;simp only[Option.join_some,Option.some.injEq]at hjo;subst hjo;exact .inl ⟨k',o1,b2,b3,b4,b5,b6⟩
  |none=>
   rw[he]at hjo;by_cases hj:j∈sh.keepO
   ·simp only[if_pos hj,Option.join_some]at hjo;exact .inr ⟨hj,hjo⟩
   ·simp[if_neg hj]at hjo
 have hnx:s0.nx<=sh.nx:=n8;have hkx:∀ j,j∈sh.keepO∨(j,j)∈m.nm->j < sh.nx:=fun j hj=>hj.elim (fun hj=>Nat.lt_of_lt_of_le (hko j hj).1 hnx) (fun h=>hsn j ⟨j,h⟩);have hRW:∀ {r q:List AV},RowW (DN m.nm) f r q->RowW (fun j=>DN m.nm j∨j∈sh.keepO) f r q:=by
  intro r
  induction r with
  |nil=>intro q h;cases q with
   |nil=>trivial
   |cons=>exact h.elim
  |cons x xs ih=>intro q h;cases q with
   |nil=>exact h.elim
   |cons y ys=>exact⟨⟨fun k hk=> .inl (h.1.1 k hk),h.1.2⟩,ih h.2⟩
 have hRsW:∀ {r q:List (List AV)},RowsW (DN m.nm) f r q->RowsW (fun j=>DN m.nm j∨j∈sh.keepO) f r q:=by
  intro r
  induction r with
  |nil=>intro q h;cases q with
   |nil=>trivial
   |cons=>exact h.elim
  |cons x xs ih=>intro q h;cases q with
   |nil=>exact h.elim
   |cons y ys=>exact⟨hRW h.1,ih h.2⟩
 refine⟨v,h6,?_,?_,?_⟩
 ·constructor
  ·rw[hS];exact n9
  ·rw[hS];exact Nat.le_trans hl0.ge n8
  ·intro t j hj;have hnx':(encS sh s0 v).nx=sh.nx:=(by rw[hS]);rw[hnx'];rcases henv t with ⟨d,h1,h2⟩ |⟨h1,h2⟩ |h2
   ·rw[h2]at hj;exact hsn j ((pA _ h1).2.2.2 j hj)
   ·rw[h2]at hj;exact hkx j ((hke t h1).2.2 j hj)
   ·rw[h2]at hj;simp[drefs]at hj
  ·intro j o hjo;have hnx':(encS sh s0 v).nx=sh.nx:=(by rw[hS]);rw[hnx'];rcases hobj j o hjo with ⟨k',o1,b1,b2,b3,b4,b5⟩ |⟨b1,b2⟩
   ·exact⟨hsn j ⟨k',b1⟩,fun i hi=>hsn i (b5 i hi)⟩
   ·obtain⟨c1,o',c2,c3,c4⟩:=hko j b1;rw[b2]at c2;injection c2 with c2;subst c2;exact⟨hkx j (.inl b1),fun i hi=>hkx i (c4 i hi)⟩
 ·refine⟨fun t ht=>?_,⟨(List.range s0.nx).filter (fun k=>!sh.keepO.contains k),by rw[hS],fun j hj hn=>?_⟩,by rw[hS];exact hnx⟩
  ·rcases henv t with ⟨d,h1,h2⟩ |⟨h1,h2⟩ |h2
   ·exact (ht (hks _ h1)).elim
   ·exact .inl h2
   ·exact .inr h2
  ·have hjk:j∈sh.keepO:=(by simpa[hj]using hn);cases hjo:lko (encS sh s0 v).obj j with
   |none=>exact .inr rfl
   |some o=>
    rcases hobj j o hjo with ⟨k',o1,b1,_⟩ |⟨b1,b2⟩
    ·exact ((List.nodup_append.1 n2).2.2 j (mem_map.2 ⟨(k',j),b1,rfl⟩) j hjk rfl).elim
    ·exact .inl b2.symm
 ·intro P w0 O0 N β I a w hr;refine⟨_,Rel.re (f:=f) (g:=g) (D:=fun j=>DN m.nm j∨j∈sh.keepO) hgf hg0 hr (fun _=> .inl rfl) (fun _=>rfl) (fun t=>?_) (fun j o' hj=>?_)⟩
  ·show den (lke (encS sh s0 v).env t)= .undef∨((∀ k∈refs (den (lke s'.env t)),_)∧Wkn (rnA f (den (lke s'.env t))) (den (lke (encS sh s0 v).env t)));rcases henv t with ⟨d,h1,h2⟩ |⟨h1,h2⟩ |h2
   ·right;rw[h2];obtain⟨_,b1,b2,_⟩:=pA _ h1;exact⟨fun k hk=> .inl (b2 k (by rwa [dR]at hk)),b1⟩
   ·right;obtain⟨_,b1,b2⟩:=hke t h1;rw[h2,b1];refine⟨fun k hk=>hdp k (b2 k (by rwa [dR]at hk)),?_⟩;rw[<- uI,LQ _ (fun k hk=>hfp k (b2 k hk))];exact Wkn.refl _
   ·left;rw[h2];rfl
  ·simp only[DSt.st,Option.map_eq_some_iff]at hj;obtain⟨o,hjo,rfl⟩:=hj;rcases hobj j o hjo with ⟨k',o1,b1,b2,b3,b4,b5⟩ |⟨b1,b2⟩
   ·exact⟨k',aH o1,by simp[DSt.st,b2],.inl ⟨j,b1⟩,hf _ b1,b3,hRsW b4⟩
   ·obtain⟨c1,o',c2,c3,c4⟩:=hko j b1;rw[b2]at c2;injection c2 with c2;subst c2;have hid:rnO f o=o:=by
     cases o with
     |lst c l=>rfl
     |map kc vc l=>rfl
     |cells sz rows=>
      simp only[rnO];congr 1;have:∀ q∈rows,Cu f q=q:=fun q hq=>uK q fun i hi=>hfp i (c4 i (by
       simp only[orefs,List.mem_flatten,mem_map];exact⟨_,⟨q,hq,rfl⟩,hi⟩))
      rw[map_congr_left this];simp
    obtain⟨r1,r2⟩:=BZ (D:=fun j=>DN m.nm j∨j∈sh.keepO) f o (fun i hi=>hdp i (c4 i hi));rw[hid]at r1 r2;exact⟨j,aH o,by simp[DSt.st,c3],.inr b1,hfk j b1,r1,r2⟩
theorem Ext.trans {ds:Nat->Prop} {a b c:DSt X} (h:Ext ds a b) (h':Ext ds b c):Ext ds a c:=by
 refine⟨fun t ht=>?_,?_,Nat.le_trans h.nx h'.nx⟩
 ·rcases h'.env t ht with h1 |h1
  ·rcases h.env t ht with h2 |h2
   ·exact .inl (h1.trans h2)
   ·exact .inr (h1.trans h2)
  ·exact .inr h1
 ·obtain⟨d,h1,h2⟩:=h.obj;obtain⟨d',h3,h4⟩:=h'.obj;refine⟨d'++d,by rw[h3,h1,append_assoc],fun k hk hn=>?_⟩;simp only[mem_append,not_or]at hn;rcases h4 k (Nat.lt_of_lt_of_le hk h.nx) hn.1 with h5 |h5
  ·rcases h2 k hk hn.2 with h6 |h6
   ·exact .inl (h5.trans h6)
   ·exact .inr (h5.trans h6)
  ·exact .inr h5
theorem Ext.refl (ds:Nat->Prop) (s:DSt X):Ext ds s s:=⟨fun _ _=> .inl rfl,⟨[],by simp,fun _ _ _=> .inl rfl⟩,Nat.le_refl _⟩
def Says (s s':DSt X):Prop:=∀ (P:Program) (w0:World) (O0:Was) (N:Nat) (β:Nat->Option Blk) (I:Nat->Prop) (a:Act) (w:World),Rel P w0 O0 N β I s.st a w->∃ β',Rel P w0 O0 N β' I s'.st a w
theorem Low.room {s:DSt X} {P:Program} {w0:World} {O0:Was} {N:Nat} {β:Nat->Option Blk} {I:Nat->Prop} {a:Act} {w:World} (hl:Low s) (hr:Rel P w0 O0 N β I s.st a w):∃ β2,β2 s.nx=none∧Rel P w0 O0 N β2 I s.st a w:=by
 have hr1:=hr.restrict hl.old
 have hr2:=Rel.re (f:=id) (g:=fun j=>if j < s.nx then j else 1000000) (D:=(· < s.nx)) (s':=s.st) (fun k hk=>if_pos hk) (fun j hj=>if_pos (by have:=hl.ge;omega)) hr1 (fun _=> .inl rfl) (fun _=>rfl)
  (fun q=> .inr ⟨fun k hk=>hl.env q k (by rw[<- dR];exact hk),by
   show Wkn (rnA id (den (lke s.env q))) (den (lke s.env q));rw[<- uI,LQ (f:=id) _ (fun _ _=>rfl)];exact Wkn.refl _⟩)
  (fun j o' hj=>by
   simp only[DSt.st,Option.map_eq_some_iff]at hj;obtain⟨x,hx,rfl⟩:=hj;obtain⟨h1,h2⟩:=hl.obj j x hx;obtain⟨r1,r2⟩:=BZ (D:=(· < s.nx)) id x h2;have hid:rnO id x=x:=by
    cases x with
    |lst c l=>rfl
    |map kc vc l=>rfl
    |cells sz rows=>
     simp only[rnO];congr 1;have:∀ q∈rows,Cu id q=q:=fun q _=>uK (f:=id) q fun _ _=>rfl;rw[map_congr_left this];simp
   rw[hid]at r1 r2;exact⟨j,aH x,by simp[DSt.st,hx],h1,rfl,r1,r2⟩)
 exact⟨_,by simp,hr2⟩
theorem abD (z:Bool) (k:Nat):drefs (nz (X:=X) z k)=[k]:=by cases z<;>rfl
theorem LV {ds:List Nat} {z:Bool} {s:DSt X} {t:Nat} {c:CT X.ι} (hl:Low s) (ht:t∈ds):Low (Tn z s t c)∧Ext (· ∈ds) s (Tn z s t c)∧Says s (Tn z s t c):=by
 unfold Tn;split
 ·rename_i hn;split
  ·rename_i hlt;have he:∀ q,lke ((t,nz z s.nx)::s.env) q=if t=q then nz z s.nx else lke s.env q:=fun q=>by
    simp only[lke,lk];by_cases e:t=q<;>simp[e]
   have hO:∀ q,lko ((s.nx,some (.lst c []))::s.obj) q=if s.nx=q then some (.lst c [])else lko s.obj q:=fun q=>by
    simp only[lko,lk];by_cases e:s.nx=q<;>simp[e]
   refine⟨⟨by show s.nx+1<=1000000;omega,by have:=hl.ge;show 1000<=s.nx+1;omega,fun q k hk=>?_,fun k o ho=>?_⟩,⟨fun q hq=>?_,⟨[s.nx],rfl,fun k hk hnk=>?_⟩,by show s.nx<=s.nx+1;omega⟩,fun P w0 O0 N β I a w hr=>?_⟩
   ·rw[he]at hk;split at hk
    ·simp only[abD,mem_singleton]at hk;subst hk;show s.nx < s.nx+1;omega
    ·have:=hl.env q k hk;show k < s.nx+1;omega
   ·rw[hO]at ho;split at ho
    ·rename_i e;injection ho with ho;subst ho;subst e;exact⟨by show s.nx < s.nx+1;omega,by simp[orefs]⟩
    ·obtain⟨h1,h2⟩:=hl.obj k o ho;exact⟨by show k < s.nx+1;omega,fun j hj=>by have:=h2 j hj;show j < s.nx+1;omega⟩
   ·left;rw[he,if_neg];intro e;subst e;exact hq ht
   ·left;rw[hO,if_neg (by omega)]
   ·obtain⟨β2,hβ2,hr2⟩:=hl.room hr;obtain⟨hS,hM⟩:=Mem.addNil (i:=s.nx) (o:=aH (.lst c []:DObj X)) hr2.mem hβ2 rfl;refine⟨ins β2 s.nx .none,hr2.defers,hr2.size,fun q=>?_,?_⟩
    ·have h1:=hr2.env q;show SlotR P _ w I (den (lke ((t,nz z s.nx)::s.env) q)) none _;rw[he];by_cases e:t=q
     ·subst e;rw[if_pos rfl];have h2:VR P _ w I (den (lke s.env t)) (a.tmps.getD t undef):=h1;rw[hn]at h2;simp only[den,VR]at h2;cases z with
      |false=>simp only[SlotR,nz,cond_false,den,VR];exact .inl ⟨by simp[ins],h2,trivial,trivial⟩
      |true=>simp only[SlotR,nz,cond_true,den,VR];exact .inl ⟨trivial,h2⟩
     ·rw[if_neg e];exact SlotR.mono hS.ext hS.same hS.inc h1
    ·have e:(fun k=>(lko ((s.nx,some (.lst c []))::s.obj) k).map aH)=aL s.st.obj [(s.nx,some (aH (.lst c []:DObj X)))]:=by
      funext q;simp only[aL,DSt.st];rw[hO];by_cases e:s.nx=q
      ·simp[e]
      ·rw[if_neg e,if_neg (Ne.symm e)]
     show Mem P w0 O0 _ I (fun k=>(lko ((s.nx,some (.lst c []))::s.obj) k).map aH) w;rw[e];exact hM
  ·exact⟨hl,Ext.refl _ s,fun _ _ _ _ β _ _ _ h=>⟨β,h⟩⟩
 ·exact⟨hl,Ext.refl _ s,fun _ _ _ _ β _ _ _ h=>⟨β,h⟩⟩
theorem LW (y:DV X):∀ (l:List (DV X)) (j i:Nat),i∈aD (l.set j y)->i∈aD l∨i∈drefs y
 |[],_,_,h=> .inl (by simpa using h)
 |x::l,0,i,h=>by
  simp only[List.set,aD,mem_append]at h ⊢;rcases h with h |h
  ·exact .inr h
  ·exact .inl (.inr h)
 |x::l,j+1,i,h=>by
  simp only[List.set,aD,mem_append]at h ⊢;rcases h with h |h
  ·exact .inl (.inl h)
  ·rcases LW y l j i h with h |h
   ·exact .inl (.inr h)
   ·exact .inr h
theorem VRl.set {P:Program} {β:Nat->Option Blk} {w:World} {I:Nat->Prop} {y:AV}:∀ (xs:List AV) (vs:List Value) (j:Nat),(∀ x v,xs[j]? =some x->VR P β w I x v->VR P β w I y v)->VRl P β w I xs vs->VRl P β w I (xs.set j y) vs
 |[],vs,_,_,h=>by simpa using h
 |x::xs,[],_,_,h=>by simp[VRl]at h
 |x::xs,v::vs,0,hy,h=>by simp only[VRl,List.set]at h ⊢;exact⟨hy x v rfl h.1,h.2⟩
 |x::xs,v::vs,j+1,hy,h=>by simp only[VRl,List.set]at h ⊢;exact⟨h.1,VRl.set xs vs j (fun x v e=>hy x v (by simpa using e)) h.2⟩
theorem OR.set1 {P:Program} {β:Nat->Option Blk} {w:World} {I:Nat->Prop} {sz:Nat} {row:List AV} {j:Nat} {y:AV} {B:Blk} (hy:∀ x v,row[j]? =some x->VR P β w I x v->VR P β w I y v) (h:OR P β w I ⟨sz,[row]⟩ B):OR P β w I ⟨sz,[row.set j y]⟩ B:=by
 cases B with
 |none=>simp[OR]at h
 | «at» b s n=>
  obtain⟨h1,c,e,h2,h3,h4⟩:=h;refine⟨h1,c,e,h2,h3,?_⟩;simp only[ORows,List.length_set]at h4 ⊢;refine⟨h4.1,?_,trivial⟩;rw[gG]at h4 ⊢;intro i x hx;rw[List.getElem?_set]at hx;split at hx
  ·rename_i e;subst e;split at hx
   ·injection hx with hx;subst hx;rename_i hlt;obtain⟨v,g1,g2,g3⟩:=h4.2.1 j _ (List.getElem?_eq_getElem hlt);exact⟨v,g1,hy _ v (List.getElem?_eq_getElem hlt) g2,g3⟩
   ·cases hx
  ·exact h4.2.1 i x hx
 |mp b=>
  obtain⟨es,cl,h1,hle,h2,h3⟩:=h;refine⟨es,cl,h1,hle,fun e=>?_,h3⟩;have:=h2 e
  match hes:es.toList,this with
  |[e1],this=>simp only[MRows]at this ⊢;exact⟨VRl.set _ _ j hy this.1,trivial⟩
  |[],this=>simp[MRows]at this
  |_::_::_,this=>simp[MRows]at this
theorem Tq (y:DV X):∀ (l:List (DV X)) (j:Nat),aI (l.set j y)=(aI l).set j (den y)
 |[],_=>by simp[aI]
 |x::l,0=>by simp[aI]
 |x::l,j+1=>by simp[aI,Tq y l j]
theorem VJ {ds:List Nat} {s:DSt X} {q j:Nat} {c:CT X.ι} (hl:Low s):Low (YD s q j c)∧Ext (· ∈ds) s (YD s q j c)∧Says s (YD s q j c):=by
 unfold YD;split
 ·rename_i sz row hq;split
  ·rename_i hn;split
   ·rename_i hlt;have hqn:q < s.nx:=(hl.obj q _ hq).1;have hrefs:∀ k∈aD row,k < s.nx:=fun k hk=>(hl.obj q _ hq).2 k (by simpa[orefs]using hk);have hO:∀ k,lko ((q,some (.cells sz [row.set j (.own s.nx 0 0)]))::(s.nx,some (.lst c []))::s.obj) k=if q=k then some (.cells sz [row.set j (.own s.nx 0 0)])else if s.nx=k then some (.lst c [])else lko s.obj k:=fun k=>by
     simp only[lko,lk];by_cases e:q=k
     ·simp[e]
     ·by_cases e':s.nx=k<;>simp[e,e']
    refine⟨⟨by show s.nx+1<=1000000;omega,by have:=hl.ge;show 1000<=s.nx+1;omega,fun k i hk=>by have:=hl.env k i hk;show i < s.nx+1;omega,fun k o ho=>?_⟩,⟨fun _ _=> .inl rfl,⟨[q,s.nx],rfl,fun k hk hnk=>?_⟩,by show s.nx<=s.nx+1;omega⟩,fun P w0 O0 N β I a w hr=>?_⟩
    ·rw[hO]at ho;split at ho
     ·rename_i e;injection ho with ho;subst ho;subst e;refine⟨by show q < s.nx+1;omega,fun i hi=>?_⟩;show i < s.nx+1;simp only[orefs,map_cons,map_nil,flatten_cons,List.flatten_nil,append_nil]at hi;rcases LW _ _ _ _ hi with h1 |h1
      ·have:=hrefs i h1;omega
      ·simp only[drefs,mem_singleton]at h1;omega
     ·split at ho
      ·rename_i e;injection ho with ho;subst ho;subst e;exact⟨by show s.nx < s.nx+1;omega,by simp[orefs]⟩
      ·obtain⟨h1,h2⟩:=hl.obj k o ho;exact⟨by show k < s.nx+1;omega,fun i hi=>by have:=h2 i hi;show i < s.nx+1;omega⟩
    ·left;simp only[mem_cons,List.not_mem_nil,or_false,not_or]at hnk;rw[hO,if_neg (Ne.symm hnk.1),if_neg (Ne.symm hnk.2)]
    ·obtain⟨β2,hβ2,hr2⟩:=hl.room hr;obtain⟨hS,hM⟩:=Mem.addNil (i:=s.nx) (o:=aH (.lst c []:DObj X)) hr2.mem hβ2 rfl;refine⟨ins β2 s.nx .none,hr2.defers,hr2.size,fun k=>SlotR.mono hS.ext hS.same hS.inc (hr2.env k),?_⟩;refine hM.weak fun k o' ho=>?_;simp only[DSt.st]at ho;rw[hO]at ho;by_cases e:q=k
     ·subst e;rw[if_pos rfl,Option.map_some]at ho;injection ho with ho;subst ho;refine⟨aH (.cells sz [row]),by simp only[aL];rw[if_neg (by omega)];simp[DSt.st,hq],fun B _ hB=>?_⟩;simp only[aH,map_cons,map_nil,Tq]at hB ⊢;refine OR.set1 (fun x v hx hv=>?_) hB;rw[jm,List.getElem?_map,hn]at hx;injection hx with hx;subst hx;simp only[den,VR]at hv ⊢;exact .inl ⟨by simp[ins],hv,trivial,trivial⟩
     ·rw[if_neg e]at ho;refine⟨o',?_,fun _ _ h=>h⟩;simp only[aL];by_cases e':s.nx=k
      ·subst e';rw[if_pos rfl]at ho ⊢;simpa using ho
      ·rw[if_neg e']at ho;rw[if_neg (Ne.symm e')];exact ho
   ·exact⟨hl,Ext.refl _ s,fun _ _ _ _ β _ _ _ h=>⟨β,h⟩⟩
  ·exact⟨hl,Ext.refl _ s,fun _ _ _ _ β _ _ _ h=>⟨β,h⟩⟩
 ·exact⟨hl,Ext.refl _ s,fun _ _ _ _ β _ _ _ h=>⟨β,h⟩⟩
theorem E9 {ds:List Nat}:∀ (l:List (Nat×CT X.ι)) {s:DSt X},Low s->(∀ p∈l,(bif Nat.ble 1000000 p.1 then !Nat.ble 1099511627776 p.1 || ds.contains (p.1 - 1099511627776)else ds.contains p.1)=true)->Low (GY l s)∧Ext (· ∈ds) s (GY l s)∧Says s (GY l s)
 |[],s,hl,_=>⟨hl,Ext.refl _ s,fun _ _ _ _ β _ _ _ h=>⟨β,h⟩⟩
 |(t,c)::r,s,hl,hd=>by
  generalize hs:(bif Nat.ble 1000000 t then bif Nat.ble 1099511627776 t then Tn true s (t - 1099511627776) c else YD s ((t - 1000000)/4096) ((t - 1000000)%4096) c else Tn false s t c)=s1;have h0:Low s1∧Ext (· ∈ds) s s1∧Says s s1:=by
   have hd0:=hd (t,c) (by simp);simp only at hd0;subst hs;cases hb:Nat.ble 1000000 t with
   |true=>
    rw[hb]at hd0;cases hb2:Nat.ble 1099511627776 t with
    |true=>rw[hb2]at hd0;exact LV hl (by simpa using hd0)
    |false=>exact VJ hl
   |false=>rw[hb]at hd0;exact LV hl (by simpa using hd0)
  obtain⟨h1,h2,h3⟩:=h0;simp only[GY,hs];obtain⟨g1,g2,g3⟩:=E9 r h1 (fun p hp=>hd p (by simp[hp]));refine⟨g1,h2.trans g2,fun P w0 O0 N β I a w hr=>?_⟩;obtain⟨β',hr'⟩:=h3 P w0 O0 N β I a w hr;exact g3 P w0 O0 N β' I a w hr'
theorem dU {A:Type} {sh:Sh X.ι} {ds:List Nat} {s0 s':DSt X} {k:VT (X:=X) sh.vars->Option A} {r:A} (hl0:Low s0) (hl':Low s') (hx:Ext (· ∈ds) s0 s') (h:eU sh ds s0 s' k=some r):
 ∃ v,k v=some r∧Low (encS sh s0 v)∧Ext (· ∈ds) s0 (encS sh s0 v)∧Says s' (encS sh s0 v):=by
 unfold eU at h;obtain⟨h1,h2⟩:=aT h;obtain⟨g1,g2,g3⟩:=E9 (ds:=ds) sh.nils hl' (fun p hp=>all_eq_true.1 h1 p hp);obtain⟨v,i1,i2,i3,i4⟩:=QY hl0 (hx.trans g2) h2;refine⟨v,i1,i2,i3,fun P w0 O0 N β I a w hr=>?_⟩;obtain⟨β',hr'⟩:=g3 P w0 O0 N β I a w hr;exact i4 P w0 O0 N β' I a w hr'
end
noncomputable def Cb {K O:Type} (l:List K) (f:List K->Option O):Option O:=open Classical in if h:∃ o,∀ l',l.Perm l'->f l'=some o then some h.choose else none
theorem QZ {K O:Type} {l:List K} {f:List K->Option O} {o:O} (h:Cb l f=some o):∀ l',l.Perm l'->f l'=some o:=by
 unfold Cb at h;split at h
 ·rename_i hh;injection h with h;subst h;exact hh.choose_spec
 ·cases h
theorem VK {K O:Type} {l:List K} {f:List K->Option O} {o:O} (h:∀ l',l.Perm l'->f l'=some o):Cb l f=some o:=by
 unfold Cb;have hh:∃ o,∀ l',l.Perm l'->f l'=some o:=⟨o,h⟩;rw[dif_pos hh];have h1:=hh.choose_spec l (.refl _);rw[h l (.refl _)]at h1;exact h1.symm
noncomputable def allEq {O:Type} (f:Nat->Option O):Option O:=open Classical in if ∀ r,f r=f 0 then f 0 else none
theorem VL {O:Type} {f:Nat->Option O} {o:O} (h:allEq f=some o) (r:Nat):f r=some o:=by
 unfold allEq at h;split at h
 ·rename_i hh;rw[hh r];exact h
 ·cases h
theorem Tt {O:Type} (x:Option O):allEq (fun _=>x)=x:=by simp[allEq]
def Fa {K V O:Type} (step:K->V->Option (V ⊕ O)):List K->V->Option (V ⊕ O)
 |[],v=>some (.inl v)
 |p::r,v=>(step p v).bind fun q=>match q with
  | .inl v'=>Fa step r v'
  | .inr a=>some (.inr a)
def aai {W A:Type} (o:Option (W ⊕ A)) (f:W->Option A):Option A:=o.bind fun r=>match r with
 | .inl w=>f w
 | .inr a=>some a
def aU:Code->List Nat
 | .region _ ops _=>ops.toList.filterMap (·.dst)
 | .seq a b=>aU a++aU b
 | .cond _ a b=>aU a++aU b
 | .block _ b=>aU b
 | .loop b=>aU b
 |_=>[]
section
variable {X:SX}
section
variable {P:Program} {N:Nat}
def uM {A:Type} (ds:List Nat) (s:DSt X) (k:Exit->DSt X->Option A) (r:A) (e:Exit) (σ:St):Prop:=∃ s',Low s'∧Ext (· ∈ds) s s'∧σ=s'.st∧k e s'=some r
theorem Q0 {c:Code} {Q Q':Exit->St->Prop} {σ:St} (h:Ev P N c Q σ) (ht:∀ e σ,Q e σ->∀ w0 O0 β I a w,Rel P w0 O0 N β I σ a w->∃ β' σ',Rel P w0 O0 N β' I σ' a w∧Old σ'∧Q' e σ'):Ev P N c Q' σ:=by
 intro w0 O0 β I a w hr ho;refine wp_mono (h w0 O0 β I a w hr ho) ?_;rintro e a' w' ⟨β',I',σ',h1,_,h3⟩;obtain⟨β2,σ2,g1,g2,g3⟩:=ht e σ' h3 w0 O0 β' I' a' w' h1;exact⟨β2,I',σ2,g1,g2,g3⟩
end
def aaj:(c:CT X.ι)->CT.T X.toSE c->Value
 | .int k,n=> .int k n
 | .str,s=> .string s
 | .bool,b=> .bool b
 |_,_=> .bool false
theorem XB {c:CT X.ι} {eq:CT.T X.toSE c->CT.T X.toSE c->Bool} (h:wE c=some eq) (x:CT.T X.toSE c):(CT.tv X.toSE c x).av= .t (.sc (aaj c x)):=by cases c<;>first |rfl |(simp [wE]at h)
theorem aak {c:CT X.ι} (x:CT.T X.toSE c):oneCell (aaj c x):=by cases c<;>exact trivial
def forget (kk:Nat) (s:DSt X):DSt X:=⟨s.env.map (fun p=>(p.1,bif (drefs p.2).contains kk then .undef else p.2)),(kk,none)::s.obj,s.nx,s.log⟩
def Fb (s:DSt X) (i:RgI) (d:DV X):DSt X:=⟨(i.kv,d)::(i.xx,.undef)::(i.e,.undef)::(i.b,.undef)::(i.nn,.undef)::s.env,s.obj,s.nx,s.log⟩
def LX (s:DSt X) (i:RgI):DSt X:=⟨(i.b,.undef)::(i.nn,.undef)::s.env,s.obj,s.nx,s.log⟩
def rgS (s:DSt X) (i:RgI) (kk r:Nat):DSt X:=⟨(i.it,.raw (NR r))::(i.a0,.undef)::(forget kk s).env,(forget kk s).obj,s.nx,s.log⟩
def ab8 (N:Nat) (i:RgI) (s:DSt X) (hd:Sh X.ι) (kk:Nat):Bool:=
 decide (i.a0 < N)&&decide (i.it < N)&&decide (i.nn < N)&&decide (i.b < N)&&decide (i.e < N)&&decide (i.xx < N)&&decide (i.kv < N)&&hd.keep.contains i.it&&!(hd.slots.map (·.1)).contains i.it
def Au (dsb:List Nat) (i:RgI):List Nat:=i.nn::i.b::i.e::i.xx::i.kv::dsb
noncomputable def Tv (T:Tab) (N:Nat) (c:Code) (dsb:List Nat) (hd:Sh X.ι) (s:DSt X) {A:Type} (k:Exit->DSt X->Option A) (rb:(B:Type)->DSt X->(Exit->DSt X->Option B)->Option B):Option A:=
 (Vf c).bind fun i=>(T i.t).bind fun ti=>match ti.k,KZ (lke s.env) i.x with
  | .map _ _,.mp kk=>match lko s.obj kk with
   |some (.map kc _ l)=>(wE kc).bind fun _=>bif ab8 N i s hd kk then
    allEq fun r=>eU hd (Au dsb i) (rgS s i kk r) (rgS s i kk r) fun v0=>
     aai (Cb (l.map (·.1)) fun ks=>Fa (fun kx v=>rb (VT (X:=X) hd.vars ⊕ A) (Fb (encS hd (rgS s i kk r) v) i (.c kc kx)) fun e s'=>match e with
      | .normal=>eU hd (Au dsb i) (rgS s i kk r) s' fun v=>some (.inl v)
      | .exit q=>if q=i.j2 then eU hd (Au dsb i) (rgS s i kk r) s' fun v=>some (.inl v)else if q=i.j then none else (k (.exit q) s').map .inr
      |e=>(k e s').map .inr) ks v0) fun v=>k .normal (LX (encS hd (rgS s i kk r) v) i)
    else none
   |_=>none
  |_,_=>none
theorem Fe (d:Nat) (x:DV X) (e:List (Nat×DV X)) (t:Nat):lke ((d,x)::e) t=if d=t then x else lke e t:=by
 simp only[lke,lk];split<;>rfl
theorem yu (s:DSt X) (d:Nat) (x:DV X):(⟨(d,x)::s.env,s.obj,s.nx,s.log⟩:DSt X).st=s.st.put d (den x):=by
 simp only[DSt.st,St.put];congr 1
 ·funext t;simp only[Fe,rU,Option.some.injEq];split<;>rfl
 ·funext t;simp only[rU];split<;>rfl
theorem iD {s:DSt X} (h:Low s) {d:Nat} {x:DV X} (hx:drefs x=[]):Low (⟨(d,x)::s.env,s.obj,s.nx,s.log⟩:DSt X):=by
 refine⟨h.le,h.ge,fun t k hk=>?_,h.obj⟩;simp only[Fe]at hk;split at hk
 ·rw[hx]at hk;simp at hk
 ·exact h.env t k hk
theorem qV {ds:Nat->Prop} {s0 s:DSt X} (h:Ext ds s0 s) {d:Nat} {x:DV X} (hd:ds d∨x= .undef):Ext ds s0 (⟨(d,x)::s.env,s.obj,s.nx,s.log⟩:DSt X):=by
 refine⟨fun t ht=>?_,h.obj,h.nx⟩;simp only[Fe];split
 ·rename_i e;subst e;rcases hd with hd |hd
  ·exact (ht hd).elim
  ·exact .inr hd
 ·exact h.env t ht
theorem Tw (s:DSt X) (i:RgI) (d:DV X):(Fb s i d).st=((((s.st.put i.nn .undef).put i.b .undef).put i.e .undef).put i.xx .undef).put i.kv (den d):=by
 have e1:=yu s i.nn .undef;have e2:=yu ⟨(i.nn,.undef)::s.env,s.obj,s.nx,s.log⟩ i.b (.undef:DV X);have e3:=yu ⟨(i.b,.undef)::(i.nn,.undef)::s.env,s.obj,s.nx,s.log⟩ i.e (.undef:DV X);have e4:=yu ⟨(i.e,.undef)::(i.b,.undef)::(i.nn,.undef)::s.env,s.obj,s.nx,s.log⟩ i.xx (.undef:DV X);have e5:=yu ⟨(i.xx,.undef)::(i.e,.undef)::(i.b,.undef)::(i.nn,.undef)::s.env,s.obj,s.nx,s.log⟩ i.kv d;simp only[e1,e2,e3,e4]at e5;exact e5
theorem Pp (s:DSt X) (i:RgI):(LX s i).st=(s.st.put i.nn .undef).put i.b .undef:=by
 have e1:=yu s i.nn .undef;have e2:=yu ⟨(i.nn,.undef)::s.env,s.obj,s.nx,s.log⟩ i.b (.undef:DV X);rw[e1]at e2;exact e2
theorem XC {α β:Type} (f:α->β):∀ (l:List (Nat×α)) (k:Nat),lk (l.map fun p:Nat×α=>(p.1,f p.2)) k=(lk l k).map f
 |[],_=>rfl
 |(j,x)::r,k=>by
  simp only[map_cons,lk];by_cases h:j=k
  ·simp[h]
  ·simp only[if_neg h,XC f r k]
theorem Dw (kk:Nat) (s:DSt X) (t:Nat):lke (forget kk s).env t=(bif (drefs (lke s.env t)).contains kk then .undef else lke s.env t):=by
 simp only[forget,lke,XC (fun d:DV X=>bif (drefs d).contains kk then .undef else d)];cases lk s.env t<;>simp[drefs]
theorem LY {s:DSt X} (h:Low s) (kk:Nat):Low (forget kk s):=by
 refine⟨h.le,h.ge,fun t k hk=>?_,fun k o hk=>?_⟩
 ·rw[Dw]at hk;cases hc:(drefs (lke s.env t)).contains kk<;>rw[hc]at hk
  ·exact h.env t k hk
  ·simp[drefs]at hk
 ·simp only[forget,lko,lk]at hk;split at hk
  ·cases hk
  ·exact h.obj k o hk
theorem Dx (kk:Nat) (s:DSt X) (k:Nat):lko (forget kk s).obj k=if kk=k then none else lko s.obj k:=by
 simp only[forget,lko,lk];split<;>rfl
theorem aal {c:CT X.ι} {eq:CT.T X.toSE c->CT.T X.toSE c->Bool} (h:wE c=some eq) (x:CT.T X.toSE c):den (.c c x:DV X)= .t (.sc (aaj c x)):=XB h x
theorem Pq {K:Type} {f:K->Value} {k:Value} {rem:List Value} {ks:List K} (h:(k::rem).Perm (ks.map f)):∃ kx ks',ks.Perm (kx::ks')∧f kx=k∧rem.Perm (ks'.map f):=by
 have hm:k∈ks.map f:=h.mem_iff.1 (List.mem_cons_self);obtain⟨kx,hx,rfl⟩:=mem_map.1 hm;obtain⟨a,b,rfl⟩:=List.append_of_mem hx;refine⟨kx,a++b,List.perm_middle,rfl,?_⟩;rw[map_append,map_cons]at h;have:=List.Perm.cons_inv (h.trans List.perm_middle);rw[map_append];exact this
def JR (hd:Sh X.ι) (ds:List Nat) (s:DSt X) (i:RgI) (kk:Nat) (kc:CT X.ι) {O:Type} (step:Nat->CT.T X.toSE kc->VT (X:=X) hd.vars->Option (VT (X:=X) hd.vars ⊕ O)) (K:Nat->VT (X:=X) hd.vars ⊕ O->Prop) (r:Nat) (rem:List Value) (σ:St):Prop:=
 ∃ (o:VT (X:=X) hd.vars ⊕ O) (v:VT (X:=X) hd.vars) (ks:List (CT.T X.toSE kc)),K r o∧σ=(encS hd (rgS s i kk r) v).st∧Low (encS hd (rgS s i kk r) v)∧Ext (· ∈ds) (rgS s i kk r) (encS hd (rgS s i kk r) v)∧rem.Perm (ks.map (aaj kc))∧∀ ks',ks.Perm ks'->Fa (step r) ks' v=some o
theorem aam {hd:Sh X.ι} {s1:DSt X} {v:VT (X:=X) hd.vars} {t:Nat} (h1:hd.keep.contains t=true) (h2:(hd.slots.map (·.1)).contains t=false):lke (encS hd s1 v).env t=lke s1.env t:=by
 have hk:∀ (ks:List Nat),t∈ks->lk (ks.map fun t=>(t,lke s1.env t)) t=some (lke s1.env t):=by
  intro ks
  induction ks with
  |nil=>intro h;simp at h
  |cons y ys ih=>
   intro h;simp only[map_cons,lk];by_cases hy:y=t
   ·subst hy;simp
   ·rw[if_neg hy];rcases mem_cons.1 h with h |h
    ·exact absurd h.symm hy
    ·exact ih h
 have hs:∀ (ol:Nat->Nat) (sl:List (Nat×Pt X.ι)) (L:List (DC X)),t∉sl.map (·.1)->lk (vo ol sl L) t=none:=by
  intro ol sl
  induction sl with
  |nil=>intro L _;rfl
  |cons p ps ih=>
   intro L h;simp only[map_cons,mem_cons,not_or]at h;obtain⟨a,b⟩:=p;simp only[vo,lk];rw[if_neg (fun e=>h.1 e.symm)];exact ih _ h.2
 have ha:∀ (a b:List (Nat×DV X)),lk a t=none->lk (a++b) t=lk b t:=by
  intro a
  induction a with
  |nil=>intro b _;rfl
  |cons p a ih=>
   intro b h;obtain⟨j,x⟩:=p;simp only[lk]at h;split at h
   ·cases h
   ·rename_i hj;simp only[cons_append,lk,if_neg hj];exact ih b h
 show (lk (vo _ hd.slots _++hd.keep.map (fun t=>(t,lke s1.env t))) t).getD .undef=lke s1.env t;rw[ha _ _ (hs _ _ _ (by simpa using h2)),hk _ (by simpa using h1)];rfl
theorem Tx {T:Tab} {P:Program} {N:Nat} (hT:bI P T) {c:Code} {i:RgI} (hc:Vf c=some i) {hd:Sh X.ι} {s:DSt X} {A:Type} {k:Exit->DSt X->Option A} {rb:(B:Type)->DSt X->(Exit->DSt X->Option B)->Option B} {res:A} (hl:Low s)
 (hb:∀ (B:Type) (s1:DSt X) (k1:Exit->DSt X->Option B) (r:B),Low s1->rb B s1 k1=some r->Ev P N i.body (uM (aU i.body) s1 k1 r) s1.st)
 (h:Tv T N c (aU i.body) hd s k rb=some res):Ev P N c (uM (aU c) s k res) s.st:=by
 unfold Tv at h;rw[hc,bind_some]at h;rw[ai]at h;obtain⟨ti,h1,h⟩:=h;split at h
 ·rename_i kt et kk hk hx;split at h
  ·rename_i kc vc l hobj;rw[ai]at h;obtain⟨eq,h2,h⟩:=h;obtain⟨h3,h⟩:=aT h;simp only[ab8,and_eq_true,decide_eq_true_eq,Bool.not_eq_true']at h3;obtain⟨⟨⟨⟨⟨⟨⟨⟨N1,N2⟩,N3⟩,N4⟩,N5⟩,N6⟩,N7⟩,hkeep⟩,hnsl⟩:=h3;have hr:=fun r=>VL h r;clear h;have hds:∀ t,t∈Au (aU i.body) i->t∈aU c:=by
    obtain⟨i1,i2,i3,ops1,ops2,ops3,o1,o2,o3,o4,o5,o6,o7,rfl,l1,l2,l3,⟨_,q1,_⟩,⟨_,q2,_⟩,⟨_,q3,_⟩,⟨_,q4,_⟩,⟨_,q5,_⟩,⟨_,q6,_⟩,⟨_,q7,_⟩,_⟩:=BN hc;intro t ht;simp only[Au,mem_cons]at ht;simp only[aU,l1,l2,l3,mem_append,List.mem_filterMap,mem_cons,List.not_mem_nil,or_false];rcases ht with rfl |rfl |rfl |rfl |rfl |ht
    ·exact .inr (.inl ⟨o3,by simp,q3⟩)
    ·exact .inr (.inl ⟨o4,by simp,q4⟩)
    ·exact .inr (.inr (.inr (.inl ⟨o5,by simp,q5⟩)))
    ·exact .inr (.inr (.inr (.inl ⟨o6,by simp,q6⟩)))
    ·exact .inr (.inr (.inr (.inl ⟨o7,by simp,q7⟩)))
    ·exact .inr (.inr (.inr (.inr ht)))
   have hds2:i.it∈aU c∧i.a0∈aU c:=by
    obtain⟨i1,i2,i3,ops1,ops2,ops3,o1,o2,o3,o4,o5,o6,o7,rfl,l1,l2,l3,⟨_,q1,_⟩,⟨_,q2,_⟩,_⟩:=BN hc;simp only[aU,l1,mem_append,List.mem_filterMap,mem_cons,List.not_mem_nil,or_false];exact⟨.inl ⟨o2,by simp,q2⟩,.inl ⟨o1,by simp,q1⟩⟩
   have lowS:∀ r,Low (rgS s i kk r):=fun r=>iD (iD (LY hl kk) rfl) rfl;have extS:∀ r,Ext (· ∈aU c) s (rgS s i kk r):=by
    intro r;have e0:Ext (· ∈aU c) s (forget kk s):=by
     refine⟨fun t _=>?_,⟨[],rfl,fun q _ _=>?_⟩,Nat.le_refl _⟩
     ·rw[Dw];cases (drefs (lke s.env t)).contains kk
      ·exact .inl rfl
      ·exact .inr rfl
     ·rw[Dx];split
      ·exact .inr rfl
      ·exact .inl rfl
    exact qV (qV e0 (.inl hds2.2)) (.inl hds2.1)
   have wide:∀ {a b:DSt X},Ext (· ∈Au (aU i.body) i) a b->Ext (· ∈aU c) a b:=fun h=>⟨fun t ht=>h.env t (fun hh=>ht (hds t hh)),h.obj,h.nx⟩;have henv:∀ t,s.st.env t=den (lke s.env t):=fun t=>rfl;have hf:∀ t,(forget kk s).st.env t= .undef∨(forget kk s).st.env t=s.st.env t:=fun t=>by
    show den (lke (forget kk s).env t)= .undef∨den (lke (forget kk s).env t)=den (lke s.env t);rw[Dw];cases (drefs (lke s.env t)).contains kk
    ·exact .inr rfl
    ·exact .inl rfl
   intro w0 O0 β I a w hrel _
   refine ZL (kk:=kk) (o:=aH (.map kc vc l)) (keys:=l.map fun p=>aaj kc p.1) hT hc h1 hk ⟨N1,N2,N3,N4,N5,N6,N7⟩ (fun _=>rfl) ?_ ?_ ?_ ?_ ?_ (forget kk s).st ?_ ?_ hf (fun _=>rfl) (uM (aU c) s k res)
    (JR hd (Au (aU i.body) i) s i kk kc (fun r kx v=>rb (VT (X:=X) hd.vars ⊕ A) (Fb (encS hd (rgS s i kk r) v) i (.c kc kx)) fun e s'=>match e with
     | .normal=>eU hd (Au (aU i.body) i) (rgS s i kk r) s' fun v=>some (.inl v)
     | .exit q=>if q=i.j2 then eU hd (Au (aU i.body) i) (rgS s i kk r) s' fun v=>some (.inl v)else if q=i.j then none else (k (.exit q) s').map .inr
     |e=>(k e s').map .inr) (fun r q=>match q with | .inl w=>k .normal (LX (encS hd (rgS s i kk r) w) i)=some res | .inr a=>a=res)) ?_ ?_ ?_ ?_ ?_ ?_ ?_ (LY hl kk).old β I a w hrel
   ·have:=EL (lke s.env) i.x;rw[hx]at this;exact this.symm
   ·show (lko s.obj kk).map aH=_;rw[hobj];rfl
   ·simp[aH]
   ·simp only[aH,map_map];refine map_congr_left fun p _=>?_;simp only[Function.comp_apply,List.head?_cons,XB h2]
   ·intro q hq;obtain⟨p,_,rfl⟩:=mem_map.1 hq;exact aak _
   ·show (lko (forget kk s).obj kk).map aH=none;rw[Dx,if_pos rfl];rfl
   ·intro q o ho;have ho:(lko (forget kk s).obj q).map aH=some o:=ho;rw[Dx]at ho;split at ho
    ·cases ho
    ·exact ho
   ·rintro r rem σ ⟨o,v,ks,_,rfl,g2,g3,_⟩;refine⟨g2.old,?_,rfl⟩;show den (lke (encS hd (rgS s i kk r) v).env i.it)=_;rw[aam hkeep hnsl];simp only[rgS,Fe,if_true];rfl
   ·rintro r rem rem' σ ⟨o,v,ks,g0,g1,g2,g3,g4,g5⟩ hp;exact⟨o,v,ks,g0,g1,g2,g3,hp.symm.trans g4,g5⟩
   ·intro r w0 O0 β I a w hrel;obtain⟨v0,f1,f2,f3,f4⟩:=dU (lowS r) (lowS r) (Ext.refl _ _) (hr r);unfold aai at f1;rw[ai]at f1;obtain⟨q,f5,f6⟩:=f1;have e1:Qy (forget kk s).st i r=(rgS s i kk r).st:=by
     have e1:=yu (forget kk s) i.a0 (.undef:DV X);have e2:=yu ⟨(i.a0,.undef)::(forget kk s).env,(forget kk s).obj,(forget kk s).nx,(forget kk s).log⟩ i.it (.raw (NR r):DV X);rw[e1]at e2;exact e2.symm
    rw[e1]at hrel;obtain⟨β',hrel'⟩:=f4 P w0 O0 N β I a w hrel;refine⟨β',_,hrel',q,v0,l.map (·.1),?_,rfl,f2,f3,?_,QZ f5⟩
    ·cases q with
     |inl w=>exact f6
     |inr a=>injection f6
    ·rw[map_map];exact .refl _
   ·rintro r key rem σ ⟨o,v,ks,g0,rfl,g2,g3,g4,g5⟩;obtain⟨kx,ks',p1,p2,p3⟩:=Pq g4;have hfold:=g5 _ p1;simp only[Fa]at hfold;rw[ai]at hfold;obtain⟨z,z1,z2⟩:=hfold;have e1:ZK (encS hd (rgS s i kk r) v).st i key=(Fb (encS hd (rgS s i kk r) v) i (.c kc kx)).st:=(by rw[Tw,aal h2,p2];rfl);rw[e1];have lowI:Low (Fb (encS hd (rgS s i kk r) v) i (.c kc kx)):=iD (iD (iD (iD (iD g2 rfl) rfl) rfl) rfl) rfl;have extI:Ext (· ∈Au (aU i.body) i) (rgS s i kk r) (Fb (encS hd (rgS s i kk r) v) i (.c kc kx)):=
     qV (qV (qV (qV (qV g3 (.inr rfl)) (.inr rfl)) (.inr rfl)) (.inr rfl)) (.inl (by simp[Au]))
    refine Q0 (hb _ _ _ _ lowI z1) ?_;rintro e σ ⟨s',a1,a2,rfl,a4⟩ w0 O0 β I a w hrel;have a2':Ext (· ∈Au (aU i.body) i) (rgS s i kk r) s':=extI.trans ⟨fun t ht=>a2.env t (fun hh=>ht (by simp[Au,hh])),a2.obj,a2.nx⟩
    have again:eU hd (Au (aU i.body) i) (rgS s i kk r) s' (fun v=>some (.inl v))=some z->∃ β' σ',Rel P w0 O0 N β' I σ' a w∧Old σ'∧
     JR hd (Au (aU i.body) i) s i kk kc (fun r kx v=>rb (VT (X:=X) hd.vars ⊕ A) (Fb (encS hd (rgS s i kk r) v) i (.c kc kx)) fun e s'=>match e with
      | .normal=>eU hd (Au (aU i.body) i) (rgS s i kk r) s' fun v=>some (.inl v)
      | .exit q=>if q=i.j2 then eU hd (Au (aU i.body) i) (rgS s i kk r) s' fun v=>some (.inl v)else if q=i.j then none else (k (.exit q) s').map .inr
      |e=>(k e s').map .inr) (fun r q=>match q with | .inl w=>k .normal (LX (encS hd (rgS s i kk r) w) i)=some res | .inr a=>a=res) r rem σ':=by
     intro hm;obtain⟨v',i1,i2,i3,i4⟩:=dU (lowS r) a1 a2' hm;injection i1 with i1;subst i1;obtain⟨β',i5⟩:=i4 P w0 O0 N β I a w hrel;refine⟨β',_,i5,i2.old,o,v',ks',g0,rfl,i2,i3,p3,fun ks'' hp=>?_⟩;have:=g5 (kx::ks'') (p1.trans (hp.cons kx));simp only[Fa]at this;rw[z1,bind_some]at this;exact this
    have other:∀ e',(k e' s').map Sum.inr=some z->∃ β' σ',Rel P w0 O0 N β' I σ' a w∧Old σ'∧uM (aU c) s k res e' σ':=by
     intro e' hm;rw[Option.map_eq_some_iff]at hm;obtain⟨b,hb1,rfl⟩:=hm;injection z2 with z2;subst z2;have g0:b=res:=g0;subst g0;exact⟨β,_,hrel,a1.old,s',a1,(extS r).trans (wide a2'),rfl,hb1⟩
    cases e with
    |normal=>exact again a4
    |exit q=>
     simp only at a4 ⊢;split at a4
     ·rename_i hq;simp only[if_pos hq];exact again a4
     ·rename_i hq;simp only[if_neg hq];split at a4
      ·cases a4
      ·rename_i hq';simp only[if_neg hq'];exact other _ a4
    |_=>exact other _ a4
   ·rintro r σ ⟨o,v,ks,g0,rfl,g2,g3,g4,g5⟩;have hks:ks=[]:=by
     have:=List.nil_perm.1 g4;simpa using this
    subst hks;have:=g5 [] (.refl _);simp only[Fa,Option.some.injEq]at this;subst this;refine⟨_,iD (iD g2 rfl) rfl,(extS r).trans (wide (qV (qV g3 (.inr rfl)) (.inr rfl))),(Pp _ i).symm,g0⟩
   ·rintro r σ ⟨o,v,ks,g0,rfl,g2,_⟩;show Old (((encS hd (rgS s i kk r) v).st.put i.nn .undef).put i.b .undef);rw[<- Pp];exact (iD (iD g2 rfl) rfl:Low (LX (encS hd (rgS s i kk r) v) i)).old
   ·rintro r key rem σ ⟨o,v,ks,g0,rfl,g2,g3,g4,g5⟩;obtain⟨kx,ks',p1,p2,p3⟩:=Pq g4;have e1:ZK (encS hd (rgS s i kk r) v).st i key=(Fb (encS hd (rgS s i kk r) v) i (.c kc kx)).st:=(by rw[Tw,aal h2,p2];rfl);rw[e1];exact (iD (iD (iD (iD (iD g2 rfl) rfl) rfl) rfl) rfl:Low (Fb (encS hd (rgS s i kk r) v) i (.c kc kx))).old
  ·cases h
 ·cases h
end
inductive Hn (ι:Type) where
 |z
 |f (l:List Nat)
 |s (a b:Hn ι)
 |b (a:Hn ι)
 |j (sh:Sh ι) (a:Hn ι)
 |jx (sh:Sh ι) (a:Hn ι)
 |l (head:Sh ι) (id:Nat) (out:Sh ι) (a:Hn ι)
 |lx (head:Sh ι) (id:Nat) (out:Sh ι) (a:Hn ι)
 |rg (head:Sh ι) (a:Hn ι)
 |un (a r:Hn ι)
def Hn.fz {ι:Type}:Hn ι->List Nat
 | .f is=>is
 |_=>[]
def Hn.fst {ι:Type}:Hn ι->Hn ι
 | .s a _=>a
 |_=> .z
def Hn.snd {ι:Type}:Hn ι->Hn ι
 | .s _ y=>y
 |_=> .z
def Hn.sub {ι:Type}:Hn ι->Hn ι
 | .b a=>a
 |_=> .z
def iter {V O:Type} (step:V->Option (V ⊕ O)):Nat->V->Option O
 | 0,_=>none
 |n+1,v=>(step v).bind fun r=>match r with
  | .inl v=>iter step n v
  | .inr o=>some o
def unr {X:SX} {A:Type} (body:Hn X.ι->DSt X->(Exit->DSt X->Option A)->Option A):Hn X.ι->DSt X->(Exit->DSt X->Option A)->Option A
 | .un a r,s,k=>body a s fun e s'=>match e with
  | .normal=>unr body r s' k
  |e=>k e s'
 |_,_,_=>none
def dm {W A:Type} (o:Option (W ⊕ A)) (f:W->Option A):Option A:=o.bind fun r=>match r with
 | .inl w=>f w
 | .inr a=>some a
noncomputable def both {A:Type} (x y:Option A):Option A:=open Classical in if x=y then x else none
theorem YF {A:Type} {x y:Option A} {r:A} (h:both x y=some r):x=some r∧y=some r:=by
 unfold both at h;split at h
 ·rename_i e;exact⟨h,e ▸ h⟩
 ·cases h
theorem YG {A:Type} (x:Option A):both x x=x:=by simp[both]
section
variable {X:SX}
def LZ (ds:List Nat) (s:DSt X) (h:Hn X.ι) {A:Type} (k:Exit->DSt X->Option A) (body:(B:Type)->Hn X.ι->(Exit->DSt X->Option B)->Option B):Option A:=
 match h with
 | .j sh h'=>(body (VT (X:=X) sh.vars) h' fun e s'=>match e with
  | .normal=>eU sh ds s s' some
  |_=>none).bind fun v=>k .normal (encS sh s v)
 | .jx sh h'=>dm (body (VT (X:=X) sh.vars ⊕ A) h' fun e s'=>match e with
  | .normal=>eU sh ds s s' fun v=>some (.inl v)
  |e=>(k e s').map .inr) fun v=>k .normal (encS sh s v)
 |h=>body A h k
variable (Γ:FuncId->Option (Sig X)) (T:Tab) (code:TypeId->Option (CT X.ι)) (N n:Nat)
noncomputable def run:Code->(A:Type)->Hn X.ι->DSt X->(Exit->DSt X->Option A)->Option A
 | .skip,_,_,s,k=>k .normal s
 | .region id ops d,A,h,s,k=>LZ (aU (.region id ops d)) s h k fun _ h k=>VI Γ h.fz T code N ops d s (k .normal)
 | .seq x y,A,h,s,k=>match h with
  | .rg hd h'=>match y with
   | .block j (.loop (.seq r2 (.seq cc (.block j2 (.seq r3 body)))))=>Tv T N (.seq x (.block j (.loop (.seq r2 (.seq cc (.block j2 (.seq r3 body))))))) (aU body) hd s k fun B s1 k1=>run body B h' s1 k1
   |_=>none
  |h=>LZ (aU (.seq x y)) s h k fun B h k=>run x B h.fst s fun e s'=>match e with
   | .normal=>run y B h.snd s' k
   |e=>k e s'
 | .cond c x y,A,h,s,k=>LZ (aU (.cond c x y)) s h k fun B h k=>match KZ (lke s.env) c with
  | .c .bool v=>bif v then run x B h.fst s k else run y B h.snd s k
  | .ub=>both (run x B h.fst s k) (run y B h.snd s k)
  |_=>none
 | .block id b,A,h,s,k=>LZ (aU (.block id b)) s h k fun B h k=>run b B h.sub s fun e s'=>match e with
  | .exit j=>if j=id then k .normal s' else k (.exit j) s'
  |e=>k e s'
 | .loop b,A,h,s,k=>match h with
  | .l hd id out h'=>eU hd (aU b) s s fun v0=>(iter (fun v=>run b (VT (X:=X) hd.vars ⊕ VT (X:=X) out.vars) h' (encS hd s v) fun e s'=>match e with
   | .normal=>eU hd (aU b) s s' fun v=>some (.inl v)
   | .exit j=>if j=id then eU out (aU b) s s' fun w=>some (.inr w)else none
   |_=>none) n v0).bind fun w=>k (.exit id) (encS out s w)
  | .lx hd id out h'=>eU hd (aU b) s s fun v0=>dm (iter (fun v=>run b (VT (X:=X) hd.vars ⊕ (VT (X:=X) out.vars ⊕ A)) h' (encS hd s v) fun e s'=>match e with
   | .normal=>eU hd (aU b) s s' fun v=>some (.inl v)
   | .exit j=>if j=id then eU out (aU b) s s' fun w=>some (.inr (.inl w))else (k (.exit j) s').map fun a=> .inr (.inr a)
   |e=>(k e s').map fun a=> .inr (.inr a)) n v0) fun w=>k (.exit id) (encS out s w)
  | .un a r=>unr (fun h s k=>run b A h s k) (.un a r) s k
  |_=>none
 | .exit id,_,_,s,k=>k (.exit id) s
 | .ret,_,_,s,k=>k .ret s
 | .label _,_,_,s,k=>k .normal s
 |_,_,_,_,_=>none
section
variable {Γ:FuncId->Option (Sig X)} {T:Tab} {code:TypeId->Option (CT X.ι)} {N n:Nat} {P:Program}
theorem Ext.wide {ds ds':Nat->Prop} {a b:DSt X} (h:Ext ds a b) (hd:∀ t,ds t->ds' t):Ext ds' a b:=⟨fun t ht=>h.env t fun hh=>ht (hd t hh),h.obj,h.nx⟩
theorem map_inr {α β:Type} {o:Option β} {r:α ⊕ β} (h:o.map Sum.inr=some r):∃ b,o=some b∧r= .inr b:=by
 cases o with
 |none=>cases h
 |some b=>injection h with h;exact⟨b,rfl,h.symm⟩
theorem yw {c:Code} {s:DSt X} {h:Hn X.ι} {A:Type} {k:Exit->DSt X->Option A} {r:A} {body:(B:Type)->Hn X.ι->(Exit->DSt X->Option B)->Option B} (hl:Low s)
 (hb:∀ (B:Type) (h:Hn X.ι) (k:Exit->DSt X->Option B) (r:B),body B h k=some r->Ev P N c (uM (aU c) s k r) s.st) (hr:LZ (aU c) s h k body=some r):Ev P N c (uM (aU c) s k r) s.st:=by
 unfold LZ at hr;split at hr
 ·rename_i sh h';rw[ai]at hr;obtain⟨v,h1,hr⟩:=hr;refine Q0 (hb _ _ _ _ h1) ?_;rintro e σ ⟨s',g1,g2,rfl,g4⟩ w0 O0 β I a w hrel;cases e<;>simp only[reduceCtorEq]at g4;obtain⟨v',i1,i2,i3,i4⟩:=dU hl g1 g2 g4;injection i1 with i1;subst i1;obtain⟨β',i5⟩:=i4 P w0 O0 N β I a w hrel;exact⟨β',_,i5,i2.old,_,i2,i3,rfl,hr⟩
 ·rename_i sh h';unfold dm at hr;rw[ai]at hr;obtain⟨v,h1,hr⟩:=hr;refine Q0 (hb _ _ _ _ h1) ?_;rintro e σ ⟨s',g1,g2,rfl,g4⟩ w0 O0 β I a w hrel;have other:(k e s').map Sum.inr=some v->∃ β' σ',Rel P w0 O0 N β' I σ' a w∧Old σ'∧uM (aU c) s k r e σ':=by
   intro hm;obtain⟨b,hk,rfl⟩:=map_inr hm;injection hr with hr;subst hr;exact⟨β,_,hrel,g1.old,s',g1,g2,rfl,hk⟩
  cases e with
  |normal=>
   simp only at g4;obtain⟨v',i1,i2,i3,i4⟩:=dU hl g1 g2 g4;injection i1 with i1;subst i1;obtain⟨β',i5⟩:=i4 P w0 O0 N β I a w hrel;exact⟨β',_,i5,i2.old,_,i2,i3,rfl,hr⟩
  |_=>exact other g4
 ·exact hb _ _ _ _ hr
theorem YH {id:Nat} {ops:Array Oper} {d:Bool} {t:Nat} (h:IU ops t):t∈aU (.region id ops d):=by
 obtain⟨j,op,h1,h2⟩:=h;simp only[aU,List.mem_filterMap];exact⟨op,by rw[<- Array.getElem?_toList]at h1;exact List.mem_of_getElem? h1,h2⟩
theorem L6 {b:Code} {s:DSt X} {hd:Sh X.ι} {O:Type} {step:VT (X:=X) hd.vars->Option (VT (X:=X) hd.vars ⊕ O)} {kb:Exit->DSt X->Option (VT (X:=X) hd.vars ⊕ O)} {Q:Exit->St->Prop} (hl:Low s)
 (hkn:∀ s',kb .normal s'=eU hd (aU b) s s' fun v=>some (.inl v))
 (hstep:∀ v r,Low (encS hd s v)->step v=some r->Ev P N b (uM (aU b) (encS hd s v) kb r) (encS hd s v).st)
 {o:O} (hQ:∀ e s',e≠ .normal->Low s'->Ext (· ∈aU b) s s'->kb e s'=some (.inr o)->∀ w0 O0 β I a w,Rel P w0 O0 N β I s'.st a w->∃ β' σ',Rel P w0 O0 N β' I σ' a w∧Old σ'∧Q e σ')
 (hno:∀ e s' v,e≠ .normal->kb e s'=some (.inl v)->False) (n:Nat) (v0:VT (X:=X) hd.vars) (h:iter step n v0=some o) (hl0:Low (encS hd s v0)) (hx0:Ext (· ∈aU b) s (encS hd s v0)):Ev P N (.loop b) Q (encS hd s v0).st:=by
 intro w0 O0 β I a w hr ho;refine Gw (fun n a w=>∃ β I v,Rel P w0 O0 N β I (encS hd s v).st a w∧iter step n v=some o∧Low (encS hd s v)∧Ext (· ∈aU b) s (encS hd s v)) (fun a w ⟨_,_,v,_,h,_⟩=>by cases h) ?_ n a w ⟨β,I,v0,hr,h,hl0,hx0⟩;rintro n a w ⟨β,I,v,hr,hi,hlv,hxv⟩;simp only[iter]at hi;rw[ai]at hi;obtain⟨r,h1,hi⟩:=hi;refine wp_mono (hstep v r hlv h1 w0 O0 β I a w hr hlv.old) ?_;rintro e a' w' ⟨β',I',σ',g1,_,s',g2,g3,rfl,g4⟩;have hxs:=hxv.trans g3;by_cases he:e= .normal
 ·subst he;rw[hkn]at g4;obtain⟨v',i1,i2,i3,i4⟩:=dU hl g2 hxs g4;injection i1 with i1;subst i1;obtain⟨β2,i5⟩:=i4 P w0 O0 N β' I' a' w' g1;exact⟨β2,I',v',i5,hi,i2,i3⟩
 ·cases r with
  |inl v'=>exact (hno e s' v' he g4).elim
  |inr o'=>
   injection hi with hi;subst hi;obtain⟨β2,σ2,i1,i2,i3⟩:=hQ e s' he g2 hxs g4 w0 O0 β' I' a' w' g1;cases e with
   |normal=>exact (he rfl).elim
   |_=>exact⟨β2,I',σ2,i1,i2,i3⟩
theorem L8 {A:Type} {sh:Sh X.ι} {ds:List Nat} {s0 s':DSt X} {k:VT (X:=X) sh.vars->Option A} {r:A} (h:eU sh ds s0 s' k=some r):∃ v,k v=some r:=by
 unfold eU at h;obtain⟨_,h⟩:=aT h;unfold QX at h;rw[ai]at h;obtain⟨m1,h1,h⟩:=h;rw[ai]at h;obtain⟨m,h2,h⟩:=h;obtain⟨h3,h⟩:=aT h;rw[ai]at h;obtain⟨v,h4,h⟩:=h;exact⟨v,(j5 h).2⟩
theorem Ty {α β γ:Type} {o:Option γ} {r:α ⊕ (β ⊕ γ)} (h:o.map (fun a=>Sum.inr (Sum.inr a))=some r):∃ b,o=some b∧r= .inr (.inr b):=by
 cases o with
 |none=>cases h
 |some b=>injection h with h;exact⟨b,rfl,h.symm⟩
def Hn.len {ι:Type}:Hn ι->Nat
 | .un _ r=>r.len+1
 |_=>0
theorem YI {b:Code} {A:Type} {body:Hn X.ι->DSt X->(Exit->DSt X->Option A)->Option A} {s0:DSt X} {k:Exit->DSt X->Option A} {r:A}
 (hb:∀ (h:Hn X.ι) (s:DSt X) (k:Exit->DSt X->Option A) (r:A),Low s->body h s k=some r->Ev P N b (uM (aU b) s k r) s.st)
 {h:Hn X.ι} (hl:Low s0) (hr:unr body h s0 k=some r):Ev P N (.loop b) (uM (aU (.loop b)) s0 k r) s0.st:=by
 refine abl (fun n σ=>∃ (h:Hn X.ι) (s:DSt X),σ=s.st∧h.len=n∧Low s∧Ext (· ∈aU b) s0 s∧unr body h s k=some r) ?_ ?_ h.len ⟨h,s0,rfl,rfl,hl,Ext.refl _ s0,hr⟩
 ·rintro σ ⟨h,s,_,h1,_,_,h2⟩;cases h<;>first |cases h2 |cases h1
 ·rintro n σ ⟨h,s,rfl,h1,h2,h3,h4⟩;cases h<;>try cases h4
  rename_i a q;simp only[Hn.len,Nat.add_right_cancel_iff]at h1;refine (hb a s _ r h2 h4).mono ?_;rintro e σ ⟨s',g1,g2,rfl,g4⟩;have hx:=h3.trans g2;cases e with
  |normal=>exact⟨q,s',rfl,h1,g1,hx,g4⟩
  |_=>exact⟨s',g1,hx,rfl,g4⟩
theorem fD (hT:bI P T) (hm:P.follows .mixedOrders=true) (hΓ:GOk P Γ):∀ (c:Code) (A:Type) (h:Hn X.ι) (s:DSt X) (k:Exit->DSt X->Option A) (r:A),Low s->run Γ T code N n c A h s k=some r->Ev P N c (uM (aU c) s k r) s.st
 | .skip,A,h,s,k,r,hl,hr=>abh ⟨s,hl,Ext.refl _ s,rfl,hr⟩
 | .exit id,A,h,s,k,r,hl,hr=>abj ⟨s,hl,Ext.refl _ s,rfl,hr⟩
 | .ret,A,h,s,k,r,hl,hr=>acp ⟨s,hl,Ext.refl _ s,rfl,hr⟩
 | .label l,A,h,s,k,r,hl,hr=>ZI ⟨s,hl,Ext.refl _ s,rfl,hr⟩
 | .region id ops d,A,h,s,k,r,hl,hr=>by
  refine yw hl (fun B h k r hb=>?_) hr;obtain⟨s',g1,g2,g3,g4⟩:=QW (id:=id) hT hm hΓ hl hb;exact g4.mono fun e σ ⟨he,hσ⟩=>⟨s',g2,g3.wide fun t ht=>YH ht,hσ,by rw[he];exact g1⟩
 | .seq x y,A,h,s,k,r,hl,hr=>by
  by_cases hrg:∃ hd h',h= .rg hd h'
  ·obtain⟨hd,h',rfl⟩:=hrg
   match y,hr with
   | .block j (.loop (.seq r2 (.seq cc (.block j2 (.seq r3 body))))),hr=>
    simp only[run]at hr;have hc:∃ i,Vf (.seq x (.block j (.loop (.seq r2 (.seq cc (.block j2 (.seq r3 body)))))))=some i:=by
     unfold Tv at hr;cases hh:Vf (.seq x (.block j (.loop (.seq r2 (.seq cc (.block j2 (.seq r3 body)))))))with
     |none=>rw[hh]at hr;cases hr
     |some i=>exact⟨i,rfl⟩
    obtain⟨i,hc⟩:=hc;have hbd:body=i.body:=by
     obtain⟨i1,i2,i3,ops1,ops2,ops3,o1,o2,o3,o4,o5,o6,o7,he,_⟩:=BN hc;injection he with _ he;injection he with _ he;injection he with he;injection he with _ he;injection he with _ he;injection he with _ he;injection he with _ he
    have hr2:Tv T N (.seq x (.block j (.loop (.seq r2 (.seq cc (.block j2 (.seq r3 body))))))) (aU i.body) hd s k (fun B s1 k1=>run Γ T code N n body B h' s1 k1)=some r:=(by rw[<- hbd];exact hr);exact Tx (P:=P) (rb:=fun B s1 k1=>run Γ T code N n body B h' s1 k1) hT hc hl (fun B s1 k1 r hl1 h1=>by rw[<- hbd];exact fD hT hm hΓ body B h' s1 k1 r hl1 h1) hr2
  have hr:LZ (aU (.seq x y)) s h k (fun B h k=>run Γ T code N n x B h.fst s fun e s'=>match e with
   | .normal=>run Γ T code N n y B h.snd s' k
   |e=>k e s')=some r:=by cases h<;>first |exact hr |exact (hrg ⟨_,_,rfl⟩).elim
  refine yw hl (fun B h k r hb=>?_) hr;refine acr ((fD hT hm hΓ x B _ s _ r hl hb).mono ?_);rintro e σ ⟨s',g1,g2,rfl,g4⟩;have wide:Ext (· ∈aU (.seq x y)) s s':=g2.wide fun t ht=>by simp[aU,ht]
  cases e with
  |normal=>
   exact (fD hT hm hΓ y B _ s' k r g1 g4).mono fun e σ ⟨s2,i1,i2,i3,i4⟩=>⟨s2,i1,wide.trans (i2.wide fun t ht=>by simp[aU,ht]),i3,i4⟩
  |_=>exact⟨s',g1,wide,rfl,g4⟩
 | .cond c x y,A,h,s,k,r,hl,hr=>by
  refine yw hl (fun B h k r hb=>?_) hr;split at hb
  ·rename_i v hv;refine abk v (fun _ _=>rfl) ?_ ?_
   ·have:=EL (lke s.env) c;rw[hv]at this;exact this.symm
   ·cases v with
    |true=>exact (fD hT hm hΓ x B _ s k r hl hb).mono fun e σ ⟨s2,i1,i2,i3,i4⟩=>⟨s2,i1,i2.wide fun t ht=>by simp[aU,ht],i3,i4⟩
    |false=>exact (fD hT hm hΓ y B _ s k r hl hb).mono fun e σ ⟨s2,i1,i2,i3,i4⟩=>⟨s2,i1,i2.wide fun t ht=>by simp[aU,ht],i3,i4⟩
  ·rename_i hv;obtain⟨hb1,hb2⟩:=YF hb;refine Ve (fun _ _=>rfl) ?_ ?_ ?_
   ·have:=EL (lke s.env) c;rw[hv]at this;exact this.symm
   ·exact (fD hT hm hΓ x B _ s k r hl hb1).mono fun e σ ⟨s2,i1,i2,i3,i4⟩=>⟨s2,i1,i2.wide fun t ht=>by simp[aU,ht],i3,i4⟩
   ·exact (fD hT hm hΓ y B _ s k r hl hb2).mono fun e σ ⟨s2,i1,i2,i3,i4⟩=>⟨s2,i1,i2.wide fun t ht=>by simp[aU,ht],i3,i4⟩
  ·cases hb
 | .block id b,A,h,s,k,r,hl,hr=>by
  refine yw hl (fun B h k r hb=>?_) hr;refine ZJ ((fD hT hm hΓ b B _ s _ r hl hb).mono ?_);rintro e σ ⟨s',g1,g2,rfl,g4⟩;cases e with
  |exit j=>
   simp only[Vd];simp only at g4;split
   ·rw[if_pos ‹_›]at g4;exact⟨s',g1,g2,rfl,g4⟩
   ·rw[if_neg ‹_›]at g4;exact⟨s',g1,g2,rfl,g4⟩
  |_=>exact⟨s',g1,g2,rfl,g4⟩
 | .loop b,A,h,s,k,r,hl,hr=>by
  simp only[run]at hr;split at hr
  ·rename_i hd id out h';obtain⟨v0,h1,h2,h3,h4⟩:=dU hl hl (Ext.refl _ s) hr;rw[ai]at h1;obtain⟨w,h5,h6⟩:=h1;intro w0 O0 β I a ww hrel ho;obtain⟨β',hrel'⟩:=h4 P w0 O0 N β I a ww hrel;refine L6 (Q:=uM (aU (.loop b)) s k r) hl (fun s'=>rfl) (fun v r hlv hs=>fD hT hm hΓ b _ h' (encS hd s v) _ r hlv hs) (fun e s' he hls hxs hk=>?_) (fun e s' v he hk=>?_) n v0 h5 h2 h3 w0 O0 β' I a ww hrel' h2.old
   ·cases e with
    |exit j=>
     simp only at hk;split at hk
     ·rename_i hj;subst hj;obtain⟨w',i1,i2,i3,i4⟩:=dU hl hls hxs hk;injection i1 with i1;injection i1 with i1;subst i1;intro w0 O0 β I a ww hrel;obtain⟨β',hrel'⟩:=i4 P w0 O0 N β I a ww hrel;exact⟨β',_,hrel',i2.old,_,i2,i3,rfl,h6⟩
     ·cases hk
    |normal=>exact (he rfl).elim
    |_=>cases hk
   ·cases e with
    |exit j=>
     simp only at hk;split at hk
     ·obtain⟨w',i1⟩:=L8 hk;injection i1 with i1;cases i1
     ·cases hk
    |normal=>exact he rfl
    |_=>cases hk
  ·rename_i hd id out h';obtain⟨v0,h1,h2,h3,h4⟩:=dU hl hl (Ext.refl _ s) hr;unfold dm at h1;rw[ai]at h1;obtain⟨w,h5,h6⟩:=h1;intro w0 O0 β I a ww hrel ho;obtain⟨β',hrel'⟩:=h4 P w0 O0 N β I a ww hrel;refine L6 (Q:=uM (aU (.loop b)) s k r) hl (fun s'=>rfl) (fun v r hlv hs=>fD hT hm hΓ b _ h' (encS hd s v) _ r hlv hs) (fun e s' he hls hxs hk=>?_) (fun e s' v he hk=>?_) n v0 h5 h2 h3 w0 O0 β' I a ww hrel' h2.old
   ·intro w0 O0 β I a ww hrel;have other:(k e s').map (fun a=>Sum.inr (Sum.inr a))=some (Sum.inr w:VT (X:=X) hd.vars ⊕ (VT (X:=X) out.vars ⊕ A))->∃ β' σ',Rel P w0 O0 N β' I σ' a ww∧Old σ'∧uM (aU (.loop b)) s k r e σ':=by
     intro hm;obtain⟨q,hq,hr⟩:=Ty hm;injection hr with hr;subst hr;injection h6 with h6;subst h6;exact⟨β,_,hrel,hls.old,s',hls,hxs,rfl,hq⟩
    cases e with
    |exit j=>
     simp only at hk;split at hk
     ·rename_i hj;subst hj;obtain⟨w',i1,i2,i3,i4⟩:=dU hl hls hxs hk;injection i1 with i1;injection i1 with i1;subst i1;obtain⟨β',hrel'⟩:=i4 P w0 O0 N β I a ww hrel;exact⟨β',_,hrel',i2.old,_,i2,i3,rfl,h6⟩
     ·exact other hk
    |normal=>exact (he rfl).elim
    |_=>exact other hk
   ·have other:(k e s').map (fun a=>Sum.inr (Sum.inr a))=some (Sum.inl v:VT (X:=X) hd.vars ⊕ (VT (X:=X) out.vars ⊕ A))->False:=by
     intro hm;obtain⟨q,hq,hr⟩:=Ty hm;cases hr
    cases e with
    |exit j=>
     simp only at hk;split at hk
     ·obtain⟨w',i1⟩:=L8 hk;injection i1 with i1;cases i1
     ·exact other hk
    |normal=>exact he rfl
    |_=>exact other hk
  ·exact YI (body:=fun h s k=>run Γ T code N n b A h s k) (fun h s k r hl h1=>fD hT hm hΓ b A h s k r hl h1) hl hr
  ·cases hr
 | .rangeFunc ..,_,_,_,_,_,_,hr=>by cases hr
 | .scope _,_,_,_,_,_,_,hr=>by cases hr
 | .goto _,_,_,_,_,_,_,hr=>by cases hr
 | .refuse _,_,_,_,_,_,_,hr=>by cases hr
end
end
section
variable {X:SX}
def eX:Nat->(l:List (AT X.ι))->dY X l->List (DV X)
 |_,[],_=>[]
 |n,.d c::l,a=> .c c a.1::eX n l a.2
 |n,.ref c::l,a=> .rp c a.1 0::eX n l a.2
 |n,.clo as r::l,a=> .clo as r a.1::eX n l a.2
 |n,.mut _::l,a=> .own n 0 (List.length a.1)::eX (n+1) l a.2
 |n,.mref _::l,a=> .ptr n 0 0::eX (n+1) l a.2
 |n,.nil::l,a=> .nil::eX n l a.2
def vB:(l:List (AT X.ι))->dY X l->List (DObj X)
 |[],_=>[]
 | .mut c::l,a=> .lst c a.1::vB l a.2
 | .mref c::l,a=> .cells (CT.sz X c) [nS c a.1]::vB l a.2
 | .d _::l,a=>vB l a.2
 | .ref _::l,a=>vB l a.2
 | .clo _ _::l,a=>vB l a.2
 | .nil::l,a=>vB l a.2
theorem lW:∀ (n:Nat) (l:List (AT X.ι)) (a:dY X l),aI (eX n l a)=bq n l a
 |_,[],_=>rfl
 |n,.d c::l,a=>by simp only[eX,aI,den,bq,lW n l a.2]
 |n,.ref c::l,a=>by simp only[eX,aI,den,bq,lW n l a.2]
 |n,.clo as r::l,a=>by simp only[eX,aI,bq,lW n l a.2]
 |n,.mut c::l,a=>by simp only[eX,aI,den,bq,lW (n+1) l a.2]
 |n,.mref c::l,a=>by simp only[eX,aI,den,bq,lW (n+1) l a.2]
 |n,.nil::l,a=>by simp only[eX,aI,den,bq,lW n l a.2]
theorem o9:∀ (l:List (AT X.ι)) (a:dY X l),(vB l a).map aH=(kJ l a).map aob
 |[],_=>rfl
 | .d _::l,a=>o9 l a.2
 | .ref _::l,a=>o9 l a.2
 | .clo _ _::l,a=>o9 l a.2
 | .nil::l,a=>o9 l a.2
 | .mut c::l,a=>by simp only[vB,kJ,map_cons,o9 l a.2];rfl
 | .mref c::l,a=>by simp only[vB,kJ,map_cons,o9 l a.2,aH,aob,lJ,ay,map_nil,iX]
theorem jO:∀ (n:Nat) (l:List (AT X.ι)) (a:dY X l),∀ k∈aD (eX n l a),k < n+kL l
 |_,[],_,k,hk=>by simp[eX,aD]at hk
 |n,.d c::l,a,k,hk=>by
  have:=jO n l a.2 k (by simpa[eX,aD,drefs]using hk);simpa[kL,AT.im]using this
 |n,.ref c::l,a,k,hk=>by
  have:=jO n l a.2 k (by simpa[eX,aD,drefs]using hk);simpa[kL,AT.im]using this
 |n,.clo as r::l,a,k,hk=>by
  have:=jO n l a.2 k (by simpa[eX,aD,drefs]using hk);simpa[kL,AT.im]using this
 |n,.nil::l,a,k,hk=>by
  have:=jO n l a.2 k (by simpa[eX,aD,drefs]using hk);simpa[kL,AT.im]using this
 |n,.mut c::l,a,k,hk=>by
  simp only[eX,aD,drefs,List.singleton_append,mem_cons]at hk;simp only[kL,AT.im,if_true];rcases hk with rfl |hk
  ·omega
  ·have:=jO (n+1) l a.2 k hk;omega
 |n,.mref c::l,a,k,hk=>by
  simp only[eX,aD,drefs,List.singleton_append,mem_cons]at hk;simp only[kL,AT.im,if_true];rcases hk with rfl |hk
  ·omega
  ·have:=jO (n+1) l a.2 k hk;omega
theorem gQ:∀ (n:Nat) (l:List (AT X.ι)) (a:dY X l),(bq n l a).length=l.length
 |_,[],_=>rfl
 |n,.d c::l,a=>by simp only[bq,length_cons,gQ n l a.2]
 |n,.ref c::l,a=>by simp only[bq,length_cons,gQ n l a.2]
 |n,.clo as r::l,a=>by simp only[bq,length_cons,gQ n l a.2]
 |n,.mut c::l,a=>by simp only[bq,length_cons,gQ (n+1) l a.2]
 |n,.mref c::l,a=>by simp only[bq,length_cons,gQ (n+1) l a.2]
 |n,.nil::l,a=>by simp only[bq,length_cons,gQ n l a.2]
theorem gT:∀ (l:List (AT X.ι)) (a:dY X l),(kJ l a).length=kL l
 |[],_=>rfl
 | .d _::l,a=>by simpa[kL,AT.im,kJ]using gT l a.2
 | .ref _::l,a=>by simpa[kL,AT.im,kJ]using gT l a.2
 | .clo _ _::l,a=>by simpa[kL,AT.im,kJ]using gT l a.2
 | .nil::l,a=>by simpa[kL,AT.im,kJ]using gT l a.2
 | .mut _::l,a=>by simp only[kJ,length_cons,gT l a.2,kL,AT.im,if_true];omega
 | .mref _::l,a=>by simp only[kJ,length_cons,gT l a.2,kL,AT.im,if_true];omega
def ini (l:List (AT X.ι)) (a:dY X l):DSt X:=⟨(List.range l.length).zip (eX 0 l a),(List.range (vB l a).length).zip ((vB l a).map some),1000,[]⟩
theorem XD (l:List (AT X.ι)) (a:dY X l) (k:Nat):lko (ini l a).obj k=(vB l a)[k]? :=by
 have h:(List.range (vB l a).length).zip ((vB l a).map some)=(List.range ((vB l a).map some).length).zip ((vB l a).map some):=by rw[length_map]
 simp only[ini,lko];rw[h,vg,List.getElem?_map];cases (vB l a)[k]?<;>rfl
theorem acI (l:List (AT X.ι)) (a:dY X l):(ini l a).st=LSt.st ⟨(List.range (sw l a).length).zip (sw l a),(List.range ((kJ l a).map aob).length).zip ((kJ l a).map aob)⟩:=by
 have ho:∀ k,((lko (ini l a).obj k).map aH)=lk ((List.range ((kJ l a).map aob).length).zip ((kJ l a).map aob)) k:=by
  intro k;rw[vg,XD,<- o9,List.getElem?_map]
 simp only[DSt.st,LSt.st,St.mk.injEq,and_true];refine⟨?_,funext ho⟩;funext t;simp only[ini];rw[gQ,sw,<- lW];generalize eX 0 l a=ds;have:∀ (ks:List Nat) (ds:List (DV X)),den (lke (ks.zip ds) t)=(lk (ks.zip (aI ds)) t).getD .undef:=by
  intro ks
  induction ks with
  |nil=>intro ds;rfl
  |cons k ks ih=>
   intro ds;cases ds with
   |nil=>rfl
   |cons d ds=>
    simp only[List.zip_cons_cons,lke,lk,aI];by_cases h:k=t
    ·simp[h]
    ·simp only[if_neg h];exact ih ds
 exact this _ _
theorem abE (l:List (AT X.ι)) (a:dY X l) (hm:kL l<=1000):Low (ini l a):=by
 refine⟨by show 1000<=1000000;decide,Nat.le_refl _,fun t k hk=>?_,fun k o ho=>?_⟩
 ·have h0:=jO 0 l a;simp only[ini]at hk;generalize eX 0 l a=ds at hk h0;have:∀ (ks:List Nat) (ds:List (DV X)),(∀ k∈aD ds,k < 0+kL l)->∀ k∈drefs (lke (ks.zip ds) t),k < 1000:=by
   intro ks
   induction ks with
   |nil=>intro ds _ k hk;simp[lke,lk,drefs]at hk
   |cons k ks ih=>
    intro ds h j hj;cases ds with
    |nil=>simp[lke,lk,drefs]at hj
    |cons d ds=>
     simp only[List.zip_cons_cons,lke,lk]at hj;by_cases e:k=t
     ·simp only[if_pos e,Option.getD_some]at hj;have:=h j (by simp[aD,hj]);omega
     ·simp only[if_neg e]at hj;exact ih ds (fun k hk=>h k (by simp[aD,hk])) j hj
  exact this _ _ h0 k hk
 ·rw[XD]at ho;have hl:(vB l a).length=kL l:=by rw[<- gT l a];simpa using congrArg List.length (o9 l a)
  refine⟨by have:=(List.getElem?_eq_some_iff.1 ho).1;show k < 1000;omega,fun j hj=>?_⟩;have hz:∀ (l:List (AT X.ι)) (a:dY X l),∀ o∈vB l a,orefs o=[]:=by
   intro l
   induction l with
   |nil=>intro a o ho;simp[vB]at ho
   |cons q l ih=>
    intro a o ho;cases q<;>simp only[vB,mem_cons]at ho
    case «mut» c=>rcases ho with rfl |ho;rfl;exact ih _ o ho
    case mref c=>
     rcases ho with rfl |ho
     ·have h1:aD (nS c a.1)=[]:=by
       rw[<- dG,iX];generalize CT.row X.toSE c a.1=r
       induction r with
       |nil=>rfl
       |cons y ys ih=>simp only[map_cons,bH,refs,ih,nil_append]
      simp[orefs,h1]
     ·exact ih _ o ho
    all_goals exact ih _ o ho
  rw[hz l a o (List.mem_of_getElem? ho)]at hj;cases hj
variable (T:Tab)
def VN (s:DSt X):ResultVar->Option (DV X)
 | .tmp t=>some (lke s.env t)
 | .cell a t=>(T t).bind fun ti=>match lke s.env a with
  | .ptr kk row off=>(lko s.obj kk).bind fun o=>match o with
   | .cells _ rows=>(rows[row]?).bind fun r=>Ag ti.agg ti.size ((r.drop off).take ti.size)
   | .lst b l=>(X.ar t).bind fun a=>(bZ (.sl b) (.sl a.c) l).bind fun l=>if row=0∧off=0∧ti.agg=true∧(X.tys a.i).length=ti.size∧2<=ti.size then (a.g (sub l 0 ti.size)).bind fun y=>some (.c (.st a.i) y)else none
   |_=>none
  |_=>none
def IX (s:DSt X):List ResultVar->Option (List (DV X))
 |[]=>some []
 |r::rs=>(VN T s r).bind fun v=>(IX s rs).bind fun vs=>some (v::vs)
theorem aan {s:DSt X} {r:ResultVar} {d:DV X} (h:VN T s r=some d):Gy T s.st r=some (den d):=by
 cases r with
 |tmp t=>simp only[VN,Option.some.injEq]at h;subst h;rfl
 |cell a t=>
  simp only[VN]at h;rw[ai]at h;obtain⟨ti,h1,h⟩:=h;split at h
  ·rename_i kk row off hp;rw[ai]at h;obtain⟨o,h2,h⟩:=h;split at h
   ·rename_i sz rows;rw[ai]at h;obtain⟨q,h3,h⟩:=h;have h4:=wC h;rw[fG]at h4
    show (match BP T t (den (lke s.env a)) (fun k=>(lko s.obj k).map aH)with
     |some ⟨v,[],[]⟩=>some v
     |_=>none)=some (den d)
    simp only[BP,wo,h1,bind_some,hp,den,h2,Option.map_some,aH,List.getElem?_map,h3,h4,pv]
   ·rename_i b l0;rw[ai]at h;obtain⟨ar,h3,h⟩:=h;rw[ai]at h;obtain⟨l,h4,h⟩:=h;split at h
    ·rename_i hc;obtain⟨rfl,rfl,c1,c2,c3⟩:=hc;rw[ai]at h;obtain⟨y,h5,h⟩:=h;injection h with h;subst h;have ho:=(X.ar_ok t ar h3).1;have hk:(fun k=>(lko s.obj k).map aH) kk=some ⟨1,bG (l.map fun x=>den (.c ar.c x:DV X))⟩:=by
      have h6:Yr (lko s.obj) kk ar.c=some l:=(by unfold Yr;rw[h2];exact h4);obtain⟨o,g1,g2⟩:=Lp ho h6;simp only[g1,Option.map_some,g2]
     have hA:=Lr (T:=T) (g:=fun k=>(lko s.obj k).map aH) h1 h3 c1 c2 hk h5;have hN:wo T t (den (.ptr kk 0 0:DV X)) .none (fun k=>(lko s.obj k).map aH)=none:=by
      simp only[wo,h1,bind_some,den,hk];cases l with
      |nil=>rfl
      |cons z zs=>
       simp only[map_cons,bG,List.getElem?_cons_zero,bind_some,List.drop_zero];have:part' ti.agg ti.size (List.take ti.size [den (.c ar.c z:DV X)])=none:=by
        unfold part';rw[if_neg];simp only[List.length_take,length_cons,List.length_nil];omega
       show (part' ti.agg ti.size (List.take ti.size [den (.c ar.c z:DV X)])).bind pv=none;rw[this];rfl
     show (match BP T t (den (lke s.env a)) (fun k=>(lko s.obj k).map aH)with
      |some ⟨v,[],[]⟩=>some v
      |_=>none)=some (den (.c (.st ar.i) y:DV X))
     rw[hp];simp only[BP,hN,hA]
    ·cases h
   ·cases h
  ·cases h
def L9 {A:Type} (s:DSt X):List ResultVar->(List (DV X)->Option A)->Option A
 |[],k=>k []
 | .tmp t::rs,k=>L9 s rs fun vs=>k (lke s.env t::vs)
 | .cell a t::rs,k=>(T t).bind fun ti=>match lke s.env a with
  | .ptr kk row off=>(lko s.obj kk).bind fun o=>match o with
   | .cells _ rows=>(rows[row]?).bind fun r=>(Ag ti.agg ti.size ((r.drop off).take ti.size)).bind fun v=>L9 s rs fun vs=>k (v::vs)
   | .lst b l=>(X.ar t).bind fun a=>(bZ (.sl b) (.sl a.c) l).bind fun l=>if row=0∧off=0∧ti.agg=true∧(X.tys a.i).length=ti.size∧2<=ti.size then (a.g (sub l 0 ti.size)).bind fun y=>L9 s rs fun vs=>k (.c (.st a.i) y::vs)else none
   |_=>none
  |_=>none
theorem wO {A:Type} {s:DSt X}:∀ {rs:List ResultVar} {k:List (DV X)->Option A} {r:A},L9 T s rs k=some r->∃ ds,IX T s rs=some ds∧k ds=some r
 |[],k,r,h=>⟨[],rfl,h⟩
 | .tmp t::rs,k,r,h=>by
  obtain⟨ds,h1,h2⟩:=wO (rs:=rs) h;exact⟨_,by simp only[IX,VN,h1,bind_some],h2⟩
 | .cell a t::rs,k,r,h=>by
  simp only[L9]at h;rw[ai]at h;obtain⟨ti,h1,h⟩:=h;split at h
  ·rename_i kk row off hp;rw[ai]at h;obtain⟨o,h2,h⟩:=h;split at h
   ·rw[ai]at h;obtain⟨q,h3,h⟩:=h;rw[ai]at h;obtain⟨v,h4,h⟩:=h;obtain⟨ds,h5,h6⟩:=wO (rs:=rs) h;exact⟨_,by simp only[IX,VN,h1,hp,h2,h3,h4,h5,bind_some],h6⟩
   ·rw[ai]at h;obtain⟨ar,h3,h⟩:=h;rw[ai]at h;obtain⟨l,h4,h⟩:=h;split at h
    ·rename_i hc;rw[ai]at h;obtain⟨y,h5,h⟩:=h;obtain⟨ds,h6,h7⟩:=wO (rs:=rs) h;exact⟨_,by simp only[IX,VN,h1,hp,h2,h3,h4,h5,h6,bind_some];rw[if_pos hc];rfl,h7⟩
    ·cases h
   ·cases h
  ·cases h
theorem GZ {s:DSt X}:∀ {rs:List ResultVar} {ds:List (DV X)},IX T s rs=some ds->iW T s.st rs=some (aI ds)
 |[],ds,h=>by simp only[IX,Option.some.injEq]at h;subst h;rfl
 |r::rs,ds,h=>by
  simp only[IX]at h;rw[ai]at h;obtain⟨d,h1,h⟩:=h;rw[ai]at h;obtain⟨ds',h2,h⟩:=h;injection h with h;subst h;simp only[iW,aan T h1,GZ h2,bind_some,aI]
def G5:List (RT X.ι)->List (DV X)->Option Nat
 | .mu _::l,ds=>G5 l ds
 | .mr _::l,ds=>G5 l ds
 | .mv::l,ds=>G5 l ds
 | .fresh _::l,d::ds=>match d with
  | .own k _ _=>some k
  |_=>G5 l ds
 | .d _::l,_::ds=>G5 l ds
 | .whole _::l,_::ds=>G5 l ds
 |_,_=>none
def whl:List (RT X.ι)->List (DV X)->List (Nat×Nat)
 | .mu _::l,ds=>whl l ds
 | .mr _::l,ds=>whl l ds
 | .mv::l,ds=>whl l ds
 | .whole j::l,d::ds=>match d with
  | .own _ _ len=>(j,len)::whl l ds
  |_=>whl l ds
 | .d _::l,_::ds=>whl l ds
 | .fresh _::l,_::ds=>whl l ds
 |_,_=>[]
def pq:Nat->List (RT X.ι)->List Nat
 |_,[]=>[]
 |n,.mu _::l=>n::pq (n+1) l
 |n,.mr _::l=>n::pq (n+1) l
 |n,.mv::l=>pq (n+1) l
 |n,_::l=>pq n l
def muN:Nat->List (RT X.ι)->List Nat
 |_,[]=>[]
 |n,.mu _::l=>n::muN (n+1) l
 |n,.mr _::l=>muN (n+1) l
 |n,.mv::l=>muN (n+1) l
 |n,_::l=>muN n l
def Tz (bad:List Nat) (ks:List Nat):Bool:=ks.all fun k=>!bad.contains k
def Q5 (get:Nat->Option (DObj X)) (row:List (DV X)) (c:CT X.ι):Option (CT.T X.toSE c×List Bool):=
 match c with
 | .st i=>(qj get row (X.tys i)).bind fun h=>some (X.make i h.1,h.2)
 |c=>match row with
  |[d]=>IG get d c
  |_=>none
def Av (get:Nat->Option (DObj X)) (c:CT X.ι):List (List (DV X))->Option (List (CT.T X.toSE c)×List Bool)
 |[]=>some ([],[])
 |r::rs=>(Q5 get r c).bind fun x=>(Av get c rs).bind fun y=>some (x.1::y.1,x.2++y.2)
def Ff (get:Nat->Option (DObj X)) (bad mus:List Nat) (fk:Option Nat) (wl:List (Nat×Nat)) (n:Nat):(q:RT X.ι)->List (DV X)->Option ((RT.T X q×List Bool)×List (DV X))
 | .d c,d::ds=>if Tz bad (drefs d)then (zx get d c).bind fun x=>some (x,ds)else none
 | .fresh e,d::ds=>match d with
  | .nil=>some (([],[]),ds)
  | .own k 0 len=>if fk=some k then (get k).bind fun o=>match o with
   | .lst b l=>(bZ (.sl b) (.sl e) l).bind fun (l:List (CT.T X.toSE e))=>some ((sub l 0 len,[eqL (sub l 0 len).length len]),ds)
   | .cells sz rows=>if sz=CT.sz X e∧Tz bad (rows.map aD).flatten=true then (Av get e rows).bind fun x=>some ((x.1,eqL len (List.length x.1)::x.2),ds)else none
   | .map _ _ _=>none
   else none
  |_=>none
 | .whole j,d::ds=>match d with
  | .own k 0 len=>if k=j∧mus.contains j=true then (lk wl j).bind fun len0=>some (((),[eqL len len0]),ds)else none
  |_=>none
 | .mu c,ds=>(get n).bind fun o=>match o with
  | .lst b l=>(bZ (.sl b) (.sl c) l).bind fun (l:List (CT.T X.toSE c))=>match lk wl n with
   |some len=>some ((sub l 0 len,[eqL (sub l 0 len).length len]),ds)
   |none=>some ((l,[]),ds)
  |_=>none
 | .mr c,ds=>(get n).bind fun o=>match o with
  | .cells sz [row]=>if sz=CT.sz X c∧Tz bad (aD row)=true then (Q5 get row c).bind fun x=>some (x,ds)else none
  |_=>none
 | .mv,ds=>some (((),[]),ds)
 |_,[]=>none
def Fg (get:Nat->Option (DObj X)) (bad mus:List Nat) (fk:Option Nat) (wl:List (Nat×Nat)):Nat->(l:List (RT X.ι))->(ds:List (DV X))->Option (mh X l×List Bool)
 |_,[],ds=>match ds with
  |[]=>some ((),[])
  |_=>none
 |n,[q],ds=>(Ff get bad mus fk wl n q ds).bind fun p=>match p.2 with
  |[]=>some p.1
  |_=>none
 |n,q::q'::l,ds=>(Ff get bad mus fk wl n q ds).bind fun p=>(Fg get bad mus fk wl (if q.out then n+1 else n) (q'::l) p.2).bind fun y=>some ((p.1.1,y.1),p.1.2++y.2)
def Q6 (s:DSt X) (l:List (RT X.ι)) (ds:List (DV X)):Option (mh X l×List Bool):=
 if Tz (pq 0 l) (G5 l ds).toList then Fg (lko s.obj) (pq 0 l++(G5 l ds).toList) (muN 0 l) (G5 l ds) (whl l ds) 0 l ds else none
def adb (rs:List ResultVar) (l:List (RT X.ι)):Exit->DSt X->Option (mh X l)
 | .normal,s=>L9 T s rs fun ds=>(Q6 s l ds).bind fun x=>K4 x.2 (some x.1)
 | .ret,s=>L9 T s rs fun ds=>(Q6 s l ds).bind fun x=>K4 x.2 (some x.1)
 |_,_=>none
def exit (A:Type) (k:DSt X->Option A):Exit->DSt X->Option A
 | .normal,s=>k s
 | .ret,s=>k s
 |_,_=>none
variable {T}
section
variable {get:Nat->Option (DObj X)} {fk:Option Nat} {os':List (Option bJ)} {bad:List Nat}
theorem yx {ks:List Nat} (h:Tz bad ks=true):∀ j∈ks,j∉bad:=fun j hj=>by simpa using all_eq_true.1 h j hj
theorem G6 (hbad:∀ j,j∉bad->fk≠some j∧¬ kept os' j) {d:DV X} {c:CT X.ι} {x:CT.T X.toSE c×List Bool} (hc:c.one=true) (h:IG get d c=some x) (hb:∀ b∈x.2,b=true) (hfk:∀ j∈drefs d,j∉bad):∃ t,CT.tv X.toSE c x.1= .s t∧Gx (bT get) fk os' (den d) t:=by
 obtain⟨t,h1,h2⟩:=row_one hc x.1;refine⟨t,h2,?_⟩;have hbase:∀ y,Ct d c=some y->y=x.1->Gx (bT get) fk os' (den d) t:=by
  intro y hy he;subst he;have h3:=oQ hy;rw[h2]at h3;have h4:=QG hc hy;unfold Ct at hy;split at hy
  ·rw[(dQ hy).1];simp only[den,h2,TV.av,Gx]
  ·simp only[den,Gb.wk,TV.av,AV.t.injEq]at h3;simp only[den,Gx];exact h3.symm
  ·simp only[den,Gb.wk,TV.av,AV.t.injEq]at h3;simp only[den,Gx];exact h3.symm
  ·cases hy
 unfold IG at h;split at h
 ·rename_i kk off len e;rw[ai]at h;obtain⟨o,h3,h⟩:=h;split at h
  ·rename_i b l0;rw[ai]at h;obtain⟨l,h4,h⟩:=h;injection h with h;subst h;have h5:(sub l off len).length=len:=(by simpa[eqL]using hb (eqL (sub l off len).length len) (by simp));obtain⟨h6,h7⟩:=eu h4;obtain⟨hf1,hf2⟩:=hbad kk (hfk kk (by simp[drefs]));simp only[den,Gx];refine⟨hf1,hf2,aH (.lst b l0),(sub l off len).map (CT.row X.toSE e),by simp[bT,h3],?_,by simpa using h5,?_⟩
   ·simp only[aH,h7];simp[ay,sub,map_take,map_drop]
   ·simpa[CT.row]using h1.symm
  ·cases h
 ·rename_i kk off len;rw[ai]at h;obtain⟨o,h3,h⟩:=h;split at h
  ·rename_i b l0;injection h with h;subst h;have h5:(sub l0 off len).length=len:=(by simpa[eqL]using hb (eqL (sub l0 off len).length len) (by simp));obtain⟨hf1,hf2⟩:=hbad kk (hfk kk (by simp[drefs]));simp only[den,Gx];refine⟨hf1,hf2,aH (.lst b l0),(sub l0 off len).map (CT.row X.toSE b),by simp[bT,h3],?_,by simpa using h5,?_⟩
   ·simp only[aH];simp[ay,sub,map_take,map_drop]
   ·simpa[CT.row]using h1.symm
  ·cases h
 ·rename_i kk len e;rw[ai]at h;obtain⟨o,h3,h⟩:=h;split at h
  ·rename_i b l0;rw[ai]at h;obtain⟨l,h4,h⟩:=h;injection h with h;subst h;have h5:(sub l 0 len).length=len:=(by simpa[eqL]using hb (eqL (sub l 0 len).length len) (by simp));obtain⟨h6,h7⟩:=eu h4;obtain⟨hf1,hf2⟩:=hbad kk (hfk kk (by simp[drefs]));simp only[den,Gx];refine⟨hf1,hf2,aH (.lst b l0),(sub l 0 len).map (CT.row X.toSE e),by simp[bT,h3],?_,by simpa using h5,?_⟩
   ·simp only[aH,h7];simp[ay,sub,map_take,map_drop]
   ·simpa[CT.row]using h1.symm
  ·cases h
 ·rw[ai]at h;obtain⟨y,h3,h⟩:=h;injection h with h;exact hbase y h3 (by rw[<- h])
theorem Dy (hbad:∀ j,j∉bad->fk≠some j∧¬ kept os' j):∀ {ds:List (DV X)} {l:List (CT X.ι)} {h:HL X.toSE l×List Bool},qj get ds l=some h->(∀ b∈h.2,b=true)->l.all CT.one=true->(∀ j∈aD ds,j∉bad)->ExpL (bT get) fk os' (aI ds) (HL.row X.toSE l h.1)
 |[],[],h,_,_,_,_=>trivial
 |d::ds,c::l,h,hr,hb,ha,hfk=>by
  simp only[qj]at hr;rw[ai]at hr;obtain⟨x,h1,hr⟩:=hr;rw[ai]at hr;obtain⟨g,h2,hr⟩:=hr;injection hr with hr;subst hr;simp only[all_cons,and_eq_true]at ha;obtain⟨t,i1,i2⟩:=G6 hbad ha.1 h1 (fun b hb'=>hb b (by simp[hb'])) (fun j hj=>hfk j (by simp[aD,hj]));have i3:=Dy hbad h2 (fun b hb'=>hb b (by simp[hb'])) ha.2 (fun j hj=>hfk j (by simp[aD,hj]));obtain⟨t',j1,j2⟩:=row_one ha.1 x.1;rw[i1]at j2;injection j2 with j2;subst j2;show ExpL (bT get) fk os' (den d::aI ds) (CT.row X.toSE c x.1++HL.row X.toSE l g.1);rw[j1];exact⟨i2,i3⟩
 |[],_::_,_,hr,_,_,_=>by simp[qj]at hr
 |_::_,[],_,hr,_,_,_=>by simp[qj]at hr
theorem IY (hbad:∀ j,j∉bad->fk≠some j∧¬ kept os' j) {row:List (DV X)} {c:CT X.ι} {x:CT.T X.toSE c×List Bool} (h:Q5 get row c=some x) (hb:∀ b∈x.2,b=true) (hfk:∀ j∈aD row,j∉bad):ExpL (bT get) fk os' (aI row) (CT.row X.toSE c x.1):=by
 cases c
 case st i=>
  replace h:(qj get row (X.tys i)).bind (fun h=>some (X.make i h.1,h.2))=some x:=h
  rw[ai]at h;obtain⟨g,h1,h⟩:=h;injection h with h;subst h;have:=Dy hbad h1 hb (X.flat i) hfk;show ExpL (bT get) fk os' (aI row) (X.row i (X.make i g.1));rw[X.row_make];exact this
 all_goals
  match row,h,hfk with
  |[d],h,hfk=>
   obtain⟨t,i1,i2⟩:=G6 (fk:=fk) hbad rfl h hb (fun j hj=>hfk j (by simp[aD,hj]));obtain⟨t',j1,j2⟩:=row_one rfl x.1;rw[i1]at j2;injection j2 with j2;subst j2;rw[j1];exact⟨i2,trivial⟩
  |[],h,_=>cases h
  |_::_::_,h,_=>cases h
theorem Fh (hbad:∀ j,j∉bad->fk≠some j∧¬ kept os' j) {c:CT X.ι}:∀ {rows:List (List (DV X))} {x:List (CT.T X.toSE c)×List Bool},Av get c rows=some x->(∀ b∈x.2,b=true)->(∀ j∈(rows.map aD).flatten,j∉bad)->ExpRows (bT get) fk os' (rows.map aI) (x.1.map (CT.row X.toSE c))∧rows.length=List.length x.1
 |[],x,h,_,_=>by simp only[Av,Option.some.injEq]at h;subst h;exact⟨trivial,rfl⟩
 |r::rs,x,h,hb,hfk=>by
  simp only[Av]at h;rw[ai]at h;obtain⟨y,h1,h⟩:=h;rw[ai]at h;obtain⟨z,h2,h⟩:=h;injection h with h;subst h;have i1:=IY hbad h1 (fun b hb'=>hb b (by simp[hb'])) (fun j hj=>hfk j (by simp[hj]));obtain⟨i2,i3⟩:=Fh hbad h2 (fun b hb'=>hb b (by simp[hb'])) (fun j hj=>hfk j (by simp only[map_cons,flatten_cons,mem_append];exact .inr hj));exact⟨⟨i1,i2⟩,by simp[i3]⟩
theorem aao {x:AV} {t:Tree} (h:Gx (bT get) fk os' x t):Yd (bT get) fk os' x (.d (.s t)):=by cases x<;>first |exact h |exact h.elim
theorem yA (sz:CT X.ι) (l:List (CT.T X.toSE sz)):ExpRows (bT get) fk os' (ay (l.map (CT.row X.toSE sz))) (l.map (CT.row X.toSE sz)):=by
 generalize l.map (CT.row X.toSE sz)=rows
 induction rows with
 |nil=>trivial
 |cons r rs ih=>
  refine⟨?_,ih⟩;show ExpL (bT get) fk os' (r.map AV.t) r
  induction r with
  |nil=>trivial
  |cons y ys ih2=>exact⟨rfl,ih2⟩
theorem aap (hbad:∀ j,j∉bad->fk≠some j∧¬ kept os' j) {c:CT X.ι} {d:DV X} {x:CT.T X.toSE c×List Bool} (h:zx get d c=some x) (hfk:∀ j∈drefs d,j∉bad) (hb:∀ b∈x.2,b=true):Yd (bT get) fk os' (den d) (.d (CT.tv X.toSE c x.1)):=by
 cases c
 case st i=>
  replace h:O1 get d i=some x:=h
  cases d
  case agg cs=>
   simp only[O1]at h;rw[ai]at h;obtain⟨g,h1,h⟩:=h;injection h with h;subst h;have:=Dy (fk:=fk) hbad h1 hb (X.flat i) (by simpa[drefs]using hfk);show ExpL (bT get) fk os' (aI cs) (X.row i (X.make i g.1));rw[X.row_make];exact this
  case c a y=>
   simp only[O1]at h;rw[ai]at h;obtain⟨z,h1,h⟩:=h;injection h with h;subst h;rw[(dQ h1).1];show ExpL (bT get) fk os' ((X.row i z).map AV.t) (X.row i z);generalize X.row i z=l
   induction l with
   |nil=>trivial
   |cons y ys ih=>exact⟨rfl,ih⟩
  all_goals cases h
 all_goals
  obtain⟨t,i1,i2⟩:=G6 (fk:=fk) hbad rfl h hb hfk;rw[i1];exact aao i2
theorem Ma {mus:List Nat} {wl:List (Nat×Nat)} {ns:List Nat} {n:Nat} (hbad:∀ j,j∉bad->fk≠some j∧¬ kept os' j) (hfkk:∀ k,fk=some k->¬ kept os' k) (hns:∀ j len0,j∈mus->lk wl j=some len0->ns.getD j 0=len0) (hmu:∀ j∈mus,kept os' j) {q:RT X.ι} {ds:List (DV X)} {p:(RT.T X q×List Bool)×List (DV X)} (h:Ff get bad mus fk wl n q ds=some p) (hb:∀ b∈p.1.2,b=true):
 (∀ cs,ExpCs (bT get) fk os' (aI p.2) cs->ExpCs (bT get) fk os' (aI ds) (Lh ns q p.1.1++cs))∧
 (∀ t,kK q p.1.1=[some t]->∃ o,get n=some o∧(aH o).sz=t.1∧ExpRows (bT get) fk os' ((aH o).rows.take t.2.length) t.2)∧
 (∀ len0 c,q= .mu c->lk wl n=some len0->NV q p.1.1=[len0]):=by
 cases q
 case d c=>
  cases ds with
  |nil=>simp[Ff]at h
  |cons d ds=>
   simp only[Ff]at h;split at h
   ·rename_i hnb;rw[ai]at h;obtain⟨x,h1,h⟩:=h;injection h with h;subst h;exact⟨fun cs hcs=>⟨aap hbad h1 (yx hnb) hb,hcs⟩,fun t ht=>by simp[kK]at ht,fun _ _ h=>by cases h⟩
   ·cases h
 case fresh e=>
  cases ds with
  |nil=>simp[Ff]at h
  |cons d ds=>
   refine⟨fun cs hcs=>?_,fun t ht=>by simp[kK]at ht,fun _ _ h=>by cases h⟩;simp only[Ff]at h;split at h
   ·injection h with h;subst h;exact⟨rfl,hcs⟩
   ·rename_i k len;split at h
    ·rename_i hfk;rw[ai]at h;obtain⟨o,h1,h⟩:=h;split at h
     ·rename_i b l0;rw[ai]at h;obtain⟨l,h2,h⟩:=h;injection h with h;subst h;obtain⟨h3,h4⟩:=eu h2;have h5:(sub l 0 len).length=len:=(by simpa[eqL]using hb (eqL (sub l 0 len).length len) (by simp));refine⟨⟨hfk,hfkk k hfk,rfl,aH (.lst b l0),by simp[bT,h1],by simp only[aH];exact h3,?_,by simpa using h5⟩,hcs⟩;have e1:(aH (.lst b l0)).rows.take len=ay ((sub l 0 len).map (CT.row X.toSE e)):=by
       simp only[aH,h4];simp[ay,sub,map_take]
      rw[e1];exact yA e _
     ·rename_i sz rows;split at h
      ·rename_i hc;rw[ai]at h;obtain⟨x,h2,h⟩:=h;injection h with h;subst h;obtain⟨i1,i2⟩:=Fh (fk:=fk) hbad h2 (fun b hb'=>hb b (by simp[hb'])) (yx hc.2);have h5:len=List.length x.1:=(by simpa[eqL]using hb (eqL len (List.length x.1)) (by simp));refine⟨⟨hfk,hfkk k hfk,rfl,aH (.cells sz rows),by simp[bT,h1],hc.1,?_,by simpa using h5.symm⟩,hcs⟩;simp only[aH];rw[List.take_of_length_le (by simp;omega)];exact i1
      ·cases h
     ·cases h
    ·cases h
   ·cases h
 case whole j=>
  cases ds with
  |nil=>simp[Ff]at h
  |cons d ds=>
   refine⟨fun cs hcs=>?_,fun t ht=>by simp[kK]at ht,fun _ _ h=>by cases h⟩;simp only[Ff]at h;split at h
   ·rename_i k len;split at h
    ·rename_i hc;obtain⟨rfl,hm⟩:=hc;rw[ai]at h;obtain⟨len0,h1,h⟩:=h;injection h with h;subst h;have h5:len=len0:=(by simpa[eqL]using hb (eqL len len0) (by simp));have hm:k∈mus:=(by simpa using hm);refine⟨⟨rfl,rfl,?_,hmu k hm⟩,hcs⟩;rw[h5];exact hns k len0 hm h1
    ·cases h
   ·cases h
 case mu c=>
  simp only[Ff]at h;rw[ai]at h;obtain⟨o,h1,h⟩:=h;split at h
  ·rename_i b l0;rw[ai]at h;obtain⟨l,h2,h⟩:=h;obtain⟨h3,h4⟩:=eu h2;split at h
   ·rename_i len hl;injection h with h;subst h;have h5:(sub l 0 len).length=len:=(by simpa[eqL]using hb (eqL (sub l 0 len).length len) (by simp));refine⟨fun cs hcs=>hcs,fun t ht=>?_,fun len0 c' _ hl'=>?_⟩
    ·simp only[kK,List.cons.injEq,Option.some.injEq,and_true]at ht;subst ht;refine⟨_,h1,by simp only[aH,lJ];exact h3,?_⟩;have e1:(aH (.lst b l0)).rows.take (lJ c (sub l 0 len)).2.length=ay (lJ c (sub l 0 len)).2:=by
      simp only[aH,h4,lJ,length_map,h5];simp[ay,sub,map_take]
     rw[e1];exact yA c _
    ·rw[hl]at hl';injection hl' with hl';subst hl';simp only[NV,h5]
   ·rename_i hl;injection h with h;subst h;refine⟨fun cs hcs=>hcs,fun t ht=>?_,fun len0 c' _ hl'=>by rw[hl]at hl';cases hl'⟩;simp only[kK,List.cons.injEq,Option.some.injEq,and_true]at ht;subst ht;refine⟨_,h1,by simp only[aH,lJ];exact h3,?_⟩;have e1:(aH (.lst b l0)).rows.take (lJ c l).2.length=ay (lJ c l).2:=by
     simp only[aH,h4,lJ];rw[List.take_of_length_le (by simp[ay])]
    rw[e1];exact yA c _
  ·cases h
 case mr c=>
  simp only[Ff]at h;rw[ai]at h;obtain⟨o,h1,h⟩:=h;split at h
  ·rename_i sz row;split at h
   ·rename_i hc;rw[ai]at h;obtain⟨x,h2,h⟩:=h;injection h with h;subst h;refine⟨fun cs hcs=>hcs,fun t ht=>?_,fun _ _ h=>by cases h⟩;simp only[kK,List.cons.injEq,Option.some.injEq,and_true]at ht;subst ht;refine⟨_,h1,by simp only[aH,lJ];exact hc.1,?_⟩;exact⟨IY hbad h2 hb (yx hc.2),trivial⟩
   ·cases h
  ·cases h
 case mv=>
  simp only[Ff,Option.some.injEq]at h;subst h;exact⟨fun cs hcs=>hcs,fun t ht=>by simp[kK]at ht,fun _ _ h=>by cases h⟩
theorem Aw {q:RT X.ι} {x:RT.T X q}:(kK q x).length=(if q.out then 1 else 0)∧(NV q x).length=(if q.out then 1 else 0):=by cases q<;>exact⟨rfl,rfl⟩
theorem Ay {n j:Nat} {q:RT X.ι} {l:List (RT X.ι)}:j∈muN n (q::l)->(j=n∧∃ c,q= .mu c)∨j∈muN (if q.out then n+1 else n) l:=by
 cases q<;>simp only[muN,RT.out,if_true,Bool.false_eq_true,if_false,mem_cons]
 case mu c=>exact fun h=>h.imp (fun h=>⟨h,c,rfl⟩) id
 all_goals exact .inr
theorem VO {j:Nat}:∀ {l:List (RT X.ι)} {n:Nat},j∈muN n l->n<=j
 |[],n,h=>by simp[muN]at h
 |q::l,n,h=>by
  rcases Ay h with ⟨rfl,_⟩ |h
  ·exact Nat.le_refl _
  ·have:=VO h;split at this<;>omega
theorem TA:∀ {l:List (RT X.ι)} {x:mh X l} {n j:Nat},j∈muN n l->∃ p,(jo l x)[j - n]? =some (some p)
 |[],x,n,j,h=>by simp[muN]at h
 |[q],x,n,j,h=>by
  rcases Ay h with ⟨rfl,c,rfl⟩ |h
  ·exact⟨_,by simp only[Nat.sub_self];rfl⟩
  ·simp[muN]at h
 |q::q'::l,x,n,j,h=>by
  rcases Ay h with ⟨rfl,c,rfl⟩ |h
  ·exact⟨_,by simp only[Nat.sub_self];rfl⟩
  ·obtain⟨p,hp⟩:=TA (l:=q'::l) (x:=x.2) h;have hge:=VO h;refine⟨p,?_⟩;show (kK q x.1++jo (q'::l) x.2)[j - n]? =_;have hl:=(Aw (q:=q) (x:=x.1)).1;split at hl
   ·rename_i e;rw[if_pos e]at hp hge;rw[List.getElem?_append_right (by omega),hl,show j - n - 1=j - (n+1)by omega];exact hp
   ·rename_i e;rw[if_neg e]at hp hge;rw[List.getElem?_append_right (by omega),hl,Nat.sub_zero];exact hp
theorem wP:∀ {l:List (RT X.ι)} {x:mh X l} {n j:Nat} {p:bJ},(jo l x)[j]? =some (some p)->n+j∈pq n l
 |[],x,n,j,p,h=>by simp[jo]at h
 |[q],x,n,j,p,h=>by
  have h:(kK q x)[j]? =some (some p):=h;cases q<;>simp only[kK,List.getElem?_nil,reduceCtorEq]at h
  case mu c=>cases j<;>simp at h<;>simp[pq]
  case mr c=>cases j<;>simp at h<;>simp[pq]
  case mv=>cases j<;>simp at h
 |q::q'::l,x,n,j,p,h=>by
  have h:(kK q x.1++jo (q'::l) x.2)[j]? =some (some p):=h;cases q
  case mu c=>
   cases j with
   |zero=>simp[pq]
   |succ j=>
    have:=wP (l:=q'::l) (x:=x.2) (n:=n+1) (by simpa[kK]using h);simp only[pq,mem_cons];right;rw[show n+(j+1)=n+1+j by omega];exact this
  case mr c=>
   cases j with
   |zero=>simp[pq]
   |succ j=>
    have:=wP (l:=q'::l) (x:=x.2) (n:=n+1) (by simpa[kK]using h);simp only[pq,mem_cons];right;rw[show n+(j+1)=n+1+j by omega];exact this
  case mv=>
   cases j with
   |zero=>simp[kK]at h
   |succ j=>
    have:=wP (l:=q'::l) (x:=x.2) (n:=n+1) (by simpa[kK]using h);simp only[pq];rw[show n+(j+1)=n+1+j by omega];exact this
  all_goals
   simp only[pq];exact wP (l:=q'::l) (x:=x.2) (by simpa[kK]using h)
theorem TB {mus:List Nat} {wl:List (Nat×Nat)} {n:Nat} {q:RT X.ι} {ds:List (DV X)} {p:(RT.T X q×List Bool)×List (DV X)} (h:Ff get bad mus fk wl n q ds=some p) (hb:∀ b∈p.1.2,b=true):∀ len0 c,q= .mu c->lk wl n=some len0->NV q p.1.1=[len0]:=by
 rintro len0 c rfl hl;simp only[Ff]at h;rw[ai]at h;obtain⟨o,h1,h⟩:=h;split at h
 ·rename_i b l0;rw[ai]at h;obtain⟨l,h2,h⟩:=h;rw[hl]at h;injection h with h;subst h;have h5:(sub l 0 len0).length=len0:=by simpa[eqL]using hb (eqL (sub l 0 len0).length len0) (by simp)
  simp only[NV,h5]
 ·cases h
theorem Dz {mus:List Nat} {wl:List (Nat×Nat)}:∀ {n:Nat} {l:List (RT X.ι)} {ds:List (DV X)} {x:mh X l×List Bool},Fg get bad mus fk wl n l ds=some x->(∀ b∈x.2,b=true)->∀ j len0,n+j∈muN n l->lk wl (n+j)=some len0->(QM l x.1).getD j 0=len0
 |n,[],ds,x,h,hb,j,len0,hm,_=>by simp[muN]at hm
 |n,[q],ds,x,h,hb,j,len0,hm,hl=>by
  simp only[Fg]at h;rw[ai]at h;obtain⟨p,h1,h⟩:=h;split at h
  ·injection h with h;subst h;rcases Ay hm with ⟨e,c,rfl⟩ |hm
   ·have e:j=0:=(by omega);subst e;have:=(TB h1 hb) len0 c rfl hl;show (NV _ p.1.1).getD 0 0=len0;rw[this];rfl
   ·simp[muN]at hm
  ·cases h
 |n,q::q'::l,ds,x,h,hb,j,len0,hm,hl=>by
  simp only[Fg]at h;rw[ai]at h;obtain⟨p,h1,h⟩:=h;rw[ai]at h;obtain⟨y,h2,h⟩:=h;injection h with h;subst h;have hlen:=(Aw (q:=q) (x:=p.1.1)).2;rcases Ay hm with ⟨e,c,rfl⟩ |hm
  ·have e:j=0:=(by omega);subst e;have:=(TB h1 (fun b hb'=>hb b (by simp[hb']))) len0 c rfl hl;show (NV _ p.1.1++QM (q'::l) y.1).getD 0 0=len0;rw[this];rfl
  ·have hge:=VO hm;show (NV _ p.1.1++QM (q'::l) y.1).getD j 0=len0;by_cases hq:q.out=true
   ·rw[if_pos hq]at h2 hm hge hlen;have:=Dz h2 (fun b hb'=>hb b (by simp[hb'])) (j - 1) len0 (by rw[show n+1+(j - 1)=n+j by omega];exact hm) (by rw[show n+1+(j - 1)=n+j by omega];exact hl);rw[List.getD_eq_getElem?_getD,List.getElem?_append_right (by omega),hlen,<- List.getD_eq_getElem?_getD];exact this
   ·rw[if_neg hq]at h2 hm hge hlen;have:=Dz h2 (fun b hb'=>hb b (by simp[hb'])) j len0 hm hl;rw[List.getD_eq_getElem?_getD,List.getElem?_append_right (by omega),hlen,Nat.sub_zero,<- List.getD_eq_getElem?_getD];exact this
theorem Ps {mus:List Nat} {wl:List (Nat×Nat)} {ns:List Nat} (hbad:∀ j,j∉bad->fk≠some j∧¬ kept os' j) (hfkk:∀ k,fk=some k->¬ kept os' k) (hns:∀ j len0,j∈mus->lk wl j=some len0->ns.getD j 0=len0) (hmu:∀ j∈mus,kept os' j):∀ {n:Nat} {l:List (RT X.ι)} {ds:List (DV X)} {x:mh X l×List Bool},Fg get bad mus fk wl n l ds=some x->(∀ b∈x.2,b=true)->
 ExpCs (bT get) fk os' (aI ds) (vw ns l x.1)∧∀ j t,(jo l x.1)[j]? =some (some t)->∃ o,get (n+j)=some o∧(aH o).sz=t.1∧ExpRows (bT get) fk os' ((aH o).rows.take t.2.length) t.2
 |n,[],ds,x,h,_=>by
  simp only[Fg]at h;split at h
  ·exact⟨trivial,fun j t ht=>by simp[jo]at ht⟩
  ·cases h
 |n,[q],ds,x,h,hb=>by
  simp only[Fg]at h;rw[ai]at h;obtain⟨p,h1,h⟩:=h;split at h
  ·rename_i hp;injection h with h;subst h;obtain⟨i1,i2,_⟩:=Ma (ns:=ns) hbad hfkk hns hmu h1 hb;rw[hp]at i1;have:=i1 [] trivial;rw[append_nil]at this;refine⟨this,fun j t ht=>?_⟩;have ht:(kK q p.1.1)[j]? =some (some t):=ht;have hl:=(Aw (q:=q) (x:=p.1.1)).1;have hj:=(List.getElem?_eq_some_iff.1 ht).1;have hj0:j=0:=(by split at hl<;>omega);subst hj0;refine i2 t ?_
   match ho:kK q p.1.1,ht,hl with
   |[z],ht,_=>simpa using ht
   |[],ht,_=>simp at ht
   |_::_::_,_,hl=>simp only[length_cons]at hl;split at hl<;>omega
  ·cases h
 |n,q::q'::l,ds,x,h,hb=>by
  simp only[Fg]at h;rw[ai]at h;obtain⟨p,h1,h⟩:=h;rw[ai]at h;obtain⟨y,h2,h⟩:=h;injection h with h;subst h;obtain⟨i1,i2,_⟩:=Ma (ns:=ns) hbad hfkk hns hmu h1 (fun b hb'=>hb b (by simp[hb']));obtain⟨k1,k2⟩:=Ps (ns:=ns) hbad hfkk hns hmu h2 (fun b hb'=>hb b (by simp[hb']));refine⟨i1 _ k1,fun j t ht=>?_⟩;have ht:(kK q p.1.1++jo (q'::l) y.1)[j]? =some (some t):=ht;have hl:=(Aw (q:=q) (x:=p.1.1)).1;by_cases hq:q.out=true
  ·rw[if_pos hq]at k2 hl;cases j with
   |zero=>
    refine i2 t ?_
    match ho:kK q p.1.1,ht,hl with
    |[z],ht,_=>simpa using ht
    |[],_,hl=>simp at hl
    |_::_::_,_,hl=>simp at hl
   |succ j=>
    rw[List.getElem?_append_right (by omega),hl,Nat.add_sub_cancel]at ht;rw[show n+(j+1)=n+1+j by omega];exact k2 j t ht
  ·rw[if_neg hq]at k2 hl;rw[List.getElem?_append_right (by omega),hl,Nat.sub_zero]at ht;exact k2 j t ht
end
theorem ExpCs.R {get:Nat->Option aF} {fk:Option Nat} {os':List (Option bJ)}:∀ {xs:List AV} {cs:List RC},ExpCs get fk os' xs cs->Ye get fk os' xs (match cs with |[c]=> .one c |cs=> .tup cs)
 |[],[],_=>rfl
 |[_],[_],h=>h.1
 |_::_::_,_::_::_,h=>h
 |[],_::_,h=>h.elim
 |_::_,[],h=>h.elim
 |[_],_::_::_,h=>h.2.elim
 |_::_::_,[_],h=>h.2.elim
theorem aaq {s:DSt X} {rs:List ResultVar} {l:List (RT X.ι)} {r:mh X l} (h:(L9 T s rs fun ds=>(Q6 s l ds).bind fun x=>K4 x.2 (some x.1))=some r):∃ xs fk,iW T s.st rs=some xs∧Ye s.st.obj fk (jo l r) xs (mE l r)∧abm s.st.obj fk (jo l r):=by
 obtain⟨ds,h1,h⟩:=wO T h;rw[ai]at h;obtain⟨x,h2,h⟩:=h;obtain⟨h3,h⟩:=j5 h;injection h with h;subst h;unfold Q6 at h2;split at h2
 ·rename_i hnb;have hkn:∀ j,kept (jo l x.1) j->j∈pq 0 l:=fun j ⟨p,hp⟩=>by
   have:=wP (n:=0) hp;simpa using this
  have hbad:∀ j,j∉pq 0 l++(G5 l ds).toList->G5 l ds≠some j∧¬ kept (jo l x.1) j:=by
   intro j hj;simp only[mem_append,Option.mem_toList,not_or]at hj;exact⟨hj.2,fun h=>hj.1 (hkn j h)⟩
  have hfkk:∀ k,G5 l ds=some k->¬ kept (jo l x.1) k:=fun k hk hkk=>yx hnb k (by simp[hk]) (hkn k hkk);have hmu:∀ j∈muN 0 l,kept (jo l x.1) j:=fun j hj=>by
   obtain⟨p,hp⟩:=TA (x:=x.1) hj;exact⟨p,by simpa using hp⟩
  obtain⟨i1,i2⟩:=Ps (ns:=QM l x.1) hbad hfkk (fun j len0 hj hl=>Dz h2 h3 j len0 (by simpa using hj) (by simpa using hl)) hmu h2 h3;have hobj:s.st.obj=bT (lko s.obj):=rfl;refine⟨aI ds,G5 l ds,GZ T h1,?_,fun j p hp=>?_⟩
  ·rw[hobj];exact i1.R
  ·obtain⟨o,g1,g2,g3⟩:=i2 j p hp;rw[Nat.zero_add]at g1;exact⟨fun e=>hfkk j e ⟨p,hp⟩,aH o,by rw[hobj];simp[bT,g1],g2,by rw[hobj];exact g3⟩
 ·cases h2
variable {Γ:FuncId->Option (Sig X)} {code:TypeId->Option (CT X.ι)} {P:Program}
theorem ade (hT : bI P T) (hm : P.follows .mixedOrders = true) (hΓ : GOk P Γ) {f : FuncId} {fn : Func} {c : Code} (hfn : P.funcs[f]? = some fn) (hb : fn.body = some c) (hname : (fn.name == "runtime.NumGoroutine") = false) (sa : List (AT X.ι)) (sr : List (RT X.ι)) (hN : sa.length <= fn.ntmps ∧ kL sa <= 1000 ∧ (sr.filter RT.out).length = kL sa)
 (h:Hn X.ι) (n:Nat) {a:dY X sa} {r:mh X sr} (hr:run Γ T code fn.ntmps n c (mh X sr) h (ini sa a) (adb T fn.results.toList sr)=some r):FnW P f (sw sa a) (kJ sa a) (jo sr r) (mE sr r):=by
 have hl:(jo sr r).length=(kJ sa a).length:=by
  rw[gT,<- hN.2.2];have:∀ (sr:List (RT X.ι)) (r:mh X sr),(jo sr r).length=(sr.filter RT.out).length:=by
   intro sr
   induction sr with
   |nil=>intro r;rfl
   |cons q l ih=>
    intro r;have hq:∀ x:RT.T X q,(kK q x).length=(if q.out then 1 else 0):=fun x=>Aw.1;cases l with
    |nil=>
     show (kK q r).length=_;rw[hq];by_cases e:q.out=true<;>simp[e]
    |cons q' l=>
     show (kK q r.1++jo (q'::l) r.2).length=_;rw[List.length_append,hq,ih r.2];by_cases e:q.out=true<;>simp[List.filter_cons,e];omega
  exact this sr r
 refine Yf hT hfn hb hname (by rw[gQ];exact hN.1) (fun k hk=>?_) (by rw[gT];exact hN.2.1) hl ?_
 ·rw[sw,<- lW,dG]at hk;have:=jO 0 sa a k hk;have:=hN.2.1;omega
 ·rw[<- acI];refine (fD hT hm hΓ c _ h _ _ r (abE sa a hN.2.1) hr).mono ?_;rintro e σ ⟨s',_,_,rfl,g4⟩;cases e<;>first |exact aaq g4 |cases g4
theorem lX {f : FuncId} {fn : Func} {c : Code} (hfn : P.funcs[f]? = some fn) (hb : fn.body = some c) (hname : (fn.name == "runtime.NumGoroutine") = false) : eO P f := ⟨fn, hfn, by rw [hb]; rfl, hname⟩
abbrev COk (P:Program) (f:FuncId) (s:Sig X):Prop:=eO P f∧(∀ a r,s.fn a=some r->FnW P f (sw s.args a) (kJ s.args a) (jo s.res r) (mE s.res r))∧∀ g,s.gen=some g->ZV P f g
theorem cok {P:Program} {f:FuncId} {s:Sig X} (h:eO P f) (h1:∀ a r,s.fn a=some r->FnW P f (sw s.args a) (kJ s.args a) (jo s.res r) (mE s.res r)) (hg:s.gen=none):COk P f s:=⟨h,h1,fun g e=>by rw[hg]at e;cases e⟩
theorem acJ {P:Program} {f:FuncId} {g:GSig X} (h:eO P f) (hg:ZV P f g):COk P f ⟨[],[.d .bool],fun _=>none,some g⟩:=⟨h,fun _ _ e=>(by cases e),fun _ e=>(by injection e with e;subst e;exact hg)⟩
def mrg (s t:Sig X):Sig X:=⟨s.args,s.res,s.fn,t.gen⟩
def gam (l:List (FuncId×Sig X)):FuncId->Option (Sig X):=fun f=>lk l f
theorem ax:GOk P (gam ([]:List (FuncId×Sig X))):=fun _ _ h=>by cases h
theorem aj {f:FuncId} {s:Sig X} {l:List (FuncId×Sig X)} (h:COk P f s) (hl:GOk P (gam l)):GOk P (gam ((f,s)::l)):=by
 intro g q hg;simp only[gam,lk]at hg;split at hg
 ·rename_i e;injection hg with hg;subst hg;subst e;exact h
 ·exact hl g q hg
end
end Go.Gb
