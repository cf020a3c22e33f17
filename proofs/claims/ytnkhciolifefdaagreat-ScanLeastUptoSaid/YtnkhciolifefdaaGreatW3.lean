import Derived.Test.YtnkhciolifefdaaGreatW2
open List (mem_map all_eq_true cons_append length_map append_nil map_map map_congr_left flatten_cons map_nil all_cons map_take map_drop map_append mem_append_right)
namespace Go.Gb
open Go.RowKit
section
variable {X:SX} {A:Type}
theorem Z3:∀(l:U (CT X.ι))(v:VT (X:=X) l),(wm l v).map (·.c)=l
 |[],_=>rfl
 |[_],_=>rfl
 |c::c'::l,v=>by simp only[wm,aH,Z3 (c'::l) v.2]
theorem P6:∀{l:U Tree},(∀ t∈l,t.flat)->pU (l.map AV.t)
 |[],_=>trivial
 |t::l,h=>⟨h t (by simp),P6 (λ u hu=>h u (by simp[hu]))⟩
theorem abB{c:CT X.ι}(h:xG c=true)(x:CT.T X.toSE c):uU (CT.tv X.toSE c x).av:=by
 have hf:=uY h x;cases c
 case st i=>exact P6 hf
 all_goals first |exact hf _ (aR.2 rfl) |cases h
section
variable {ol:Nat->Nat}
mutual
theorem anP:∀(p:Pt X.ι)(L:List (DC X))(cs:List (CT X.ι)),L.map (·.c)=p.vars++cs->p.vars.all xG=true->uU (den (eP ol p L).1)/\(eP ol p L).2.map (·.c)=cs
 | .v c,L,cs,h,hs=>by
  match L,h with
  |d::r,h=>
   simp only[Pt.vars,aH,List.singleton_append,List.cons.injEq]at h;simp only[Pt.vars,all_cons,List.all_nil,Bool.and_true]at hs;exact⟨abB (h.1 ▸ hs) d.x,h.2⟩
  |[],h=>simp[Pt.vars]at h
 | .o k,L,cs,h,_=>⟨trivial,by simpa[Pt.vars,eP]using h⟩
 | .p k,L,cs,h,_=>⟨trivial,by simpa[Pt.vars,eP]using h⟩
 | .mp k,L,cs,h,_=>⟨trivial,by simpa[Pt.vars,eP]using h⟩
 | .oz k,L,cs,h,_=>⟨trivial,by simpa[Pt.vars,eP]using h⟩
 | .nil,L,cs,h,_=>⟨trivial,by simpa[Pt.vars,eP]using h⟩
 | .od k,L,cs,h,_=>by
  match L,h with
  |d::r,h=>
   simp only[Pt.vars,aH,List.singleton_append,List.cons.injEq]at h;exact⟨trivial,h.2⟩
  |[],h=>simp[Pt.vars]at h
 | .f F fs ps,L,cs,h,hs=>by
  simp only[Pt.vars,List.all_append,aN]at hs;simp only[Pt.vars,aO]at h;obtain⟨a1,a2⟩:=CR fs L _ h hs.1;obtain⟨b1,b2⟩:=CR ps _ _ a2 hs.2;exact⟨⟨a1,b1⟩,b2⟩
 | .a ps,L,cs,h,hs=>by
  simp only[Pt.vars]at h hs;exact CR ps L cs h hs
theorem CR:∀(ps:List (Pt X.ι))(L:List (DC X))(cs:List (CT X.ι)),L.map (·.c)=cX ps++cs->(cX ps).all xG=true->pU (bS (lE ol ps L).1)/\(lE ol ps L).2.map (·.c)=cs
 |[],L,cs,h,_=>⟨trivial,by simpa[cX,lE]using h⟩
 |p::ps,L,cs,h,hs=>by
  simp only[cX,List.all_append,aN]at hs;simp only[cX,aO]at h;obtain⟨a1,a2⟩:=anP p L _ h hs.1;obtain⟨b1,b2⟩:=CR ps _ _ a2 hs.2;exact⟨⟨a1,b1⟩,b2⟩
end
mutual
theorem anQ:∀(p:Pt X.ι)(L:List (DC X)),∀j∈bk (eP ol p L).1,j∈p.refs
 | .v c,L,j,h=>by cases L<;>simp[eP,bk]at h
 | .o k,L,j,h=>by simpa[eP,bk,Pt.refs]using h
 | .p k,L,j,h=>by simpa[eP,bk,Pt.refs]using h
 | .mp k,L,j,h=>by simpa[eP,bk,Pt.refs]using h
 | .oz k,L,j,h=>by simpa[eP,bk,Pt.refs]using h
 | .nil,L,j,h=>by simp[eP,bk]at h
 | .od k,L,j,h=>by cases L<;>simp[eP,bk]at h<;>simp[Pt.refs,h]
 | .f F fs ps,L,j,h=>by
  simp only[eP,bk,bn]at h;simp only[Pt.refs,bn];exact h.imp (yR fs _ j) (yR ps _ j)
 | .a ps,L,j,h=>by
  simp only[eP,bk]at h;simp only[Pt.refs];exact yR ps _ j h
theorem yR:∀(ps:List (Pt X.ι))(L:List (DC X)),∀j∈aS (lE ol ps L).1,j∈Bj ps
 |[],L,j,h=>by simp[lE,aS]at h
 |p::ps,L,j,h=>by
  simp only[lE,aS,bn]at h;simp only[Bj,bn];exact h.imp (anQ p _ j) (yR ps _ j)
end
theorem LM:∀(rs:U (List (Pt X.ι)))(L:U (DC X))(cs:U (CT X.ι)),L.map (·.c)=wh rs++cs->(wo ol rs L).2.map (·.c)=cs/\((wh rs).all xG=true->∀r∈(wo ol rs L).1,pU (bS r))
 |[],L,cs,h=>⟨by simpa[wh,wo]using h,by simp[wo]⟩
 |r::rs,L,cs,h=>by
  simp only[wh,aO]at h;have step:(lE ol r L).2.map (·.c)=wh rs++cs:=ua r L _ h;obtain⟨b1,b2⟩:=LM rs _ _ step;refine⟨b1,λhs q hq=>?_⟩;simp only[wh,List.all_append,aN]at hs;simp only[wo,aQ]at hq;rcases hq with rfl |hq
  .exact(CR r L _ h hs.1).1
  .exact b2 hs.2 q hq
where
 ua (ps:U (Pt X.ι)) (L:U (DC X)) (cs:U (CT X.ι)) (h:L.map (·.c)=cX ps++cs):(lE ol ps L).2.map (·.c)=cs:=pC ps L cs h
 DB:∀(p:Pt X.ι)(L:U (DC X))(cs:U (CT X.ι)),L.map (·.c)=p.vars++cs->(eP ol p L).2.map (·.c)=cs
  | .v c,L,cs,h=>by
   match L,h with
   |d::r,h=>simp only[Pt.vars,aH,List.singleton_append,List.cons.injEq]at h;exact h.2
   |[],h=>simp[Pt.vars]at h
  | .o k,L,cs,h=>by simpa[Pt.vars,eP]using h
  | .p k,L,cs,h=>by simpa[Pt.vars,eP]using h
  | .mp k,L,cs,h=>by simpa[Pt.vars,eP]using h
  | .oz k,L,cs,h=>by simpa[Pt.vars,eP]using h
  | .nil,L,cs,h=>by simpa[Pt.vars,eP]using h
  | .od k,L,cs,h=>by
   match L,h with
   |d::r,h=>simp only[Pt.vars,aH,List.singleton_append,List.cons.injEq]at h;exact h.2
   |[],h=>simp[Pt.vars]at h
  | .f F fs ps,L,cs,h=>by
   simp only[Pt.vars,aO]at h;exact pC ps _ _ (pC fs L _ h)
  | .a ps,L,cs,h=>by
   simp only[Pt.vars]at h;exact pC ps L cs h
 pC:∀(ps:U (Pt X.ι))(L:U (DC X))(cs:U (CT X.ι)),L.map (·.c)=cX ps++cs->(lE ol ps L).2.map (·.c)=cs
  |[],L,cs,h=>by simpa[cX,lE]using h
  |p::ps,L,cs,h=>by
   simp only[cX,aO]at h;exact pC ps _ _ (DB p L _ h)
theorem V5:∀(rs:U (List (Pt X.ι)))(L:U (DC X)),∀j∈((wo ol rs L).1.map aS).flatten,j∈rs.flatMap Bj
 |[],L,j,h=>by simp[wo]at h
 |r::rs,L,j,h=>by
  simp only[wo,aH,flatten_cons,bn]at h;simp only[List.flatMap_cons,bn];exact h.imp (yR r _ j) (V5 rs _ j)
theorem yS:∀(O:U (Nat×OP X.ι))(L:U (DC X)),((dM (dG ol O L)).map (·.1)).Sublist (O.map (·.1))/\(∀ p∈dM (dG ol O L),∃op,(p.1,op)∈O/\∀j∈ek p.2,j∈op.refs)/\
 (L.map (·.c)=cR O->(O.all λq=>match q.2 with | .l c=>xG c | .m _ _=>false | .c _ rows=>(wh rows).all xG)=true->∀p∈dM (dG ol O L),∀r∈(bI p.2).rows,pU r)
 |[],L=>⟨by simp[dG,dM],by simp[dG,dM],by simp[dG,dM]⟩
 |(k,.l c)::O,L=>by
  match L with
  |[]=>exact⟨by simp[dG,dM],by simp[dG,dM],by simp[dG,dM]⟩
  |⟨.sl c',x⟩::L=>
   have⟨h1,h2,h3⟩:=yS O L;refine⟨?_,?_,?_⟩
   .simp only[dG,dM,aH];exact h1.cons_cons _
   .intro p hp;simp only[dG,dM,aQ]at hp;rcases hp with rfl |hp
    .exact⟨.l c,by simp,by simp[ek]⟩
    .have⟨op,g1,g2⟩:=h2 p hp;exact⟨op,eX _ g1,g2⟩
   .intro hL hs p hp r hr;simp only[aH,cR,List.cons.injEq]at hL;simp only[all_cons,aN]at hs;simp only[dG,dM,aQ]at hp;rcases hp with rfl |hp
    .obtain⟨e,_⟩:=hL;injection e with e;simp only[bI,aK,mem_map]at hr;obtain⟨q,⟨y,hy,rfl⟩,rfl⟩:=hr;exact P6 (uY (e ▸ hs.1) y)
    .exact h3 hL.2 hs.2 p hp r hr
  |⟨.int _,x⟩::L=>exact⟨by simp[dG,dM],by simp[dG,dM],by simp[dG,dM]⟩
  |⟨.bool,x⟩::L=>exact⟨by simp[dG,dM],by simp[dG,dM],by simp[dG,dM]⟩
  |⟨.str,x⟩::L=>exact⟨by simp[dG,dM],by simp[dG,dM],by simp[dG,dM]⟩
  |⟨.any,x⟩::L=>exact⟨by simp[dG,dM],by simp[dG,dM],by simp[dG,dM]⟩
  |⟨.mp _ _,x⟩::L=>exact⟨by simp[dG,dM],by simp[dG,dM],by simp[dG,dM]⟩
  |⟨.st _,x⟩::L=>exact⟨by simp[dG,dM],by simp[dG,dM],by simp[dG,dM]⟩
 |(k,.m kc vc)::O,L=>by
  match L with
  |[]=>exact⟨by simp[dG,dM],by simp[dG,dM],by simp[dG,dM]⟩
  |⟨.mp t6 tM,x⟩::L=>
   have⟨h1,h2,h3⟩:=yS O L;refine⟨?_,?_,?_⟩
   .simp only[dG,dM,aH];exact h1.cons_cons _
   .intro p hp;simp only[dG,dM,aQ]at hp;rcases hp with rfl |hp
    .exact⟨.m kc vc,by simp,by simp[ek]⟩
    .have⟨op,g1,g2⟩:=h2 p hp;exact⟨op,eX _ g1,g2⟩
   .intro hL hs;simp at hs
  |⟨.sl _,x⟩::L=>exact⟨by simp[dG,dM],by simp[dG,dM],by simp[dG,dM]⟩
  |⟨.int _,x⟩::L=>exact⟨by simp[dG,dM],by simp[dG,dM],by simp[dG,dM]⟩
  |⟨.bool,x⟩::L=>exact⟨by simp[dG,dM],by simp[dG,dM],by simp[dG,dM]⟩
  |⟨.str,x⟩::L=>exact⟨by simp[dG,dM],by simp[dG,dM],by simp[dG,dM]⟩
  |⟨.any,x⟩::L=>exact⟨by simp[dG,dM],by simp[dG,dM],by simp[dG,dM]⟩
  |⟨.st _,x⟩::L=>exact⟨by simp[dG,dM],by simp[dG,dM],by simp[dG,dM]⟩
 |(k,.c sz rows)::O,L=>by
  have⟨h1,h2,h3⟩:=yS O (wo ol rows L).2;refine⟨?_,?_,?_⟩
  .simp only[dG,dM,aH];exact h1.cons_cons _
  .intro p hp;simp only[dG,dM,aQ]at hp;rcases hp with rfl |hp
   .exact⟨.c sz rows,by simp,λj hj=>V5 rows L j hj⟩
   .have⟨op,g1,g2⟩:=h2 p hp;exact⟨op,eX _ g1,g2⟩
  .intro hL hs p hp r hr;simp only[cR]at hL;simp only[all_cons,aN]at hs;obtain⟨e1,e2⟩:=LM (ol:=ol) rows L _ hL;simp only[dG,dM,aQ]at hp;rcases hp with rfl |hp
   .simp only[bI,mem_map]at hr;obtain⟨q,hq,rfl⟩:=hr;exact e2 hs.1 q hq
   .exact h3 e1 hs.2 p hp r hr
end
theorem P7(k:Nat):∀os:U (Nat×bm X),ot (tq os) k=(tA os k).map bI
 |[]=>rfl
 |(j,o)::r=>by
  simp only[tq,aH,ot,tA];split
  .rfl
  .exact P7 k r
theorem V6(f:Nat->Nat)(c:CT X.ι)(x:CT.T X.toSE c):gc f (CT.tv X.toSE c x).av=(CT.tv X.toSE c x).av:=(Af f (.c c x)).symm
theorem adL(f:Nat->Nat)(o:bm X):bI (pc f o)=Kw f (bI o):=by
 cases o with
 |cells sz rows=>simp only[pc,bI,Kw,map_map];congr 1;exact map_congr_left λr _=>CP f r
 |ep c l=>simp only[pc,bI,Kw,aK,map_map];congr 1;exact map_congr_left λr _=>(agv f _).symm
 |map kc vc l=>simp only[pc,bI,Kw,map_map];congr 1;exact map_congr_left λr _=>by simp only[Function.comp_apply,zN,V6]
theorem ajL(i:Nat)(ae:U Nat)(os:U (Nat×bm X)):iC (Pl i ae os)=ym i ae (tq os):=by
 simp only[Pl,ym,sj];congr 1
 .simp only[iC,map_map];refine map_congr_left λp _=>?_;simp only[Function.comp_apply,P7,Option.map_map];congr 1;cases tA os p.2<;>simp[adL]
 .simp only[iC,tq,List.filter_map,map_map];refine map_congr_left λq _=>?_;simp[adL]
theorem V7{ds:U (DV X)}:(∀ j∈refs (den (yP ds)),j∈aS ds)/\(pU (bS ds)->uU (den (yP ds))):=by
 match ds with
 |[]=>exact⟨λ j hj=>by simp[yP,den,bS,refs,fe]at hj,λ_=>by simp only[yP,den,uU];exact trivial⟩
 |[d]=>exact⟨λ j hj=>by simp only[yP,iO]at hj;simpa[aS]using hj,λh=>h.1⟩
 |d::e::r=>exact⟨λ j hj=>by simp only[yP,den,refs,gZ]at hj;exact hj,λh=>h⟩
theorem Z9:∀xs:U (Nat×bm X),dM (xs.map λp=>(p.1,some p.2))=xs
 |[]=>rfl
 |p::xs=>by simp only[aH,dM,Z9 xs]
theorem abC{P:Program}{g:dg X}{F:FuncId}(hg:GG P F g){i:Nat}{first args caps:U (DV X)}{get:Nat->J (bm X)}{k:KK X A}{r:A}(h:agx g i (first++args++caps) get k=some r):
 ∃cL rd wr dv upd ab,kg P i (den (.fn F first caps)) (bS args) cL (dO rd (fB get))=some ab/\jq ab.obs/\ab.v=den dv/\ab.upd=iC upd/\(∀ p∈upd,p.1=cT i\/p.1∈wr)/\k dv upd rd wr=some r:=by
 unfold agx at h;rw[ai]at h;obtain⟨m1,h1,h⟩:=h;rw[ai]at h;obtain⟨m,h2,h⟩:=h;have⟨h3,h⟩:=eH h;rw[ai]at h;obtain⟨v,h4,h⟩:=h;have⟨h5,h⟩:=pV h;rw[ai]at h;obtain⟨rr,h6,h⟩:=h;simp only[aN]at h3;obtain⟨hok,Bm⟩:=h3;simp only at h;generalize kO:(List.range g.jt.length).map (qS m)=ae at h Bm;simp only[dg.ok,aN,aW]at hok;obtain⟨⟨⟨⟨n1,n2⟩,n3⟩,n4⟩,n5⟩:=hok;simp only[okG,aN,aW]at Bm;obtain⟨⟨hnd,hnm⟩,A5⟩:=Bm;have hlen:ae.length=g.jt.length:=by rw[<- kO];simp
 have hi:∀q∈m.nm,ae[q.2]? =some q.1:=by
  intro q hq;have:=all_eq_true.1 hnm q hq;split at this
  .rename_i k' e;rw[e,Nat.eq_of_beq_eq_true this]
  .cases this
 have hv:∀k∈m.vr,k∉ae:=λk hk=>by
  have:=all_eq_true.1 A5 k hk;simpa using this
 have hrd:∀k,(∃ q,(k,q)∈m.nm)\/k∈m.vr->k∈ae++m.vr:=by
  rintro k (⟨q,hq⟩ |hk)
  .exact List.mem_append_left _ (dD (hi _ hq))
  .exact mem_append_right _ hk
 have hm2:=(mh _ _ _ h2).1;have vy:=VK h4;obtain⟨_,nA,dA,lA⟩:=wB _ _ _ _ h1;simp only[bT]at dA;obtain⟨nB,dB,lB⟩:=El (NM:=m.nm) _ _ _ h2 (λ q hq=>hq);have hL:m.eR=nA++nB:=by rw[dB,dA]
 have hdrop:(wm _ v).drop (cX g.pP).length=nB:=by rw[vy,hL,<- lA,List.drop_left]
 have htake:(wm _ v).take (cX g.pP).length=nA:=by rw[vy,hL,<- lA,List.take_left]
 have ho:∀q∈m.nm,∀c l,get q.1=some (.ep c l)->Eh g.jt nB q.2=l.length:=by
  rintro⟨p,q⟩ hq c l hl;have hq2:=hi _ hq;have hqn:q<g.jt.length:=by rw[<- hlen];exact(dJ.1 hq2).1
  obtain⟨p',o,g1,g2,g3⟩:=lB [] q (by rw[n1];exact List.mem_range.2 hqn);have:p'=p:=by
   have e1:=hi _ g1;rw[hq2]at e1;injection e1 with e1;exact e1.symm
  subst this;simp only at hl;rw[hl]at g2;injection g2 with g2;have h3:=g3 c l g2.symm;rw[append_nil]at h3;have hk:=(Em g.jt nB).nodup (by rw[n1];exact List.nodup_range);simp only[Eh,uW hk h3,Option.getD_some]
 obtain⟨RK,IT,ds',eA,⟨hs,obs,pA,qA⟩,rA⟩:=yF (P:=P) (ae:=ae) (rd:=ae++m.vr) (NM:=m.nm) (p5:=m.vr) (ec:=Eh g.jt nB) hi hv hrd ho _ _ _ _ h1 (λ q hq=>hm2.1 q hq) (λ c hc=>h5 c (hm2.2.1 c hc)) (λ q hq=>hm2.2.2 q hq);obtain⟨RE,V1,xs,eB,bs,mo,pB,qB,rB⟩:=Ag (P:=P) (ae:=ae) (rd:=ae++m.vr) (NM:=m.nm) (p5:=m.vr) (ec:=Eh g.jt nB) hi hv hrd ho _ _ _ h2 (λ q hq=>hq) h5 (λ q hq=>hq);have VM:RK=nA:=by simp only[bT]at IT;rw[<- IT,dA]
 have VC:RE=nB:=List.append_cancel_left (V1.symm.trans dB);subst VM VC;have IR:=eA [];have IP:=eB [];rw[append_nil]at IR IP;have hargs:g.args v=ds':=by simp only[dg.args,VN,hdrop,htake,IR]
 have tx:g.cQ v=xs:=by simp only[dg.cQ,LO,hdrop,IP,Z9]
 have S5:(g.jt.map λp=>(ae[p.1]?).getD 0)=ae:=by
  have:(g.jt.map λp=>(ae[p.1]?).getD 0)=(g.jt.map (·.1)).map λj=>(ae[j]?).getD 0:=by rw[map_map];rfl
  rw[this,n1];refine List.ext_getElem (by simp[hlen]) λj a b=>?_;simp[dU b]
 rw[S5]at qB rB;have qA0:=qA [];rw[append_nil,iE,iE]at qA0;have hcon:=hg v rr h6;rw[hargs,tx]at hcon;obtain⟨s1,s2,s3⟩:=yS (ol:=Eh g.jp ((wm (ir (lO 0 g.fX)++cR g.jp) rr).drop (cX g.fX).length)) g.jp ((wm _ rr).drop (cX g.fX).length);have AW:∀k,HB g.jt.length k=true->Ax ae.length k:=by
  intro k hk;simp only[HB,Bool.or_eq_true,aN,Nat.blt_eq,Nat.ble_eq]at hk;simp only[Ax,hlen];exact hk
 have good:ZK ae.length (tq (g.outs rr)) (den (g.res rr)):=by
  refine⟨?_,?_,?_,?_⟩
  .intro q hq;simp only[tq,mem_map]at hq;obtain⟨p,hp,rfl⟩:=hq;have⟨op,g1,_⟩:=s2 p hp;have:=all_eq_true.1 n3 _ g1;simp only[aN]at this;exact AW _ this.1
  .have:(tq (g.outs rr)).map (·.1)=(g.outs rr).map (·.1):=(by simp[tq]);rw[this];exact s1.nodup n4
  .intro q hq r' hr' j hj;simp only[tq,mem_map]at hq;obtain⟨p,hp,rfl⟩:=hq;have⟨op,g1,g2⟩:=s2 p hp;have:=all_eq_true.1 n3 _ g1;simp only[aN]at this;refine AW _ (all_eq_true.1 this.2 j (g2 j ?_));obtain⟨pk,po⟩:=p;cases po with
   |cells sz rows=>exact Ns (List.mem_flatMap.2 ⟨r',hr',hj⟩)
   |ep c l=>
    simp only[bI,aK,mem_map]at hr';obtain⟨z,_,rfl⟩:=hr';rw[abA]at hj;simp at hj
   |map kc vc l=>
    simp only[bI,mem_map]at hr';obtain⟨z,_,rfl⟩:=hr';simp only[fe,Ad,append_nil]at hj;simp at hj
  .intro j hj;have:=(V7 (ds:=VN g.fX g.jp (wm _ rr))).1 j hj;exact AW _ (all_eq_true.1 n5 j (yR g.fX _ j this))
 have flat:g.flat=true->np (tq (g.outs rr)) (den (g.res rr)):=by
  intro hf;simp only[dg.flat,aN]at hf;have hc:(wm (ir (lO 0 g.fX)++cR g.jp) rr).map (·.c)=cX g.fX++cR g.jp:=(Z3 _ rr).trans (by rw[PY]);refine⟨(V7 (ds:=VN g.fX g.jp (wm _ rr))).2 ?_,?_⟩
  .refine(CR (ol:=_) g.fX _ [] ?_ hf.1).1;rw[append_nil,map_take,hc,List.take_left]
  .intro q hq r' hr';simp only[tq,mem_map]at hq;obtain⟨p,hp,rfl⟩:=hq;exact s3 (by rw[map_drop,hc,List.drop_left]) hf.2 p hp r' hr'
 have c9:Vl (dO (ae++m.vr) (fB get)) (bS first++bS args++bS caps) ae m.vr bs:=by
  refine⟨hv,λj hj hn=>?_,λj hs' q o e1 e2 e3 z hz hn=>?_⟩
  .rw[<- iE,<- iE,gZ]at hj;rcases rA j hj with ⟨q,hq⟩ |hj
   .exact absurd (dD (hi _ hq)) hn
   .exact hj
  .rcases rB j hs' q o e1 e2 e3 z hz with ⟨q',hq⟩ |hz
   .exact absurd (dD (hi _ hq)) hn
   .exact hz
 refine⟨.tE ae m.vr bs hs (tq (g.outs rr)) (den (g.res rr)) g.flat,ae++m.vr,_,_,_,
  ⟨gc (cn i ae) (den (g.res rr)),ym i ae (tq (g.outs rr))++(if g.flat then []else m.vr.map λk=>(k,none)),obs++mo++[yr P F (bS ds') (xs.map λp=>bI p.2) (tq (g.outs rr)) (den (g.res rr)),ZK ae.length (tq (g.outs rr)) (den (g.res rr)),Vl (dO (ae++m.vr) (fB get)) (bS first++bS args++bS caps) ae m.vr bs]++(if g.flat then [np (tq (g.outs rr)) (den (g.res rr))]else [])⟩,?_,?_,(Af _ _).symm,?_,?_,h⟩
 .simp only[den,kg,M4,qB,qA0,af];rw[aZ ⟨hnd,by omega⟩]
 .refine q8 _ (gQ (gQ (gQ pA pB) ?_) ?_)
  .intro z hz;simp only[aQ,gG,or_false]at hz;rcases hz with rfl |rfl |rfl
   .exact hcon
   .exact good
   .exact c9
  .intro z hz;cases hf:g.flat with
   |true=>rw[hf]at hz;simp only[if_true,aR]at hz;subst hz;exact flat hf
   |false=>rw[hf]at hz;simp at hz
 .simp only[sj,ajL];congr 1;cases g.flat with
  |true=>rfl
  |false=>exact(CJ m.vr).symm
 .intro p hp;refine .inr ?_;rcases bn.1 hp with hp |hp
  .exact List.mem_append_left _ (mem_append_right _ (mem_map.2 ⟨p,hp,rfl⟩))
  .cases hf:g.flat with
   |true=>rw[hf]at hp;simp at hp
   |false=>
    rw[hf]at hp;simp only[Bool.false_eq_true,if_false,mem_map]at hp;obtain⟨z,hz,rfl⟩:=hp;exact mem_append_right _ hz
end
section
variable {X:SX} {A:Type}
def V8:RT X.ι->Bool
 | .d c=>xG c
 | .fresh e=>xG e
 | .whole _=>true
 | .mu c=>xG c
 | .mr c=>xG c
 | .mv=>true
theorem adM{c:CT X.ι}(h:xG c=true)(x:CT.T X.toSE c):(CT.tv X.toSE c x).flat:=by
 cases c
 case st i=>exact uY h x
 all_goals first |exact trivial |cases h
theorem V9{ns:U Nat}{q:RT X.ι}{x:RT.T X q}(h:V8 q=true):∀c∈VO ns q x,c.flat:=by
 intro c hc;cases q<;>simp only[VO,aR,gG]at hc
 case d c=>subst hc;exact adM h x
 case fresh e=>
  subst hc;intro row hr;obtain⟨y,_,rfl⟩:=mem_map.1 hr;exact uY h y
 case whole j=>subst hc;exact trivial
theorem RO{ns:U Nat}:∀{l:U (RT X.ι)}{x:sQ X l},l.all V8=true->∀c∈Bh ns l x,c.flat
 |[],x,_,c,hc=>by simp[Bh]at hc
 |[q],x,h,c,hc=>V9 (by simpa using h) c hc
 |q::q'::l,x,h,c,hc=>by
  simp only[all_cons,aN]at h;simp only[Bh,bn]at hc;rcases hc with hc |hc
  .exact V9 h.1 c hc
  .exact RO (by simp only[all_cons,aN];exact h.2) c hc
theorem Wh{l:U (RT X.ι)}(x:sQ X l)(h:l.all V8=true):(tu l x).flat:=by
 have:=RO (ns:=yf l x) (x:=x) h;unfold tu;split
 .rename_i c hc;exact this c (by rw[hc];simp)
 .exact this
theorem aac{q:RT X.ι}{x:RT.T X q}(h:V8 q=true):U7 (qw q x):=by
 intro p hp;cases q<;>simp only[qw,aR,gG,aC,reduceCtorEq]at hp
 case mu c=>
  subst hp;intro r hr;obtain⟨y,_,rfl⟩:=mem_map.1 hr;exact uY h y
 case mr c=>
  subst hp;intro r hr;obtain⟨y,_,rfl⟩:=mem_map.1 hr;exact uY h y
theorem aad:∀{l:U (RT X.ι)}{x:sQ X l},l.all V8=true->U7 (nW l x)
 |[],x,_=>λp hp=>by simp[nW]at hp
 |[q],x,h=>aac (q:=q) (by simpa using h)
 |q::q'::l,x,h=>by
  simp only[all_cons,aN]at h;intro p hp;rcases bn.1 (show some p∈qw q x.1++nW (q'::l) x.2 from hp)with hp |hp
  .exact aac h.1 p hp
  .exact aad (l:=q'::l) (by simp only[all_cons,aN];exact h.2) p hp
def Ig(i:Nat)(ae ns:U Nat):(q:RT X.ι)->RT.T X q->U (DV X)×List (Nat×Option (bm X))
 | .d c,x=>([.c c x],[])
 | .fresh e,l=>([.own (cT i) 0 l.length],[(cT i,some (.ep e l))])
 | .whole j,_=>([match ae[j]? with |some k=> .own k 0 (ns.getD j 0) |none=> .undef],[])
 |_,_=>([],[])
def Le(i:Nat)(ae ns:U Nat):(l:U (RT X.ι))->sQ X l->J (List (DV X)×List (Nat×Option (bm X)))
 |[],_=>some ([],[])
 |[q],x=>some (Ig i ae ns q x)
 |q::q'::l,x=>(Le i ae ns (q'::l) x.2).bind λp=>if (Ig i ae ns q x.1).2.isEmpty || p.2.isEmpty then some ((Ig i ae ns q x.1).1++p.1,(Ig i ae ns q x.1).2++p.2)else none
def ap5:U (DV X)->DV X
 |[d]=>d
 |ds=> .eV ds
def GE(i:Nat)(ae:U Nat)(l:U (RT X.ι))(x:sQ X l):J (DV X×List (Nat×Option (bm X))):=
 (Le i ae (yf l x) l x).bind λp=>some (ap5 p.1,p.2)
theorem abD(u:U (Nat×Option (bm X))):(iC u).isEmpty=u.isEmpty:=by cases u<;>rfl
theorem aae(i:Nat)(ae ns:U Nat)(q:RT X.ι)(x:RT.T X q):(∃ c,VO ns q x=[c]/\∃d,(Ig i ae ns q x).1=[d]/\Kv i ae c=(den d,iC (Ig i ae ns q x).2))\/(VO ns q x=[]/\Ig i ae ns q x=([],[])):=by
 cases q
 case d c=>exact .inl ⟨_,rfl,_,rfl,rfl⟩
 case fresh e=>exact .inl ⟨_,rfl,_,rfl,by simp[Kv,Ig,den,iC,bI,aK]⟩
 case whole j=>
  refine .inl ⟨_,rfl,_,rfl,?_⟩;simp only[Kv,iC,Ig,map_nil,Prod.mk.injEq,and_true];cases ae[j]?<;>rfl
 all_goals exact .inr ⟨rfl,rfl⟩
theorem adN(i:Nat)(ae:U Nat)(c:RC):MR i ae [c]=some ([(Kv i ae c).1],(Kv i ae c).2):=by simp[MR]
theorem aaf(i:Nat)(ae ns:U Nat):∀(l:U (RT X.ι))(x:sQ X l)(p:U (DV X)×List (Nat×Option (bm X))),Le i ae ns l x=some p->MR i ae (Bh ns l x)=some (bS p.1,iC p.2)
 |[],_,p,h=>by simp only[Le,aC]at h;subst h;rfl
 |[q],x,p,h=>by
  simp only[Le,aC]at h;subst h;simp only[Bh];rcases aae i ae ns q x with ⟨c,h1,d,h2,h3⟩ |⟨h1,h2⟩
  .rw[h1,adN,h2,h3];simp[bS]
  .rw[h1,h2];rfl
 |q::q'::l,x,p,h=>by
  simp only[Le]at h;rw[ai]at h;obtain⟨p',h1,h⟩:=h;have ih:=aaf i ae ns (q'::l) x.2 p' h1;split at h
  .rename_i hc;cases h;simp only[Bh];rcases aae i ae ns q x.1 with ⟨c,h1,d,h2,h3⟩ |⟨h1,h2⟩
   .rw[h1];simp only[List.singleton_append,MR,ih,af,h3,abD];rw[aZ hc,h2];simp[bS,iC]
   .rw[h1,h2];simp only[bT];exact ih
  .cases h
theorem adO{i:Nat}{ae:U Nat}{l:U (RT X.ι)}{x:sQ X l}{p:DV X×List (Nat×Option (bm X))}(h:GE i ae l x=some p):imp i ae (tu l x)=some (den p.1,iC p.2):=by
 unfold GE at h;rw[ai]at h;obtain⟨p',h1,h⟩:=h;cases h;have ih:=aaf i ae _ l x p' h1;unfold tu;split
 .rename_i c hc;rw[hc,adN]at ih;simp only[aC,Prod.mk.injEq]at ih;obtain⟨ds,u⟩:=p'
  match ds,ih with
  |[d],ih=>
   simp only[bS,List.cons.injEq,and_true]at ih;simp only[imp,ap5,<- ih.1,<- ih.2]
  |[],ih=>simp[bS]at ih
  |_::_::_,ih=>simp[bS]at ih
 .rename_i hne;simp only[imp,ih,af];obtain⟨ds,u⟩:=p'
  match ds,ih with
  |[],_=>rfl
  |_::_::_,_=>rfl
  |[d],ih=>
   exfalso;generalize hcs:Bh (yf l x) l x=cs at ih hne
   match cs,ih,hne with
   |[],ih,_=>simp[MR,bS]at ih
   |[c],_,hne=>exact hne c rfl
   |c::c'::cs,ih,_=>
    simp only[MR]at ih;cases h3:MR i ae cs with
    |none=>rw[h3]at ih;simp at ih
    |some q=>
     rw[h3]at ih;simp only[af]at ih;split at ih
     .simp only[af]at ih;split at ih
      .simp[bS]at ih
      .cases ih
     .simp at ih
def Nd:(q:RT X.ι)->RT.T X q->U (Option (bm X))
 | .mu c,x=>[some (.ep c x)]
 | .mr c,x=>[some (.cells (CT.sz X c) [uX c x])]
 | .mv,_=>[none]
 |_,_=>[]
def Wi:(l:U (RT X.ι))->sQ X l->U (Option (bm X))
 |[],_=>[]
 |[q],x=>Nd q x
 |q::q'::l,x=>Nd q x.1++Wi (q'::l) x.2
def Ih:U Nat->U (Option (bm X))->U (Nat×Option (bm X))
 |k::ae,p::os=>(k,p)::Ih ae os
 |_,_=>[]
theorem adP(q:RT X.ι)(x:RT.T X q):(Nd q x).map (·.map bI)=(qw q x).map (·.map ia):=by
 cases q<;>try rfl
 case mr c=>simp only[Nd,qw,aH,map_nil,Option.map_some,bI,ia,rO,aK,pu]
theorem P8:∀(l:U (RT X.ι))(x:sQ X l),(Wi l x).map (·.map bI)=(nW l x).map (·.map ia)
 |[],_=>rfl
 |[q],x=>adP q x
 |q::q'::l,x=>by simp only[Wi,nW,map_append,adP,P8 (q'::l) x.2]
theorem aag:∀(ae:U Nat)(os:U (Option (bm X)))(os':U (Option fw)),os.map (·.map bI)=os'.map (·.map ia)->iC (Ih ae os)=Ba ae os'
 |[],_,_,_=>by simp[Ih,Ba,iC]
 |_::_,[],[],_=>rfl
 |k::ae,p::os,p'::os',h=>by
  simp only[aH,List.cons.injEq]at h;have:=aag ae os os' h.2;simp only[iC]at this;simp only[Ih,Ba,iC,aH,h.1,this]
 |_::_,[],_::_,h=>by simp at h
 |_::_,_::_,[],h=>by simp at h
theorem LP:∀{ae:U Nat}{os:U (Option (bm X))}{p:Nat×Option (bm X)},p∈Ih ae os->p.1∈ae
 |[],_,_,h=>by simp[Ih]at h
 |_::_,[],_,h=>by simp[Ih]at h
 |k::ae,q::os,p,h=>by
  simp only[Ih,aQ]at h;rcases h with rfl |h
  .simp
  .exact eX _ (LP h)
def abE(get:Nat->J (bm X))(d:DV X)(c:CT X.ι):J (List (CT.T X.toSE c)×Nat×List Bool):=
 match d with
 | .own k 0 len=>(get k).bind λo=>match o with
  | .ep b l=>(jA (.sl b) (.sl c) l).bind λ(l:List (CT.T X.toSE c))=>some (l,k,[aE len (List.length l)])
  |_=>none
 |_=>none
def Wj(get:Nat->J (bm X))(d:DV X)(c:CT X.ι):J (CT.T X.toSE c×Nat):=
 match d with
 | .ptr k 0 0=>(get k).bind λo=>match o with
  | .cells sz [row]=>if sz=CT.sz X c then(H9 c row).bind λx=>some (x,k)else none
  |_=>none
 |_=>none
def pz(Γ:FuncId->J (cp X))(get:Nat->J (bm X)):U (DV X)->(l:U (AT X.ι))->J (iH X l×List Nat×List Bool)
 |[],[]=>some ((),[],[])
 |d::ds,.mut c::l=>(abE get d c).bind λx=>(pz Γ get ds l).bind λh=>some ((x.1,h.1),x.2.1::h.2.1,x.2.2++h.2.2)
 |d::ds,.js c::l=>(Wj get d c).bind λx=>(pz Γ get ds l).bind λh=>some ((x.1,h.1),x.2::h.2.1,h.2.2)
 |d::ds,.d c::l=>(RJ Γ get 3 [d] [.d c]).bind λx=>(pz Γ get ds l).bind λh=>some ((x.1.1,h.1),h.2.1,x.2++h.2.2)
 |d::ds,.ref c::l=>(RJ Γ get 3 [d] [.ref c]).bind λx=>(pz Γ get ds l).bind λh=>some ((x.1.1,h.1),h.2.1,x.2++h.2.2)
 |d::ds,.eo as r::l=>(RJ Γ get 3 [d] [.eo as r]).bind λx=>(pz Γ get ds l).bind λh=>some ((x.1.1,h.1),h.2.1,x.2++h.2.2)
 |d::ds,.nil::l=>match d with
  | .nil=>(pz Γ get ds l).bind λh=>some (((),h.1),h.2.1,h.2.2)
  |_=>none
 |_,_=>none
def JX:U (DV X)->U (AT X.ι)->U Nat
 |d::ds,a::l=>(if a.im then []else bk d)++JX ds l
 |_,_=>[]
def P9(get:Nat->J (bm X)):U (DV X)->(l:U (CT X.ι))->J (HL X.toSE l×List Bool)
 |[],[]=>some ((),[])
 |d::ds,c::l=>(FP get d c).bind λx=>(P9 get ds l).bind λh=>some ((x.1,h.1),x.2++h.2)
 |_,_=>none
variable (Γ:FuncId->Option (cp X))
def Ys(i:Nat)(f:DV X)(args:U (DV X))(get:Nat->J (bm X))(k:KK X A):J A:=
 match f with
 | .fn F first caps=>(Γ F).bind λs=>match s.gen.filter λg=>(sm get g.pP (first++args++caps) ⟨[],[],[],[]⟩).isSome with
  |some g=>agx g i (first++args++caps) get k
  |none=>if (s.args.all (λ q=>q.pl)&&s.res.all (λ q=>!q.out))=true then(RJ Γ get 3 (first++args++caps) s.args).bind λa=>Vz a.2 ((s.fn a.1).bind λx=>(GE i [] s.res x).bind λp=>
   if s.res.all V8 then k p.1 p.2 (aS (first++args++caps)) []
   else k p.1 (p.2++Nl (aS (first++args++caps))) (aS (first++args++caps)) (aS (first++args++caps)))
  else(pz Γ get (first++args++caps) s.args).bind λa=>Vz a.2.2 ((s.fn a.1).bind λx=>(GE i a.2.1 s.res x).bind λp=>
   if (decide a.2.1.Nodup&&(JX (first++args++caps) s.args).all (λ j=>!a.2.1.contains j)&&decide ((Wi s.res x).length=a.2.1.length))=true then
    if s.res.all V8 then k p.1 (p.2++Ih a.2.1 (Wi s.res x)) (aS (first++args++caps)) a.2.1
    else k p.1 (p.2++(Ih a.2.1 (Wi s.res x)++Nl ((aS (first++args++caps)).filter λj=>!a.2.1.contains j))) (aS (first++args++caps)) (a.2.1++(aS (first++args++caps)).filter λj=>!a.2.1.contains j)
   else none)
 | .eo as q φ=>(P9 get args as).bind λh=>Vz h.2 ((φ h.1).bind λy=>
  if xG q then k (.c q y) [] (aS args) []else k (.c q y) (Nl (aS args)) (aS args) (aS args))
 |_=>none
def DM(fz:U Nat)(T:er)(am:TypeId->J (CT X.ι))(i:Nat)(o:Op)(ρ:Operand->DV X)(get:Nat->J (bm X))(k:KK X A):J A:=
 match o with
 | .call { callee:= .value f,args:=args,argTypes:=_ }=>Ys Γ i (ρ f) (args.toList.map ρ) get k
 |o=>if ap2 o ρ then Wc T am i o ρ get k else if ap3 o ρ || fz.contains i then Wa T am i o ρ get k else if ap4 T o ρ then V2 T am o ρ get k else L7 T am i o ρ get k
variable {Γ}
theorem Nt{P:Program}{get:Nat->J (bm X)}{rd:U Nat}:∀{ds:U (DV X)}{l:U (CT X.ι)}{h:HL X.toSE l×List Bool},P9 get ds l=some h->(∀ b∈h.2,b=true)->(∀ j∈aS ds,j∈rd)->
 ∃hs obs,(∀ p∈obs,p)/\∀ag,mI P (dO rd (fB get)) (bS ds) (hs++ag)=some ((HL.oc X.toSE l h.1).map TV.av,ag,obs)
 |[],[],h,_,_,_=>⟨[],[],by simp,λag=>rfl⟩
 |d::ds,c::l,h,hr,hc,hrd=>by
  simp only[P9]at hr;have⟨x,h1,hr⟩:=ai.1 hr;have⟨g,h2,hr⟩:=ai.1 hr;cases hr;obtain⟨hs1,o1,p1,q1⟩:=Ae (P:=P) (rd:=rd) h1 (λ b hb=>hc b (by simp[hb])) (λ j hj=>hrd j (by simp[aS,hj]));obtain⟨hs2,o2,p2,q2⟩:=Nt (P:=P) (rd:=rd) h2 (λ b hb=>hc b (by simp[hb])) (λ j hj=>hrd j (by simp[aS,hj]));refine⟨hs1++hs2,o1++o2,gQ p1 p2,λag=>?_⟩;simp only[bS,mI,aO,q1,af,q2];rfl
 |[],_::_,_,hr,_,_=>by simp[P9]at hr
 |_::_,[],_,hr,_,_=>by simp[P9]at hr
theorem Wl{i:Nat}{ae ns:U Nat}{q:RT X.ι}{x:RT.T X q}:∀p∈(Ig i ae ns q x).2,p.1=cT i:=by cases q<;>simp[Ig]
theorem Wm{i:Nat}{ae ns:U Nat}:∀{l:U (RT X.ι)}{x:sQ X l}{p:U (DV X)×List (Nat×Option (bm X))},Le i ae ns l x=some p->∀q∈p.2,q.1=cT i
 |[],_,p,h=>by simp only[Le,aC]at h;subst h;simp
 |[q],x,p,h=>by simp only[Le,aC]at h;subst h;exact Wl
 |q::q'::l,x,p,h=>by
  simp only[Le]at h;have⟨p',h1,h⟩:=ai.1 h;split at h
  .cases h;intro z hz;rcases bn.1 hz with hz |hz
   .exact Wl z hz
   .exact Wm h1 z hz
  .cases h
theorem aah{i:Nat}{ae:U Nat}{l:U (RT X.ι)}{x:sQ X l}{p:DV X×List (Nat×Option (bm X))}(h:GE i ae l x=some p):∀q∈p.2,q.1=cT i:=by
 unfold GE at h;have⟨p',h1,h⟩:=ai.1 h;cases h;exact Wm h1
theorem Ii{P:Program}{get:Nat->J aU}{x:AV}{hs ag:U LH}{y:AV}{o:U Prop}(h:mI P get [x] hs=some ([y],ag,o)):nU P get x hs=some (y,ag,o):=by
 simp only[mI,af,append_nil,ai,aC,Prod.mk.injEq,List.cons.injEq,and_true]at h;obtain⟨q,h1,h2,h3,h4⟩:=h;rw[h1,<- h2,<- h3,<- h4]
theorem lC{d:DV X}{ds:U (DV X)}{a:AT X.ι}{l:U (AT X.ι)}{P:Nat->Prop}(h:∀j∈JX (d::ds) (a::l),P j):(a.im=false->∀j∈bk d,P j)/\∀j∈JX ds l,P j:=by
 simp only[JX,bn]at h;exact⟨λ e j hj=>h j (.inl (by rw[e];simpa using hj)),λj hj=>h j (.inr hj)⟩
theorem apn{c:CT X.ι}{l:U (CT.T X.toSE c)}:eu ((aK (l.map (CT.row X.toSE c))).take (l.map (CT.row X.toSE c)).length)=aK (l.map (CT.row X.toSE c)):=by
 rw[List.take_of_length_le (by simp[aK])];simp only[eu,aK,map_map];exact map_congr_left λy _=>by
  simp only[Function.comp,map_map];exact map_congr_left λz _=>rfl
theorem YO{get:Nat->J (bm X)}{d:DV X}{c:CT X.ι}{x:U (CT.T X.toSE c)×Nat×List Bool}(h:abE get d c=some x)(hc:∀b∈x.2.2,b=true):
 d= .own x.2.1 0 (List.length x.1)/\∃o,get x.2.1=some o/\(bI o).sz=(rO c x.1).1/\eu ((bI o).rows.take (rO c x.1).2.length)=aK (rO c x.1).2:=by
 unfold abE at h;split at h
 .rename_i k len;rw[ai]at h;obtain⟨o,h1,h⟩:=h;split at h
  .rename_i b l;rw[ai]at h;obtain⟨l',h2,h⟩:=h;cases h;have⟨h3,h4⟩:=jf h2;have h5:len=List.length l':=(by simpa[aE]using hc (aE len (List.length l')) (by simp));refine⟨by rw[h5],.ep b l,h1,by simp only[bI,rO];exact h3,?_⟩;simp only[bI,rO,h4];exact apn
  .cases h
 .cases h
theorem Wn{get:Nat->J (bm X)}{d:DV X}{c:CT X.ι}{x:CT.T X.toSE c×Nat}(h:Wj get d c=some x):
 d= .ptr x.2 0 0/\∃o,get x.2=some o/\(bI o).sz=(rO c [x.1]).1/\eu ((bI o).rows.take (rO c [x.1]).2.length)=aK (rO c [x.1]).2:=by
 unfold Wj at h;split at h
 .rename_i k;rw[ai]at h;obtain⟨o,h1,h⟩:=h;split at h
  .rename_i sz row;split at h
   .rename_i hsz;have⟨y,h2,h⟩:=ai.1 h;cases h;refine⟨rfl,_,h1,by simp only[bI,rO];exact hsz,?_⟩;simp only[bI,rO,aH,map_nil,List.length_singleton,List.take_succ_cons,List.take_zero,eu,aK];rw[yD h2]
   .cases h
  .cases h
 .cases h
theorem nH{P:Program}{Γ:FuncId->J (cp X)}(hΓ:sE P Γ){get:Nat->J (bm X)}{rd ae:U Nat}:∀{n:Nat}{ds:U (DV X)}{l:U (AT X.ι)}{a:iH X l×List Nat×List Bool},pz Γ get ds l=some a->(∀ b∈a.2.2,b=true)->(∀ j∈aS ds,j∈rd)->(∀ j∈JX ds l,j∉ae)->ae.drop n=a.2.1->
 (∃ hs obs,(∀ p∈obs,p)/\∀ag,l9 P (dO rd (fB get)) ae (bS ds) (hs++ag)=some (dV n l a.1,ag,obs))/\∃mo,A9 (dO rd (fB get)) a.2.1 (qp l a.1)=some mo/\∀p∈mo,p
 |n,[],[],a,h,_,_,_,_=>by
  simp only[pz,aC]at h;subst h;exact⟨⟨[],[],by simp,λag=>rfl⟩,[],rfl,by simp⟩
 |n,d::ds,.mut c::l,a,h,hc,hrd,hnr,hid=>by
  simp only[pz]at h;have⟨x,h1,h⟩:=ai.1 h;have⟨q,h2,h⟩:=ai.1 h;cases h;obtain⟨rfl,o,g1,g2,g3⟩:=YO h1 (λ b hb=>hc b (by simp[hb]));have B4:ae[n]? =some x.2.1:=by rw[<- List.head?_drop,hid];rfl
  have B5:ae.drop (n+1)=q.2.1:=by rw[<- List.tail_drop,hid];rfl
  obtain⟨⟨hs,obs,p1,p2⟩,mo,m1,m2⟩:=nH hΓ (n:=n+1) h2 (λ b hb=>hc b (by simp[hb])) (λ j hj=>hrd j (by simp[aS,hj])) (lC hnr).2 B5;refine⟨⟨.mut n::hs,obs,p1,λag=>?_⟩,((bI o).sz=(rO c x.1).1/\eu ((bI o).rows.take (rO c x.1).2.length)=aK (rO c x.1).2)::mo,?_,?_⟩
  .simp only[bS,den,l9,cons_append,o9,B4,if_true,af,p2,dV,bT]
  .simp only[qp,A9,eU (hrd x.2.1 (by simp[aS,bk])) g1,af,m1]
  .intro p hp;rcases aQ.1 hp with rfl |hp
   .exact⟨g2,g3⟩
   .exact m2 p hp
 |n,d::ds,.js c::l,a,h,hc,hrd,hnr,hid=>by
  simp only[pz]at h;have⟨x,h1,h⟩:=ai.1 h;have⟨q,h2,h⟩:=ai.1 h;cases h;obtain⟨rfl,o,g1,g2,g3⟩:=Wn h1;have B4:ae[n]? =some x.2:=by rw[<- List.head?_drop,hid];rfl
  have B5:ae.drop (n+1)=q.2.1:=by rw[<- List.tail_drop,hid];rfl
  obtain⟨⟨hs,obs,p1,p2⟩,mo,m1,m2⟩:=nH hΓ (n:=n+1) h2 (λ b hb=>hc b (by simp[hb])) (λ j hj=>hrd j (by simp[aS,hj])) (lC hnr).2 B5;refine⟨⟨.mut n::hs,obs,p1,λag=>?_⟩,((bI o).sz=(rO c [x.1]).1/\eu ((bI o).rows.take (rO c [x.1]).2.length)=aK (rO c [x.1]).2)::mo,?_,?_⟩
  .simp only[bS,den,l9,cons_append,o9,B4,if_true,af,p2,dV,bT]
  .simp only[qp,A9,eU (hrd x.2 (by simp[aS,bk])) g1,af,m1]
  .intro p hp;rcases aQ.1 hp with rfl |hp
   .exact⟨g2,g3⟩
   .exact m2 p hp
 |n,d::ds,.d c::l,a,h,hc,hrd,hnr,hid=>by
  simp only[pz]at h;have⟨x,h1,h⟩:=ai.1 h;have⟨q,h2,h⟩:=ai.1 h;cases h;obtain⟨hs1,o1,p1,q1⟩:=rZ (P:=P) hΓ 3 (n:=n) h1 (λ b hb=>hc b (by simp[hb])) (rd:=rd) (λ j hj=>hrd j (by simp only[aS,append_nil]at hj;simp[aS,hj]));obtain⟨⟨hs,obs,p2,q2⟩,mo,m1,m2⟩:=nH hΓ (n:=n) h2 (λ b hb=>hc b (by simp[hb])) (λ j hj=>hrd j (by simp[aS,hj])) (lC hnr).2 hid;refine⟨⟨YN (den d) hs1++hs,o1++obs,gQ p1 p2,λag=>?_⟩,mo,m1,m2⟩;have:=yE (Ii (q1 (hs++ag))) (λ k hk=>(lC hnr).1 rfl k (by rwa [iO]at hk));rw[Nq]at this;simp only[bS,l9,aO,this,af,q2,dV]
 |n,d::ds,.ref c::l,a,h,hc,hrd,hnr,hid=>by
  simp only[pz]at h;have⟨x,h1,h⟩:=ai.1 h;have⟨q,h2,h⟩:=ai.1 h;cases h;obtain⟨hs1,o1,p1,q1⟩:=rZ (P:=P) hΓ 3 (n:=n) h1 (λ b hb=>hc b (by simp[hb])) (rd:=rd) (λ j hj=>hrd j (by simp only[aS,append_nil]at hj;simp[aS,hj]));obtain⟨⟨hs,obs,p2,q2⟩,mo,m1,m2⟩:=nH hΓ (n:=n) h2 (λ b hb=>hc b (by simp[hb])) (λ j hj=>hrd j (by simp[aS,hj])) (lC hnr).2 hid;refine⟨⟨YN (den d) hs1++hs,o1++obs,gQ p1 p2,λag=>?_⟩,mo,m1,m2⟩;have:=yE (Ii (q1 (hs++ag))) (λ k hk=>(lC hnr).1 rfl k (by rwa [iO]at hk));rw[Nq]at this;simp only[bS,l9,aO,this,af,q2,dV]
 |n,d::ds,.eo as r::l,a,h,hc,hrd,hnr,hid=>by
  simp only[pz]at h;have⟨x,h1,h⟩:=ai.1 h;have⟨q,h2,h⟩:=ai.1 h;cases h;obtain⟨hs1,o1,p1,q1⟩:=rZ (P:=P) hΓ 3 (n:=n) h1 (λ b hb=>hc b (by simp[hb])) (rd:=rd) (λ j hj=>hrd j (by simp only[aS,append_nil]at hj;simp[aS,hj]));obtain⟨⟨hs,obs,p2,q2⟩,mo,m1,m2⟩:=nH hΓ (n:=n) h2 (λ b hb=>hc b (by simp[hb])) (λ j hj=>hrd j (by simp[aS,hj])) (lC hnr).2 hid;refine⟨⟨YN (den d) hs1++hs,o1++obs,gQ p1 p2,λag=>?_⟩,mo,m1,m2⟩;have:=yE (Ii (q1 (hs++ag))) (λ k hk=>(lC hnr).1 rfl k (by rwa [iO]at hk));rw[Nq]at this;simp only[bS,l9,aO,this,af,q2,dV]
 |n,d::ds,.nil::l,a,h,hc,hrd,hnr,hid=>by
  simp only[pz]at h;split at h
  .have⟨q,h2,h⟩:=ai.1 h;cases h;obtain⟨⟨hs,obs,p2,q2⟩,mo,m1,m2⟩:=nH hΓ (n:=n) h2 hc (λ j hj=>hrd j (by simp[aS,hj])) (lC hnr).2 hid;refine⟨⟨.nil::hs,obs,p2,λag=>?_⟩,mo,m1,m2⟩;have:=yE (P:=P) (get':=dO rd (fB get)) (ae:=ae) (x:= .dc) (hs:= .nil::(hs++ag)) (p:=(.dc,hs++ag,[])) rfl (λ k hk=>by simp[refs]at hk);simp only[YN]at this;simp only[bS,den,l9,cons_append,this,af,q2,dV,bT]
  .cases h
 |_,[],_::_,_,h,_,_,_,_=>by simp[pz]at h
 |_,_::_,[],_,h,_,_,_,_=>by simp[pz]at h
theorem adQ{P:Program}(hΓ:sE P Γ){i:Nat}{f:DV X}{args:U (DV X)}{get:Nat->J (bm X)}{k:KK X A}{r:A}(h:Ys Γ i f args get k=some r):
 ∃cL rd wr dv upd ab,kg P i (den f) (bS args) cL (dO rd (fB get))=some ab/\jq ab.obs/\ab.v=den dv/\ab.upd=iC upd/\(∀ p∈upd,p.1=cT i\/p.1∈wr)/\k dv upd rd wr=some r:=by
 unfold Ys at h;split at h
 .rename_i F first caps
  rw[ai]at h;obtain⟨s,h1,h⟩:=h;split at h
  .rename_i g hgen;exact abC ((hΓ F s h1).2.2 g (Option.filter_eq_some_iff.1 hgen).1) h
  split at h
  .rename_i hpure;rw[ai]at h;obtain⟨⟨a,cs⟩,h2,h⟩:=h;have⟨hcs,h⟩:=pV h;rw[ai]at h;obtain⟨x,h3,h⟩:=h;rw[ai]at h;obtain⟨p,h4,h⟩:=h;have hf0:=(hΓ F s h1).2.1 a x h3;simp only[aN]at hpure;rw[wz (apY hpure.1),adz hpure.2]at hf0;have hf:=Nb hf0;have hi:=adO h4;have hk:=aah h4;obtain⟨hs,obs,g1,g2⟩:=rZ (P:=P) hΓ 3 h2 hcs (rd:=aS (first++args++caps)) (λ j hj=>hj);have g3:=g2 [];rw[append_nil,iE,iE]at g3;have hrefs:fe (bS first++bS args++bS caps)=aS (first++args++caps):=(by rw[<- iE,<- iE,gZ]);split at h
   .rename_i hfl;refine⟨.call hs (tu s.res x) true,_,[],p.1,p.2,⟨den p.1,iC p.2,obs++[ri P F (wu s.args a) (tu s.res x),(tu s.res x).flat]⟩,?_,?_,rfl,rfl,λq hq=> .inl (hk q hq),h⟩
    .simp only[den,kg,pq,xI,hi,af,g3];rfl
    .exact q8 _ (gQ g1 (by
      intro q hq;simp only[aQ,gG,or_false]at hq;rcases hq with rfl |rfl
      .exact hf
      .exact Wh x hfl))
   .refine⟨.call hs (tu s.res x) false,_,_,p.1,_,⟨den p.1,iC p.2++(aS (first++args++caps)).map (λ k=>(k,none)),obs++[ri P F (wu s.args a) (tu s.res x)]⟩,?_,?_,rfl,?_,?_,h⟩
    .simp only[den,kg,pq,xI,hi,af,g3,hrefs];rfl
    .exact q8 _ (gQ g1 (by
      intro q hq;simp only[aR]at hq;subst hq;exact hf))
    .simp only[sj,CJ]
    .intro q hq;rcases bn.1 hq with hq |hq
     .exact .inl (hk q hq)
     .exact .inr (JV hq)
  .rename_i hpure;rw[ai]at h;obtain⟨⟨a,ae,cs⟩,h2,h⟩:=h;have⟨hcs,h⟩:=pV h;rw[ai]at h;obtain⟨x,h3,h⟩:=h;rw[ai]at h;obtain⟨p,h4,h⟩:=h;split at h
   .rename_i hc;simp only[aN,aW]at hc;obtain⟨⟨hnd,hnr⟩,hlen⟩:=hc;have hf:=(hΓ F s h1).2.1 a x h3;have hi:=adO h4;have hk:=aah h4;obtain⟨⟨hs,obs,g1,g2⟩,mo,m1,m2⟩:=nH (P:=P) hΓ (rd:=aS (first++args++caps)) (ae:=ae) (n:=0) h2 hcs (λ j hj=>hj) (λ j hj=>by simpa using all_eq_true.1 hnr j hj) rfl;have g3:=g2 [];rw[append_nil,iE,iE]at g3;have hrefs:fe (bS first++bS args++bS caps)=aS (first++args++caps):=(by rw[<- iE,<- iE,gZ]);have hlen':(nW s.res x).length=ae.length:=by
     rw[<- hlen];simpa using (congrArg List.length (P8 s.res x)).symm
    have hout:iC (Ih ae (Wi s.res x))=Ba ae (nW s.res x):=aag _ _ _ (P8 s.res x);split at h
    .rename_i hfl;refine⟨.tD ae (qp s.args a) (nW s.res x) hs (tu s.res x) true,_,ae,p.1,_,⟨den p.1,iC p.2++Ba ae (nW s.res x),obs++mo++[qt P F (wu s.args a) (qp s.args a) (nW s.res x) (tu s.res x),(tu s.res x).flat,U7 (nW s.res x)]⟩,?_,?_,rfl,?_,?_,h⟩
     .simp only[den,kg,pq,Hy,hi,af,m1,g3];rw[aZ ⟨hnd,hlen'⟩];rfl
     .refine q8 _ (gQ (gQ g1 m2) ?_);intro q hq;simp only[aQ,gG,or_false]at hq;rcases hq with rfl |rfl |rfl
      .exact hf
      .exact Wh x hfl
      .exact aad hfl
     .simp only[sj,hout]
     .intro q hq;rcases bn.1 hq with hq |hq
      .exact .inl (hk q hq)
      .exact .inr (LP hq)
    .refine⟨.tD ae (qp s.args a) (nW s.res x) hs (tu s.res x) false,_,_,p.1,_,⟨den p.1,iC p.2++(Ba ae (nW s.res x)++((aS (first++args++caps)).filter λj=>!ae.contains j).map (λ k=>(k,none))),obs++mo++[qt P F (wu s.args a) (qp s.args a) (nW s.res x) (tu s.res x)]⟩,?_,?_,rfl,?_,?_,h⟩
     .simp only[den,kg,pq,Hy,hi,af,m1,g3,Hw,hrefs];rw[aZ ⟨hnd,hlen'⟩];rfl
     .refine q8 _ (gQ (gQ g1 m2) ?_);intro q hq;simp only[aR]at hq;subst hq;exact hf
     .simp only[sj,hout,CJ]
     .intro q hq;rcases bn.1 hq with hq |hq
      .exact .inl (hk q hq)
      .rcases bn.1 hq with hq |hq
       .exact .inr (List.mem_append_left _ (LP hq))
       .exact .inr (mem_append_right _ (JV hq))
   .cases h
 .rename_i as q φ;rw[ai]at h;obtain⟨⟨hh,cs⟩,h1,h⟩:=h;have⟨hcs,h⟩:=pV h;rw[ai]at h;obtain⟨y,h2,h⟩:=h;obtain⟨hs,obs,g1,g2⟩:=Nt (P:=P) h1 hcs (rd:=aS args) (λ j hj=>hj);have g3:=g2 [];rw[append_nil]at g3;have hφ:∃h' x',φ h'=some x'/\HL.oc X.toSE as hh=HL.oc X.toSE as h'/\CT.tv X.toSE q y=CT.tv X.toSE q x':=⟨hh,y,h2,rfl,rfl⟩;split at h
  .rename_i hfl;refine⟨.DE hs (HL.oc X.toSE as hh) (CT.tv X.toSE q y) true,_,[],.c q y,[],⟨(CT.tv X.toSE q y).av,[],obs++[(HL.oc X.toSE as hh).map TV.av=(HL.oc X.toSE as hh).map TV.av,(∃ h' x',φ h'=some x'/\HL.oc X.toSE as hh=HL.oc X.toSE as h'/\CT.tv X.toSE q y=CT.tv X.toSE q x'),(CT.tv X.toSE q y).flat]⟩,?_,?_,rfl,rfl,by simp,h⟩
   .simp only[den,kg,pq,xI,g3,af];rfl
   .exact q8 _ (gQ g1 (by
     intro z hz;simp only[aQ,gG,or_false]at hz;rcases hz with rfl |rfl |rfl
     .trivial
     .exact hφ
     .exact adM hfl y))
  .refine⟨.DE hs (HL.oc X.toSE as hh) (CT.tv X.toSE q y) false,_,_,.c q y,_,⟨(CT.tv X.toSE q y).av,(aS args).map (λ k=>(k,none)),obs++[(HL.oc X.toSE as hh).map TV.av=(HL.oc X.toSE as hh).map TV.av,(∃ h' x',φ h'=some x'/\HL.oc X.toSE as hh=HL.oc X.toSE as h'/\CT.tv X.toSE q y=CT.tv X.toSE q x')]⟩,?_,?_,rfl,(CJ _).symm,λz hz=> .inr (JV hz),h⟩
   .simp only[den,kg,pq,xI,g3,af,gZ];rfl
   .exact q8 _ (gQ g1 (by
     intro z hz;simp only[aQ,gG,or_false]at hz;rcases hz with rfl |rfl
     .trivial
     .exact hφ))
 .cases h
theorem agA{P:Program}(hΓ:sE P Γ){fz:U Nat}{T:er}{am:TypeId->J (CT X.ι)}{i:Nat}{o:Oper}{ρ:Operand->DV X}{get:Nat->J (bm X)}{k:KK X A}{r:A}(h:DM Γ fz T am i o.op ρ get k=some r):en P T i o ρ get k r:=by
 obtain⟨dst,op,ty,ao,after,guard⟩:=o;unfold DM at h;simp only at h;split at h
 .rename_i f args c7;have:=adQ hΓ h;simp only[<- Uv]at this;obtain⟨cL,rd,wr,dv,upd,ab,g1,g2⟩:=this;exact .call g1 g2
 .split at h
  .exact ags (o:=⟨dst,op,ty,ao,after,guard⟩) h
  .split at h
   .exact agt (o:=⟨dst,op,ty,ao,after,guard⟩) h
   .split at h
    .exact agu (o:=⟨dst,op,ty,ao,after,guard⟩) h
    .rename_i hne _ _ _;have⟨cL,rd,wr,dv,upd,ab,g1,g2⟩:=ZW (o:=⟨dst,op,ty,ao,after,guard⟩) h;exact en.op (λ f args c7 e=>hne f args c7 e) g1 g2
end
def lL(x y:AV):Prop:=∀P β w I v,VR P β w I x v->VR P β w I y v
theorem lL.refl(x:AV):lL x x:=λ_ _ _ _ _ h=>h
theorem lL.undef(x:AV):lL x .undef:=λ_ _ _ _ _ _=>by simp[VR]
theorem lL.wk(x:AV):lL x (wk x):=λ_ _ _ _ _ h=>h.wk
section
variable {P:Program} {w0:World} {O0:kx} {N:Nat} {β:Nat->Option cV} {I:Nat->Prop} {a:Act} {w:World} {f g:Nat->Nat} {D:Nat->Prop}
mutual
theorem VR.rn(hgf:∀k,D k->g (f k)=k):∀(x:AV)(v:Value),(∀ k∈refs x,D k)->VR P β w I x v->VR P (λ j=>β (g j)) w I (gc f x) v
 | .own k aa len,v,hd,h=>by simp only[gc,VR,hgf k (hd k (by simp[refs]))]at h ⊢;exact h
 | .ptr k row aa,v,hd,h=>by simp only[gc,VR,hgf k (hd k (by simp[refs]))]at h ⊢;exact h
 | .agg cs,v,hd,h=>by
  simp only[gc,VR]at h ⊢;obtain⟨vs,h1,h2⟩:=h;exact⟨vs,h1,bj.rn hgf cs _ (by simpa[refs]using hd) h2⟩
 | .eV cs,v,hd,h=>by
  simp only[gc,VR]at h ⊢;obtain⟨vs,h1,h2⟩:=h;exact⟨vs,h1,bj.rn hgf cs _ (by simpa[refs]using hd) h2⟩
 | .fn F first caps,v,hd,h=>by
  simp only[gc,VR]at h ⊢;obtain⟨fs,cs,h1,h2,h3⟩:=h;exact⟨fs,cs,h1,bj.rn hgf first _ (λ k hk=>hd k (by simp[refs,hk])) h2,bj.rn hgf caps _ (λ k hk=>hd k (by simp[refs,hk])) h3⟩
 | .t x,v,_,h=>by simpa[gc,VR]using h
 | .eM r o,v,_,h=>by simpa[gc,VR]using h
 | .eo φ,v,_,h=>by simpa[gc,VR]using h
 | .mp k,v,hd,h=>by simp only[gc,VR,hgf k (hd k (by simp[refs]))]at h ⊢;exact h
 | .oz k len,v,hd,h=>by simp only[gc,VR,hgf k (hd k (by simp[refs]))]at h ⊢;exact h
 | .dc,v,_,h=>by simpa[gc,VR]using h
 | .ub,v,_,h=>by simpa[gc,VR]using h
 | .undef,v,_,h=>by simp[gc,VR]
theorem bj.rn(hgf:∀k,D k->g (f k)=k):∀(xs:List AV)(vs:List Value),(∀ k∈fe xs,D k)->bj P β w I xs vs->bj P (λ j=>β (g j)) w I (zN f xs) vs
 |[],[],_,_=>by simp[zN,bj]
 |x::xs,v::vs,hd,h=>by
  simp only[bj]at h;simp only[zN,bj];exact⟨VR.rn hgf x v (λ k hk=>hd k (by simp[fe,hk])) h.1,bj.rn hgf xs vs (λ k hk=>hd k (by simp[fe,hk])) h.2⟩
 |[],_::_,_,h=>by simp[bj]at h
 |_::_,[],_,h=>by simp[bj]at h
end
def m7(D:Nat->Prop)(f:Nat->Nat):U AV->U AV->Prop
 |[],[]=>True
 |x::xs,y::ys=>((∀ k∈refs x,D k)/\lL (gc f x) y)/\m7 D f xs ys
 |_,_=>False
def i6(D:Nat->Prop)(f:Nat->Nat):U (List AV)->U (List AV)->Prop
 |[],[]=>True
 |r::rs,q::qs=>m7 D f r q/\i6 D f rs qs
 |_,_=>False
theorem m7.length:∀{r q:U AV},m7 D f r q->q.length=r.length
 |[],[],_=>rfl
 |_::xs,_::ys,h=>by simp[m7.length h.2]
 |[],_::_,h=>h.elim
 |_::_,[],h=>h.elim
theorem de.re(hgf:∀k,D k->g (f k)=k):∀{r q:U AV}{c:Array Value}{aa:Nat},m7 D f r q->de P β w I r c aa->de P (λ j=>β (g j)) w I q c aa
 |[],[],_,_,_,_=>trivial
 |x::xs,y::ys,c,aa,hr,⟨⟨v,h1,h2,h3⟩,h4⟩=>⟨⟨v,h1,hr.1.2 _ _ _ _ _ (VR.rn hgf x v hr.1.1 h2),h3⟩,de.re hgf hr.2 h4⟩
 |[],_::_,_,_,h,_=>h.elim
 |_::_,[],_,_,h,_=>h.elim
theorem bp.re(hgf:∀k,D k->g (f k)=k):∀{rs qs:U (List AV)}{c:Array Value}{aa sz:Nat},i6 D f rs qs->bp P β w I rs c aa sz->bp P (λ j=>β (g j)) w I qs c aa sz
 |[],[],_,_,_,_,_=>trivial
 |r::rs,q::qs,c,aa,sz,hr,⟨h1,h2,h3⟩=>⟨by rw[hr.1.length];exact h1,de.re hgf hr.1 h2,bp.re hgf hr.2 h3⟩
 |[],_::_,_,_,_,h,_=>h.elim
 |_::_,[],_,_,_,h,_=>h.elim
theorem bj.re(hgf:∀k,D k->g (f k)=k):∀{r q:U AV}{vs:U Value},m7 D f r q->bj P β w I r vs->bj P (λ j=>β (g j)) w I q vs
 |[],[],[],_,_=>by simp[bj]
 |x::xs,y::ys,v::vs,hr,h=>by
  simp only[bj]at h ⊢;exact⟨hr.1.2 _ _ _ _ _ (VR.rn hgf x v hr.1.1 h.1),bj.re hgf hr.2 h.2⟩
 |[],_::_,_,h,_=>h.elim
 |_::_,[],_,h,_=>h.elim
 |[],[],_::_,_,h=>by simp[bj]at h
 |_::_,_::_,[],_,h=>by simp[bj]at h
theorem cH.re(hgf:∀k,D k->g (f k)=k):∀{rs qs:U (List AV)}{es:U MapEntry},i6 D f rs qs->cH P β w I rs es->cH P (λ j=>β (g j)) w I qs es
 |[],[],[],_,_=>trivial
 |r::rs,q::qs,_::es,hr,⟨h1,h2⟩=>⟨bj.re hgf hr.1 h1,cH.re hgf hr.2 h2⟩
 |[],_::_,_,h,_=>h.elim
 |_::_,[],_,h,_=>h.elim
 |[],[],_::_,_,h=>h.elim
 |_::_,_::_,[],_,h=>h.elim
theorem i6.length:∀{rs qs:U (List AV)},i6 D f rs qs->qs.length=rs.length
 |[],[],_=>rfl
 |_::xs,_::ys,h=>by simp[i6.length h.2]
 |[],_::_,h=>h.elim
 |_::_,[],h=>h.elim
theorem Rel.re{s s':St}(hgf:∀k,D k->g (f k)=k)(hg:∀j,j<1000->g j=j)(hr:Rel P w0 O0 N β I s a w)(hok:∀t,s.ok t=none\/s'.env t= .undef)(hok':∀t,s'.ok t=none)
 (hE:∀t,s'.env t= .undef\/((∀ k∈refs (s.env t),D k)/\lL (gc f (s.env t)) (s'.env t)))
 (hO:∀j o',s'.obj j=some o'->∃k o,s.obj k=some o/\D k/\f k=j/\o'.sz=o.sz/\i6 D f o.rows o'.rows):Rel P w0 O0 N (λ j=>β (g j)) I s' a w:=by
 refine⟨hr.defers,hr.size,λt=>?_,?_⟩
 .have h1:=hr.env t;rw[hok' t];rcases hok t with hk |h
  rotate_left
  .rw[h];simp[fg,VR]
  rw[hk]at h1;rcases hE t with h |⟨h2,h3⟩
  .rw[h];simp[fg,VR]
  .exact h3 _ _ _ _ _ (VR.rn hgf _ _ h2 h1)
 .have hm:=hr.mem;constructor
  .intro j o' hj;obtain⟨k,o,h1,h2,rfl,h4,h5⟩:=hO j o' hj;have⟨B,hB,sB⟩:=hm.cQ k o h1;refine⟨B,by simp only[hgf k h2];exact hB,?_⟩;cases B with
   |none=>
    simp only[OR]at sB ⊢;rw[sB]at h5;cases ho:o'.rows with
    |nil=>rfl
    |cons=>rw[ho]at h5;exact h5.elim
   | «at» b sz n=>
    obtain⟨g1,c,e,g2,g3,g4⟩:=sB;exact⟨by rw[g1,h4],c,e,g2,g3,bp.re hgf h5 g4⟩
   |mp b=>
    obtain⟨es,cl,g1,gl,g2,g3⟩:=sB;have hl:=h5.length;exact⟨es,cl,g1,by omega,λe=>cH.re hgf h5 (g2 (by omega)),g3⟩
  .intro j j' o o' B B' b h1 h2 h3 h4 h5 h6;obtain⟨k,q,i1,i2,rfl,_⟩:=hO j o h1;obtain⟨k',q',i1',i2',rfl,_⟩:=hO j' o' h2;simp only[hgf k i2,hgf k' i2']at h3 h4;rw[hm.gE k k' q q' B B' b i1 i1' h3 h4 h5 h6]
  .intro j o B b h1 h2;obtain⟨k,q,i1,i2,rfl,_⟩:=hO j o h1;simp only[hgf k i2]at h2;exact hm.ownB k q B b i1 h2
  .exact hm.lt
  .exact hm.up
  .exact hm.keep
  .exact hm.le
  .exact hm.os
  .exact hm.tape
  .exact hm.output
  .intro j B hj;show β (g j)=some B;rw[hg j (O0.lt j B hj)];exact hm.anch j B hj
  .exact hm.vars
end
section
variable {X:SX}
theorem adR{D:Nat->Prop}(f:Nat->Nat):∀r:U (DV X),(∀ k∈aS r,D k)->m7 D f (bS r) (bS (Kz f r))
 |[],_=>trivial
 |x::xs,h=>⟨⟨λ k hk=>h k (by rw[iO]at hk;simp[aS,hk]),by rw[Af];exact lL.refl _⟩,adR f xs λk hk=>h k (by simp[aS,hk])⟩
theorem JY{D:Nat->Prop}(f:Nat->Nat)(o:bm X)(h:∀k∈ek o,D k):(bI (pc f o)).sz=(bI o).sz/\i6 D f (bI o).rows (bI (pc f o)).rows:=by
 cases o with
 |cells sz rows=>
  refine⟨rfl,?_⟩;simp only[bI,pc,map_map];simp only[ek]at h
  induction rows with
  |nil=>trivial
  |cons r rs ih=>
   refine⟨adR f r λk hk=>h k (by simp[hk]),ih λk hk=>h k ?_⟩;simp only[aH,flatten_cons,bn];exact .inr hk
 |ep c l=>
  refine⟨rfl,?_⟩;simp only[bI,pc];generalize l.map (CT.row X.toSE c)=rows;have hrow:∀r:U Tree,m7 D f (r.map AV.t) (r.map AV.t):=by
   intro r
   induction r with
   |nil=>trivial
   |cons y ys ih=>exact⟨⟨by simp[refs],lL.refl _⟩,ih⟩
  induction rows with
  |nil=>trivial
  |cons r rs ih=>exact⟨hrow r,ih⟩
 |map kc vc l=>
  refine⟨rfl,?_⟩;simp only[bI,pc];clear h
  induction l with
  |nil=>trivial
  |cons p ps ih=>exact⟨⟨⟨by simp[Ad],by rw[V6];exact lL.refl _⟩,⟨by simp[Ad],by rw[V6];exact lL.refl _⟩,trivial⟩,ih⟩
structure Low(s:d5 X):Prop where
 le:s.nx<=1000000
 ge:1000<=s.nx
 env:∀t,∀k∈bk (fi s.env t),k<s.nx
 obj:∀k o,hZ s.obj k=some o->k<s.nx/\∀j∈ek o,j<s.nx
theorem Wo{o:bm X}{r:U AV}{x:AV}(hr:r∈(bI o).rows)(hx:x∈r):∀j∈refs x,j∈ek o:=by
 intro j hj;cases o with
 |cells sz rows=>
  simp only[bI,mem_map]at hr;obtain⟨q,hq,rfl⟩:=hr;rw[nV,mem_map]at hx;obtain⟨d,hd,rfl⟩:=hx;simp only[ek,List.mem_flatten,mem_map];refine⟨_,⟨q,hq,rfl⟩,?_⟩;have:∀l:U (DV X),d∈l->j∈aS l:=by
   intro l
   induction l with
   |nil=>intro h;simp at h
   |cons y ys ih=>intro h;rcases aQ.1 h with rfl |h
                  .simp only[aS,bn];left;rwa [iO]at hj
                  .simp only[aS,bn];exact .inr (ih h)
  exact this q hd
 |ep c l=>
  simp only[bI,aK,mem_map]at hr;obtain⟨q,_,rfl⟩:=hr;simp only[mem_map]at hx;obtain⟨t,_,rfl⟩:=hx;simp[refs]at hj
 |map kc vc l=>
  simp only[bI,mem_map]at hr;obtain⟨q,_,rfl⟩:=hr;simp only[aQ,gG,or_false]at hx;rcases hx with rfl |rfl<;>simp[Ad]at hj
theorem Low.old{s:d5 X}(h:Low s):tI s.st:=by
 have hle:=h.le;constructor
 .intro t k hk;have:=h.env t k (by rw[<- iO];exact hk);omega
 .intro k o hk;simp only[d5.st,dQ]at hk;obtain⟨o',h1,rfl⟩:=hk;have⟨h2,h3⟩:=h.obj k o' h1;refine⟨by omega,λr hr x hx j hj=>?_⟩;have:=h3 j (Wo hr hx j hj);omega
end
section
variable {X:SX} {A:Type}
def pm(e b:U (Nat×DV X))(t:Nat):DV X:=match lk e t with |some x=>x |none=>fi b t
def xf(o b:U (Nat×Option (bm X)))(k:Nat):J (bm X):=match lk o k with |some x=>x |none=>hZ b k
def zP(dst:J Tmp)(dv:DV X)(e:U (Nat×DV X)):U (Nat×DV X):=match dst with |some t=>(t,dv)::e |none=>e
def Wp:DV X->DV X
 | .skip=> .undef
 |x=>x
def Lf(e:U (Nat×DV X)):Operand->Bool
 | .tmp t=>match lk e t with |some .skip=>false |_=>true
 |_=>true
def RP(e b:U (Nat×DV X))(o:Op):Bool:=
 match o with
 | .pick c x y=>Lf e c&&((Lf e x&&Lf e y) || match YH (pm e b) c with | .c .bool t=>bif t then Lf e x else Lf e y |_=>false)
 |o=>o.operands.toList.all (Lf e)
abbrev E2:=List (Nat×List Nat×List Nat)
section
variable (Γ:FuncId->Option (cp X)) (fz:List Nat) (T:er) (am:TypeId->Option (CT X.ι)) (al:Array Oper) (b:d5 X)
def yT(k:U (Nat×DV X)->U (Nat×Option (bm X))->E2->J A):U Nat->U (Nat×DV X)->U (Nat×Option (bm X))->E2->J A
 |[],e,o,oy=>k e o oy
 |i::r,e,o,oy=>(al[i]?).bind λop=>match op.guard with
  |none=>bif RP e b.env op.op then DM Γ fz T am i op.op (YH (pm e b.env)) (xf o b.obj) λdv upd rd wr=>yT k r (zP op.dst (Wp dv) e) (upd++o) ((i,rd,wr)::oy)else none
  |some (j,p)=>((al[j]?).bind (·.dst)).bind λt=>match pm e b.env t with
   | .c .bool v=>
    bif v then(bif p then(bif RP ((t,.c .bool true)::e) b.env op.op then DM Γ fz T am i op.op (YH (pm ((t,.c .bool true)::e) b.env)) (xf o b.obj) λdv upd rd wr=>yT k r (zP op.dst (Wp dv) ((t,.c .bool true)::e)) (upd++o) ((i,rd,wr)::oy)else none)
     else yT k r (zP op.dst .skip ((t,.c .bool true)::e)) o ((i,[],[])::oy))
    else(bif p then yT k r (zP op.dst .skip ((t,.c .bool false)::e)) o ((i,[],[])::oy)
     else(bif RP ((t,.c .bool false)::e) b.env op.op then DM Γ fz T am i op.op (YH (pm ((t,.c .bool false)::e) b.env)) (xf o b.obj) λdv upd rd wr=>yT k r (zP op.dst (Wp dv) ((t,.c .bool false)::e)) (upd++o) ((i,rd,wr)::oy)else none))
   | .skip=>bif(lk e t).isSome then yT k r (zP op.dst .skip e) o ((i,[],[])::oy)else none
   |_=>none
end
def iD(b:d5 X)(e:U (Nat×DV X))(o:U (Nat×Option (bm X))):St:=⟨λ t=>den (pm e b.env t),λk=>(xf o b.obj k).map bI,λt=>match lk e t with |some .skip=>some false |_=>none⟩
theorem ajN(x:DV X):den (Wp x)=den x:=by cases x<;>rfl
theorem aly(b:d5 X)(e:U (Nat×DV X))(o:U (Nat×Option (bm X)))(dst:J Tmp)(dv:DV X)(upd:U (Nat×Option (bm X)))(obs:U Prop):
 (iD b e o).app dst (⟨den dv,iC upd,obs⟩,none)=iD b (zP dst (Wp dv) e) (upd++o):=by
 simp only[iD,St.app,St.mk.injEq];refine⟨?_,?_,?_⟩
 .funext t;cases dst with
  |none=>simp[Bc,zP]
  |some d=>
   simp only[Bc,zP,pm,lk,aC];by_cases h:d=t<;>simp[h,ajN]
 .funext j
  induction upd with
  |nil=>rfl
  |cons p u ih=>
   obtain⟨q,x⟩:=p;simp only[iC,aH,dn,cons_append,xf,lk]at ih ⊢;by_cases h:j=q
   .simp[h]
   .rw[aT h,aT (Ne.symm h)];exact ih
 .funext t;cases dst with
  |none=>simp[Bc,zP]
  |some d=>
   simp only[Bc,zP,lk,aC];by_cases h:d=t
   .simp only[h,if_true];cases dv<;>rfl
   .simp only[aT h]
theorem ajO(b:d5 X)(e:U (Nat×DV X))(o:U (Nat×Option (bm X)))(dst:J Tmp):(iD b e o).app dst (⟨.undef,[],[]⟩,some false)=iD b (zP dst .skip e) o:=by
 simp only[iD,St.app,St.mk.injEq];refine⟨?_,rfl,?_⟩
 .funext t;cases dst with
  |none=>simp[Bc,zP]
  |some d=>
   simp only[Bc,zP,pm,lk,aC];by_cases h:d=t<;>simp[h,den]
 .funext t;cases dst with
  |none=>simp[Bc,zP]
  |some d=>
   simp only[Bc,zP,lk,aC];by_cases h:d=t<;>simp[h]
theorem adS(b:d5 X)(e:U (Nat×DV X))(o:U (Nat×Option (bm X))):lR (iD b e o).env=λx=>den (YH (pm e b.env) x):=by funext x;exact(Vw _ x).symm
theorem CU{b:d5 X}{e:U (Nat×DV X)}{o:U (Nat×Option (bm X))}{x:Operand}(h:Lf e x=true):xE (iD b e o).ok x=[]:=by
 cases x with
 |tmp t=>
  simp only[Lf]at h;simp only[xE,iD];cases ht:lk e t with
  |none=>rfl
  |some d=>rw[ht]at h;cases d<;>first |rfl |cases h
 |_=>rfl
theorem ajP{b:d5 X}{e:U (Nat×DV X)}{o:U (Nat×Option (bm X))}{P:Program}{T:er}{i:Nat}{op:Oper}{cL:j7}{get:Nat->J aU}{ab:Out}(hok:RP e b.env op.op=true)
 (h:jE P T i op cL (lR (iD b e o).env) get=some ab):∀p∈needs (iD b e o).env (iD b e o).ok op.op,p:=by
 obtain⟨dst,op,ty,ao,after,guard⟩:=op;unfold needs;split
 .rename_i c x y heq;simp only at heq;subst heq;simp only[RP,aN,Bool.or_eq_true]at hok;obtain⟨hc,hxy⟩:=hok;have hb:∃t,lR (iD b e o).env c= .t (.sc (.bool t)):=by
   have h0:(∃ n,cL= .ext n)\/(∃ ae fr q,cL= .xv ae fr q)\/ql T i ⟨dst,.pick c x y,ty,ao,after,guard⟩ cL (lR (iD b e o).env) get=some ab:=(by cases cL<;>first |exact .inl ⟨_,rfl⟩ |exact .inr (.inl ⟨_,_,_,rfl⟩) |exact .inr (.inr h));rcases h0 with ⟨n,rfl⟩ |⟨ae,fr,q,rfl⟩ |h0
   .simp[jE,sW,Ln,sV]at h
   .simp[jE,Hz,afY]at h
   .simp only[ql]at h0;split at h0
    .rename_i t ht;exact⟨t,ht⟩
    .cases h0
  obtain⟨t,ht⟩:=hb;rw[ht];simp only[CU hc,bT];rcases hxy with ⟨hx,hy⟩ |hxy
  .simp[CU hx,CU hy]
  .split at hxy
   .rename_i t' ht';have e1:lR (iD b e o).env c= .t (.sc (.bool t')):=(by rw[adS];simp only[ht'];rfl);rw[e1]at ht;injection ht with ht;injection ht with ht;injection ht with ht;subst ht;cases t' with
    |true=>
     simp only[aj]at hxy;simp[CU hxy]
    |false=>
     simp only[ak]at hxy;simp[CU hxy]
   .cases hxy
 .rename_i o' hne;intro p hp;have hall:∀x∈op.operands.toList,Lf e x=true:=by
   have:RP e b.env op=op.operands.toList.all (Lf e):=(by cases op<;>first |rfl |exact(hne _ _ _ rfl).elim);rw[this]at hok;exact all_eq_true.1 hok
  simp only[List.mem_flatMap]at hp;obtain⟨x,hx,hp⟩:=hp;rw[CU (hall x hx)]at hp;simp at hp
theorem alz{a b:U Prop}(h:∀p∈a,p)(h':jq b):jq (a++b):=q8 _ (gQ h (M7 b h'))
variable {Γ:FuncId->Option (cp X)} {fz:List Nat} {T:er} {am:TypeId->Option (CT X.ι)} {al:Array Oper} {b:d5 X} {P:Program}
theorem ajQ(hΓ:sE P Γ){i:Nat}{op:Oper}{e:U (Nat×DV X)}{o:U (Nat×Option (bm X))}{k:KK X A}{r:A}(hop:al[i]? =some op)(hw:want al op (iD b e o).env (iD b e o).ok=some true)(hok:RP e b.env op.op=true)
 (h:DM Γ fz T am i op.op (YH (pm e b.env)) (xf o b.obj) k=some r):
 ∃(a:m8)(dv:DV X)(upd:U (Nat×Option (bm X))),a.sym=false/\k dv upd a.rd a.wr=some r/\∀(dt:Nat->m8)(K:St->Prop),dt i=a->K (iD b (zP op.dst (Wp dv) e) (upd++o))->xF P T al dt i K (iD b e o):=by
 have⟨cL,rd,wr,dv,upd,ab,h1,h2,h3,h4,h5,h6⟩:=agA hΓ h;refine⟨⟨cL,rd,wr,false⟩,dv,upd,rfl,h6,λdt K ha hK=>?_⟩;have h1':jE P T i op cL (lR (iD b e o).env) (dO rd (iD b e o).obj)=some ab:=by rw[adS];exact h1
 refine⟨op,(⟨ab.v,ab.upd,needs (iD b e o).env (iD b e o).ok op.op++ab.obs⟩,none),hop,?_,?_,?_⟩
 .unfold opAt;simp only[hop,af,hw,ha,h1'];rw[aZ];rw[all_eq_true];intro p hp;rw[h4]at hp;simp only[iC,mem_map]at hp;obtain⟨q,hq,rfl⟩:=hp;rcases h5 q hq with h |h
  .simp[h,Vj.2 (.inl rfl:i7 (cT i) (cT i))]
  .simp[h]
 .exact alz (ajP hok h1') h2
 .rw[h3,h4,aly];exact hK
theorem step_skip{i:Nat}{op:Oper}{e:U (Nat×DV X)}{o:U (Nat×Option (bm X))}(hop:al[i]? =some op)(hw:want al op (iD b e o).env (iD b e o).ok=some false)
 (dt:Nat->m8) (K:St->Prop) (ha:dt i=⟨.none,[],[],false⟩) (hK:K (iD b (zP op.dst .skip e) o)):xF P T al dt i K (iD b e o):=by
 refine⟨op,(⟨.undef,[],[]⟩,some false),hop,?_,trivial,?_⟩
 .unfold opAt;simp only[hop,af,hw,ha]
 .rw[ajO];exact hK
theorem agB{e:U (Nat×DV X)}{o:U (Nat×Option (bm X))}{t:Nat}{v:Bool}(h:pm e b.env t= .c .bool v):iD b ((t,.c .bool v)::e) o=iD b e o:=by
 simp only[iD,St.mk.injEq,true_and];refine⟨?_,?_⟩
 .funext s;by_cases hs:t=s
  .subst hs;rw[h];simp[pm,lk]
  .simp[pm,lk,hs]
 .funext s;by_cases hs:t=s
  .subst hs;simp only[lk,if_true];unfold pm at h;cases ht:lk e t with
   |none=>rfl
   |some d=>rw[ht]at h;simp only at h;subst h;rfl
  .simp[lk,hs]
def KA(tr:U (Nat×m8)):E2:=tr.map λp=>(p.1,p.2.rd,p.2.wr)
def RQ(al:Array Oper)(t:Nat):Prop:=∃(j:Nat)(op:Oper),al[j]? =some op/\op.dst=some t
theorem adT{dst:J Tmp}{dv:DV X}{e:U (Nat×DV X)}{p:Nat×DV X}(h:p∈zP dst dv e):p∈e\/dst=some p.1:=by
 cases dst with
 |none=>exact .inl h
 |some t=>
  simp only[zP,aQ]at h;rcases h with rfl |h
  .exact .inr rfl
  .exact .inl h
theorem En(hΓ:sE P Γ){k:U (Nat×DV X)->U (Nat×Option (bm X))->E2->J A}{r:A}:∀(l:U Nat)(e:U (Nat×DV X))(o:U (Nat×Option (bm X)))(oy:E2),yT Γ fz T am al b k l e o oy=some r->
 ∃(tr:U (Nat×m8))(e':U (Nat×DV X))(o':U (Nat×Option (bm X))),tr.map (·.1)=l/\k e' o' ((KA tr).reverse++oy)=some r/\(∀ p∈e',p∈e\/RQ al p.1)/\
  ∀dt:Nat->m8,(∀ p∈tr,dt p.1=p.2)->SC P T al dt (λ σ=>σ=iD b e' o') l (iD b e o)
 |[],e,o,oy,h=>⟨[],e,o,rfl,h,λ_ hp=> .inl hp,λ_ _=>rfl⟩
 |i::l,e,o,oy,h=>by
  simp only[yT]at h;have⟨op,hop,h⟩:=ai.1 h
  have exec:∀e:U (Nat×DV X),want al op (iD b e o).env (iD b e o).ok=some true->
   (bif RP e b.env op.op then DM Γ fz T am i op.op (YH (pm e b.env)) (xf o b.obj) λdv upd rd wr=>yT Γ fz T am al b k l (zP op.dst (Wp dv) e) (upd++o) ((i,rd,wr)::oy)else none)=some r->
   ∃(tr:U (Nat×m8)) (e':U (Nat×DV X)) (o':U (Nat×Option (bm X))),tr.map (·.1)=i::l/\k e' o' ((KA tr).reverse++oy)=some r/\(∀ p∈e',p∈e\/RQ al p.1)/\
    ∀dt:Nat->m8,(∀ p∈tr,dt p.1=p.2)->SC P T al dt (λ σ=>σ=iD b e' o') (i::l) (iD b e o):=by
   intro e hw h;have⟨hok,h⟩:=eH h;have⟨a,dv,upd,_,h1,h2⟩:=ajQ hΓ hop hw hok h;obtain⟨tr,e',o',g1,g2,g4,g3⟩:=En hΓ l _ _ _ h1;refine⟨(i,a)::tr,e',o',by simp[g1],?_,λp hp=>(g4 p hp).elim (λ hp=>(adT hp).elim .inl λhd=> .inr ⟨i,op,hop,hd⟩) .inr,λdt ha=>?_⟩
   .simpa[KA]using g2
   .exact h2 dt _ (ha (i,a) (by simp)) (g3 dt λp hp=>ha p (by simp[hp]))
  have skip:∀e:U (Nat×DV X),want al op (iD b e o).env (iD b e o).ok=some false->yT Γ fz T am al b k l (zP op.dst .skip e) o ((i,[],[])::oy)=some r->
   ∃(tr:U (Nat×m8)) (e':U (Nat×DV X)) (o':U (Nat×Option (bm X))),tr.map (·.1)=i::l/\k e' o' ((KA tr).reverse++oy)=some r/\(∀ p∈e',p∈e\/RQ al p.1)/\
    ∀dt:Nat->m8,(∀ p∈tr,dt p.1=p.2)->SC P T al dt (λ σ=>σ=iD b e' o') (i::l) (iD b e o):=by
   intro e hw h;obtain⟨tr,e',o',g1,g2,g4,g3⟩:=En hΓ l _ _ _ h;refine⟨(i,⟨.none,[],[],false⟩)::tr,e',o',by simp[g1],?_,λp hp=>(g4 p hp).elim (λ hp=>(adT hp).elim .inl λhd=> .inr ⟨i,op,hop,hd⟩) .inr,λdt ha=>?_⟩
   .simpa[KA]using g2
   .exact step_skip hop hw dt _ (ha (i,_) (by simp)) (g3 dt λp hp=>ha p (by simp[hp]))
  split at h
  .rename_i hg;exact exec e (by simp[want,hg]) h
  .rename_i j p hg;rw[ai]at h;obtain⟨t,ht,h⟩:=h;split at h
   .rename_i v hv;have hw:∀e:U (Nat×DV X),pm e b.env t= .c .bool v->want al op (iD b e o).env (iD b e o).ok=some (v==p):=by
     intro e he;simp only[want,hg,ht];have h0:(iD b e o).ok t=none:=by
      simp only[iD];unfold pm at he;cases hq:lk e t with
      |none=>rfl
      |some d=>rw[hq]at he;simp only at he;subst he;rfl
     have h1:(iD b e o).env t= .t (.sc (.bool v)):=(by simp only[iD,he];rfl);rw[h0,h1]
    have hk:=agB (b:=b) (o:=o) hv;have hv':pm ((t,.c .bool v)::e) b.env t= .c .bool v:=(by simp[pm,lk]);have htd:RQ al t:=by
     have⟨oj,h1,h2⟩:=ai.1 ht;exact⟨j,oj,h1,h2⟩
    have wide:(∃ (tr:U (Nat×m8)) (e':U (Nat×DV X)) (o':U (Nat×Option (bm X))),tr.map (·.1)=i::l/\k e' o' ((KA tr).reverse++oy)=some r/\(∀ p∈e',p∈((t,.c .bool v)::e:U (Nat×DV X))\/RQ al p.1)/\
     ∀dt:Nat->m8,(∀ p∈tr,dt p.1=p.2)->SC P T al dt (λ σ=>σ=iD b e' o') (i::l) (iD b ((t,.c .bool v)::e) o))->
     ∃(tr:U (Nat×m8)) (e':U (Nat×DV X)) (o':U (Nat×Option (bm X))),tr.map (·.1)=i::l/\k e' o' ((KA tr).reverse++oy)=some r/\(∀ p∈e',p∈e\/RQ al p.1)/\
     ∀dt:Nat->m8,(∀ p∈tr,dt p.1=p.2)->SC P T al dt (λ σ=>σ=iD b e' o') (i::l) (iD b e o):=by
     rintro⟨tr,e',o',g1,g2,g4,g3⟩;refine⟨tr,e',o',g1,g2,λq hq=>?_,hk ▸ g3⟩;rcases g4 q hq with h |h
     .rcases aQ.1 h with rfl |h
      .exact .inr htd
      .exact .inl h
     .exact .inr h
    apply wide;cases v with
    |true=>
     simp only[aj]at h;cases p with
     |true=>exact exec _ (hw _ hv') h
     |false=>exact skip _ (hw _ hv') h
    |false=>
     simp only[ak]at h;cases p with
     |true=>exact skip _ (hw _ hv') h
     |false=>exact exec _ (hw _ hv') h
   .rename_i hv;have⟨hsome,h⟩:=eH h;refine skip e ?_ h;simp only[want,hg,ht];have h1:(iD b e o).env t= .undef:=(by simp only[iD,hv];rfl);cases hq:lk e t with
    |some d=>
     have h0:(iD b e o).ok t=some false:=by
      unfold pm at hv;rw[hq]at hv;simp only at hv;subst hv;simp only[iD,hq]
     rw[h0,h1]
    |none=>rw[hq]at hsome;cases hsome
   .cases h
end
section
variable {X:SX} {A:Type}
def fN(nx k:Nat):Nat:=if k<1000000 then k else nx+(k -1000000)
def gN(nx j:Nat):Nat:=if j<nx then j else 1000000+(j -nx)
def Hv(nx sz k:Nat):Bool:=decide (k<nx) || (decide (1000000<=k)&&decide (k<1000000+sz))
def okE(nx sz:Nat)(e:U (Nat×DV X)):Bool:=e.all λp=>(bk p.2).all (Hv nx sz)
def okO(nx sz:Nat)(o:U (Nat×Option (bm X))):Bool:=o.all λp=>Hv nx sz p.1&&match p.2 with |some x=>(ek x).all (Hv nx sz) |none=>true
def M3(oy:E2):Nat->m8:=λi=>match lk oy i with |some p=>⟨.none,p.1,p.2,false⟩ |none=>⟨.none,[],[],false⟩
def GC(tr:U (Nat×m8)):Nat->m8:=λi=>match lk tr i with |some a=>a |none=>⟨.none,[],[],false⟩
def Lk:DV X->DV X
 | .skip=> .undef
 |x=>x
theorem alB(x:DV X):den (Lk x)=den x:=by cases x<;>rfl
theorem aai(x:DV X):bk (Lk x)=bk x:=by cases x<;>rfl
def fin(s:d5 X)(e:U (Nat×DV X))(o:U (Nat×Option (bm X)))(sz:Nat):d5 X:=
 ⟨e.map (λ p=>(p.1,Lk (oe (fN s.nx) p.2)))++s.env,o.map (λ p=>(fN s.nx p.1,p.2.map (pc (fN s.nx))))++s.obj,s.nx+sz,o.map (λ p=>fN s.nx p.1)++s.log⟩
def alC(N:Nat)(al:Array Oper)(d:Bool)(nx:Nat)(e:U (Nat×DV X))(o:U (Nat×Option (bm X)))(oy:E2):Bool:=
 PJ N al&&(!d || Of al (M3 oy))&&okE nx (64*al.size) e&&okO nx (64*al.size) o&&decide (nx+64*al.size<=1000000)
def agC(Γ:FuncId->J (cp X))(fz:U Nat)(T:er)(am:TypeId->J (CT X.ι))(N:Nat)(al:Array Oper)(d:Bool)(s:d5 X)(k:d5 X->J A):J A:=
 yT Γ fz T am al s (λ e o oy=>bif alC N al d s.nx e o oy then k (fin s e o (64*al.size))else none) (List.range al.size) [] [] []
theorem adU{al:Array Oper}{dt uk:Nat->m8}(h:∀i,(dt i).rd=(uk i).rd/\(dt i).wr=(uk i).wr):Of al dt=Of al uk:=by
 have h1:xJ dt=xJ uk:=by
  funext i j;simp only[xJ,(h i).1,(h i).2,(h j).1,(h j).2]
 have h2:∀md,PI md al dt=PI md al uk:=by
  intro md;funext listed i;simp only[PI,h1]
 have h3:∀(md:Region.Mode)(n k:Nat)(listed:Array Bool),lexFrom' md al dt n k listed=lexFrom' md al uk n k listed:=by
  intro md n
  induction n with
  |zero=>intro k listed;rfl
  |succ n ih=>intro k listed;simp only[lexFrom',h2,ih]
 exact h3 _ _ _ _
theorem CV{α:Type}:∀(a b:U (Nat×α))(k:Nat),lk (a++b) k=match lk a k with |some x=>some x |none=>lk b k
 |[],_,_=>rfl
 |(j,x)::a,b,k=>by
  simp only[cons_append,lk];by_cases h:j=k
  .simp[h]
  .simp only[aT h,CV a b k]
theorem aiD{α:Type}:∀{l:U (Nat×α)}{k:Nat},lk l k=none->∀x,(k,x)∉l
 |(j,y)::r,k,h,x=>by
  simp only[lk]at h;split at h
  .cases h
  .rename_i hn;simp only[aQ,Prod.mk.injEq,not_or];exact⟨λ e=>hn e.1.symm,aiD h x⟩
 |[],_,_,_=>by simp
theorem apo{tr:U (Nat×m8)}(hn:(tr.map (·.1)).Nodup)(i:Nat):(M3 (KA tr).reverse i).rd=(GC tr i).rd/\(M3 (KA tr).reverse i).wr=(GC tr i).wr:=by
 have hn':((KA tr).reverse.map (·.1)).Nodup:=by
  rw[List.map_reverse];have h1:((KA tr).map (·.1)).Nodup:=by simpa[KA,Function.comp_def]using hn
  exact List.pairwise_reverse.2 (h1.imp λh=>Ne.symm h)
 unfold M3 GC;cases h:lk tr i with
 |none=>
  cases h':lk (KA tr).reverse i with
  |none=>exact⟨rfl,rfl⟩
  |some p=>
   have:=rJ h';simp only[KA,List.mem_reverse,mem_map]at this;obtain⟨q,hq,he⟩:=this;injection he with e1 e2;subst e1;exact(aiD h q.2 hq).elim
 |some a=>
  have h1:=rJ h;have h2:(i,a.rd,a.wr)∈(KA tr).reverse:=by
   simp only[KA,List.mem_reverse,mem_map];exact⟨(i,a),h1,rfl⟩
  rw[uW hn' h2];exact⟨rfl,rfl⟩
theorem alD{tr:U (Nat×m8)}(hn:(tr.map (·.1)).Nodup):∀p∈tr,GC tr p.1=p.2:=by
 rintro⟨i,a⟩ hp;unfold GC;rw[uW hn hp]
theorem Wq{nx sz k:Nat}(h:Hv nx sz k=true):k<nx\/(1000000<=k/\k<1000000+sz):=by simpa[Hv]using h
theorem Up{nx sz k:Nat}(hle:nx+sz<=1000000)(h:k<nx\/(1000000<=k/\k<1000000+sz)):gN nx (fN nx k)=k:=by
 unfold gN fN;rcases h with h |⟨h1,h2⟩
 .rw[aZ (show k<1000000 by omega),aZ h]
 .rw[aT (show ¬k<1000000 by omega),aT (by omega)];omega
theorem GT{nx sz k:Nat}(hle:nx+sz<=1000000)(h:k<nx\/(1000000<=k/\k<1000000+sz)):fN nx k<nx+sz:=by
 unfold fN;rcases h with h |⟨h1,h2⟩
 .rw[aZ (show k<1000000 by omega)];omega
 .rw[aT (show ¬k<1000000 by omega)];omega
theorem Pi{nx k:Nat}(hle:nx<=1000000)(h:k<nx):fN nx k=k:=aZ (by omega)
mutual
theorem Ws{f:Nat->Nat}:∀x:DV X,(∀ k∈bk x,f k=k)->oe f x=x
 | .own k _ _,h=>by simp only[oe,h k (by simp[bk])]
 | .ptr k _ _,h=>by simp only[oe,h k (by simp[bk])]
 | .qv k _ _,h=>by simp only[oe,h k (by simp[bk])]
 | .mp k,h=>by simp only[oe,h k (by simp[bk])]
 | .oz k _,h=>by simp only[oe,h k (by simp[bk])]
 | .tt k _ _ _ _,h=>by simp only[oe,h k (by simp[bk])]
 | .agg cs,h=>by simp only[oe,Ah cs (by simpa[bk]using h)]
 | .eV cs,h=>by simp only[oe,Ah cs (by simpa[bk]using h)]
 | .fn F first caps,h=>by simp only[oe,Ah first (λ k hk=>h k (by simp[bk,hk])),Ah caps (λ k hk=>h k (by simp[bk,hk]))]
 | .c _ _,_=>rfl
 | .rp _ _ _,_=>rfl
 | .xa _ _ _ _ _,_=>rfl
 | .eo _ _ _,_=>rfl
 | .raw _,_=>rfl
 | .nil,_=>rfl
 | .ub,_=>rfl
 | .skip,_=>rfl
 | .undef,_=>rfl
theorem Ah{f:Nat->Nat}:∀l:List (DV X),(∀ k∈aS l,f k=k)->Kz f l=l
 |[],_=>rfl
 |x::xs,h=>by simp only[Kz,Ws x (λ k hk=>h k (by simp[aS,hk])),Ah xs (λ k hk=>h k (by simp[aS,hk]))]
end
mutual
theorem Wt(f:Nat->Nat):∀x:DV X,bk (oe f x)=(bk x).map f
 | .own _ _ _=>rfl
 | .ptr _ _ _=>rfl
 | .qv _ _ _=>rfl
 | .mp _=>rfl
 | .oz _ _=>rfl
 | .tt _ _ _ _ _=>rfl
 | .agg cs=>by simp only[oe,bk,yG f cs]
 | .eV cs=>by simp only[oe,bk,yG f cs]
 | .fn F first caps=>by simp only[oe,bk,yG f first,yG f caps,map_append]
 | .c _ _=>rfl
 | .rp _ _ _=>rfl
 | .xa _ _ _ _ _=>rfl
 | .eo _ _ _=>rfl
 | .raw _=>rfl
 | .nil=>rfl
 | .ub=>rfl
 | .skip=>rfl
 | .undef=>rfl
theorem yG(f:Nat->Nat):∀l:List (DV X),aS (Kz f l)=(aS l).map f
 |[]=>rfl
 |x::xs=>by simp only[Kz,aS,Wt f x,yG f xs,map_append]
end
theorem adV(f:Nat->Nat)(o:bm X):ek (pc f o)=(ek o).map f:=by
 cases o with
 |cells sz rows=>simp only[pc,ek,map_map,List.map_flatten];congr 1;exact map_congr_left λr _=>yG f r
 |ep c l=>rfl
 |map kc vc l=>rfl
theorem alE{α β:Type}(f:α->β):∀(l:U (Nat×α))(k:Nat),lk (l.map λp=>(p.1,f p.2)) k=(lk l k).map f
 |[],_=>rfl
 |(j,x)::r,k=>by
  simp only[aH,lk];by_cases h:j=k
  .simp[h]
  .simp only[aT h,alE f r k]
theorem aiF{α β:Type}(f:α->β)(g:Nat->Nat):∀(l:U (Nat×α))(j:Nat),(∀ p∈l,∀q∈l,g p.1=g q.1->p.1=q.1)->
 (∀ y,lk (l.map λp=>(g p.1,f p.2)) j=some y->∃k x,lk l k=some x/\g k=j/\y=f x)/\(lk (l.map λp=>(g p.1,f p.2)) j=none->∀p∈l,g p.1≠j)
 |[],_,_=>⟨λ _ h=>by simp[lk]at h,λ_=>by simp⟩
 |(k0,x0)::r,j,hi=>by
  obtain⟨i1,i2⟩:=aiF f g r j (λ p hp q hq=>hi p (by simp[hp]) q (by simp[hq]));simp only[aH,lk];by_cases h:g k0=j
  .rw[aZ h];exact⟨λ y hy=>by injection hy with hy;exact⟨k0,x0,by simp,h,hy.symm⟩,λhn=>by cases hn⟩
  .rw[aT h];refine⟨λ y hy=>?_,λhn p hp=>?_⟩
   .have⟨k,x,h1,h2,h3⟩:=i1 y hy;refine⟨k,x,?_,h2,h3⟩;have hne:k0≠k:=λe=>h (by rw[e];exact h2);rw[aT hne];exact h1
   .rcases aQ.1 hp with rfl |hp
    .exact h
    .exact i2 hn p hp
structure Ext(ds:Nat->Prop)(s s':d5 X):Prop where
 env:∀t,¬ds t->fi s'.env t=fi s.env t\/fi s'.env t= .undef
 obj:∃d,s'.log=d++s.log/\∀k,k<s.nx->k∉d->hZ s'.obj k=hZ s.obj k\/hZ s'.obj k=none
 nx:s.nx<=s'.nx
variable {Γ:FuncId->Option (cp X)} {fz:List Nat} {T:er} {am:TypeId->Option (CT X.ι)} {P:Program} {N:Nat}
theorem Nu(s:d5 X)(e:U (Nat×DV X))(o:U (Nat×Option (bm X)))(sz t:Nat):fi (fin s e o sz).env t=match lk e t with |some d=>Lk (oe (fN s.nx) d) |none=>fi s.env t:=by
 simp only[fin,fi,CV,alE (λ d=>Lk (oe (fN s.nx) d))];cases lk e t<;>rfl
theorem abF(hT:fu P T)(hm:P.follows .mixedOrders=true)(hΓ:sE P Γ){id:Nat}{al:Array Oper}{d:Bool}{s:d5 X}{k:d5 X->J A}{r:A}(hl:Low s)(h:agC Γ fz T am N al d s k=some r):
 ∃s':d5 X,k s'=some r/\Low s'/\Ext (RQ al) s s'/\Ev P N (.region id al d) (λ e σ=>e= .normal/\σ=s'.st) s.st:=by
 unfold agC at h;obtain⟨tr,e,o,h1,h2,h3,h4⟩:=En hΓ _ _ _ _ h;have⟨h5,h6⟩:=eH h2;simp only[alC,aN,append_nil]at h5;obtain⟨⟨⟨⟨hd,hlex⟩,hE⟩,hO⟩,hnx⟩:=h5;have hle:s.nx+64*al.size<=1000000:=of_decide_eq_true hnx;have HO:(tr.map (·.1)).Nodup:=by rw[h1];exact List.nodup_range
 have T0:∀t x,lk e t=some x->∀j∈bk x,j<s.nx\/(1000000<=j/\j<1000000+64*al.size):=by
  intro t x hx j hj;have:=all_eq_true.1 hE _ (rJ hx);exact Wq (all_eq_true.1 this j hj)
 have H3:∀p∈o,(p.1<s.nx\/(1000000<=p.1/\p.1<1000000+64*al.size))/\∀x,p.2=some x->∀j∈ek x,j<s.nx\/(1000000<=j/\j<1000000+64*al.size):=by
  intro p hp;have:=all_eq_true.1 hO _ hp;simp only[aN]at this;refine⟨Wq this.1,λx hx j hj=>?_⟩;have h2:=this.2;rw[hx]at h2;exact Wq (all_eq_true.1 h2 j hj)
 have hinj:∀p∈o,∀q∈o,fN s.nx p.1=fN s.nx q.1->p.1=q.1:=by
  intro p hp q hq he;have:=congrArg (gN s.nx) he
  rwa [Up hle (H3 p hp).1,Up hle (H3 q hq).1]at this
 have xn:∀j,(∃ q x,lk o q=some x/\fN s.nx q=j/\hZ (fin s e o (64*al.size)).obj j=x.map (pc (fN s.nx)))\/(hZ (fin s e o (64*al.size)).obj j=hZ s.obj j/\∀p∈o,fN s.nx p.1≠j):=by
  intro j;obtain⟨i1,i2⟩:=aiF (λ x:Option (bm X)=>x.map (pc (fN s.nx))) (fN s.nx) o j hinj;simp only[fin,hZ,CV];cases hj:lk (o.map λp=>(fN s.nx p.1,p.2.map (pc (fN s.nx)))) j with
  |none=>exact .inr ⟨rfl,i2 hj⟩
  |some y=>
   have⟨q,x,g1,g2,g3⟩:=i1 y hj;exact .inl ⟨q,x,g1,g2,by rw[g3];rfl⟩
 refine⟨fin s e o (64*al.size),h6,?_,?_,?_⟩
 .constructor
  .exact hle
  .have:=hl.ge;show 1000<=s.nx+64*al.size;omega
  .intro t j hj;rw[Nu]at hj;cases ht:lk e t with
   |none=>rw[ht]at hj;have:=hl.env t j hj;show j<s.nx+64*al.size;omega
   |some x=>
    rw[ht,aai,Wt]at hj;obtain⟨q,hq,rfl⟩:=mem_map.1 hj;exact GT hle (T0 t x ht q hq)
  .intro j x hx;rcases xn j with ⟨q,y,g1,rfl,g3⟩ |⟨g1,_⟩
   .rw[g3]at hx;rw[dQ]at hx;obtain⟨z,rfl,rfl⟩:=hx;obtain⟨k1,k2⟩:=H3 _ (rJ g1);refine⟨GT hle k1,λi hi=>?_⟩;rw[adV]at hi;obtain⟨i',hi',rfl⟩:=mem_map.1 hi;exact GT hle (k2 z rfl i' hi')
   .rw[g1]at hx;have⟨k1,k2⟩:=hl.obj j x hx;refine⟨show j<s.nx+64*al.size by omega,λi hi=>?_⟩;have:=k2 i hi;show i<s.nx+64*al.size;omega
 .refine⟨λ t ht=> .inl ?_,⟨o.map (λ p=>fN s.nx p.1),rfl,λj hj hn=>?_⟩,by show s.nx<=s.nx+64*al.size;omega⟩
  .rw[Nu];cases hx:lk e t with
   |none=>rfl
   |some x=>
    rcases h3 _ (rJ hx)with h |h
    .simp at h
    .exact(ht h).elim
  .rcases xn j with ⟨q,y,g1,g2,g3⟩ |⟨g1,_⟩
   .exact(hn (mem_map.2 ⟨(q,y),rJ g1,g2⟩)).elim
   .exact .inl g1
 .have hst:iD s [] []=s.st:=rfl;have hex:=h4 (GC tr) (alD HO);rw[hst]at hex;intro w0 O0 β I a w hr ho;have done:∀(e':Exit)(a':Act)(w':World),(∃ β' I' σ1,Rel P w0 O0 N β' I' σ1 a' w'/\e'= .normal/\σ1=iD s e o)->∃ β' I' σ1,Rel P w0 O0 N β' I' σ1 a' w'/\tI σ1/\e'= .normal/\σ1=(fin s e o (64*al.size)).st:=by
   rintro e' a' w' ⟨β',I',σ1,g1,rfl,rfl⟩;refine⟨_,I',(fin s e o (64*al.size)).st,Rel.re (f:=fN s.nx) (g:=gN s.nx) (D:=λk=>k<s.nx\/(1000000<=k/\k<1000000+64*al.size)) (λ k hk=>Up hle hk) (λ j hj=>by have:=hl.ge;unfold gN;rw[aZ (by omega)]) g1 (λ t=>?_) (λ _=>rfl) (λ t=> .inr ?_) (λ j o' hj=>?_),?_,rfl,rfl⟩
   .show(match lk e t with |some .skip=>some false |_=>none)=none\/den (fi (fin s e o (64*al.size)).env t)= .undef;rw[Nu];cases ht:lk e t with
    |none=>exact .inl rfl
    |some d=>cases d<;>first |exact .inl rfl |exact .inr rfl
   .show(∀ k∈refs (den (pm e s.env t)),_)/\lL (gc (fN s.nx) (den (pm e s.env t))) (den (fi (fin s e o (64*al.size)).env t));rw[Nu,iO,<- Af];unfold pm;cases ht:lk e t with
    |none=>
     refine⟨λ q hq=> .inl (hl.env t q hq),?_⟩;rw[Ws _ (λ q hq=>Pi (by omega) (hl.env t q hq))];exact lL.refl _
    |some x=>exact⟨T0 t x ht,by simp only[alB];exact lL.refl _⟩
   .simp only[d5.st,dQ]at hj;obtain⟨x,hx,rfl⟩:=hj;rcases xn j with ⟨q,y,i1,rfl,i3⟩ |⟨i1,i2⟩
    .rw[i3,dQ]at hx;obtain⟨z,rfl,rfl⟩:=hx;obtain⟨k1,k2⟩:=H3 _ (rJ i1);obtain⟨r1,r2⟩:=JY (D:=λk=>k<s.nx\/(1000000<=k/\k<1000000+64*al.size)) (fN s.nx) z (λ i hi=>k2 z rfl i hi);refine⟨q,bI z,?_,k1,rfl,r1,r2⟩;simp only[iD,xf,i1,Option.map_some]
    .rw[i1]at hx;have⟨k1,k2⟩:=hl.obj j x hx;have hid:pc (fN s.nx) x=x:=by
      cases x with
      |ep c l=>rfl
      |map kc vc l=>rfl
      |cells sz rows=>
       simp only[pc];congr 1;have:∀q∈rows,Kz (fN s.nx) q=q:=λq hq=>Ah q λi hi=>Pi (by omega) (k2 i (by
        simp only[ek,List.mem_flatten,mem_map];exact⟨_,⟨q,hq,rfl⟩,hi⟩))
       rw[map_congr_left this];simp
     obtain⟨r1,r2⟩:=JY (D:=λk=>k<s.nx\/(1000000<=k/\k<1000000+64*al.size)) (fN s.nx) x (λ i hi=> .inl (k2 i hi));rw[hid]at r1 r2;refine⟨j,bI x,?_,.inl k1,Pi (by omega) k1,r1,r2⟩;simp only[iD,xf];cases hlo:lk o j with
     |none=>simp[hx]
     |some y=>exact(i2 _ (rJ hlo) (Pi (by omega) k1)).elim
   .have hL:Low (fin s e o (64*al.size)):=by
     constructor
     .exact hle
     .have:=hl.ge;show 1000<=s.nx+64*al.size;omega
     .intro t j hj;rw[Nu]at hj;cases ht:lk e t with
      |none=>rw[ht]at hj;have:=hl.env t j hj;show j<s.nx+64*al.size;omega
      |some x=>
       rw[ht,aai,Wt]at hj;obtain⟨q,hq,rfl⟩:=mem_map.1 hj;exact GT hle (T0 t x ht q hq)
     .intro j x hx;rcases xn j with ⟨q,y,g1,rfl,g3⟩ |⟨g1,_⟩
      .rw[g3]at hx;rw[dQ]at hx;obtain⟨z,rfl,rfl⟩:=hx;obtain⟨k1,k2⟩:=H3 _ (rJ g1);refine⟨GT hle k1,λi hi=>?_⟩;rw[adV]at hi;obtain⟨i',hi',rfl⟩:=mem_map.1 hi;exact GT hle (k2 z rfl i' hi')
      .rw[g1]at hx;have⟨k1,k2⟩:=hl.obj j x hx;refine⟨show j<s.nx+64*al.size by omega,λi hi=>?_⟩;have:=k2 i hi;show i<s.nx+64*al.size;omega
    exact hL.old
  cases d with
  |false=>exact wp_mono (ajt hT hd ho hex hr) done
  |true=>
   refine wp_mono (Vr hT hm hd ?_ ho hex hr) done;rw[<- adU (apo HO)];simpa using hlex
end
end Go.Gb
namespace Go.Gb
open Go.RowKit
structure Sh(ι:Type) where
 slots:List (Nat×Pt ι)
 cQ:List (Nat×OP ι)
 keep:List Nat
 dC:List Nat
 nx:Nat
 A1:List (Nat×CT ι)
def Sh.vars{ι:Type}(s:Sh ι):U (CT ι):=ir s.slots++cR s.cQ
section
variable {X:SX}
def nz(z:Bool)(k:Nat):DV X:=bif z then .oz k 0 else .own k 0 0
def AC(z:Bool)(s:d5 X)(t:Nat)(c:CT X.ι):d5 X:=
 match fi s.env t with
 | .nil=>if s.nx<1000000 then⟨(t,nz z s.nx)::s.env,(s.nx,some (.ep c []))::s.obj,s.nx+1,s.nx::s.log⟩else s
 |_=>s
def GB(s:d5 X)(q j:Nat)(c:CT X.ι):d5 X:=
 match hZ s.obj q with
 |some (.cells sz [row])=>match row[j]? with
  |some .nil=>if s.nx<1000000 then⟨s.env,(q,some (.cells sz [row.set j (.own s.nx 0 0)]))::(s.nx,some (.ep c []))::s.obj,s.nx+1,q::s.nx::s.log⟩else s
  |_=>s
 |_=>s
def Qa:U (Nat×CT X.ι)->d5 X->d5 X
 |[],s=>s
 |(t,c)::r,s=>Qa r (bif Nat.ble 1000000 t then bif Nat.ble 1099511627776 t then AC true s (t -1099511627776) c else GB s ((t -1000000)/4096) ((t -1000000)%4096) c else AC false s t c)
def isU:DV X->Bool
 | .undef | .skip=>true
 |_=>false
def encS(sh:Sh X.ι)(s0:d5 X)(v:VT (X:=X) sh.vars):d5 X:=
 let L:=wm sh.vars v
 let n:=(ir sh.slots).length
 let ol:=λk=>(lk (lens sh.cQ (L.drop n)) k).getD 0
 ⟨LK ol sh.slots (L.take n)++sh.keep.map (λ t=>(t,fi s0.env t)),dG ol sh.cQ (L.drop n)++sh.dC.map (λ k=>(k,hZ s0.obj k)),sh.nx,
  (List.range s0.nx).filter (λ k=>!sh.dC.contains k)++s0.log⟩
def okS(sh:Sh X.ι)(ds:U Nat)(s0 s':d5 X)(m:MA X):Bool:=
 decide (m.nm.map (·.1)++sh.dC).Nodup&&decide (m.nm.map (·.2)++sh.dC).Nodup&&decide (sh.cQ.map (·.1)).Nodup&&m.nm.all (λ q=>(sh.cQ.map (·.1)).contains q.2&&decide (q.2<sh.nx)&&(decide (q.1=q.2) || decide (1000<=q.2)))&&
  sh.slots.all (λ p=>ds.contains p.1)&&sh.keep.all (λ t=>!ds.contains t&&!isU (fi s'.env t)&&(bk (fi s0.env t)).all λj=>sh.dC.contains j || m.nm.contains (j,j))&&
  sh.dC.all (λ k=>decide (k<s0.nx)&&!(s'.log.take (s'.log.length -s0.log.length)).contains k&&(hZ s'.obj k).isSome&&match hZ s0.obj k with |some o=>(ek o).all λj=>sh.dC.contains j || m.nm.contains (j,j) |none=>false)&&
  decide (s0.nx<=sh.nx)&&decide (sh.nx<=1000000)
def P0{A:Type}(sh:Sh X.ι)(ds:U Nat)(s0 s':d5 X)(k:VT (X:=X) sh.vars->J A):J A:=
 (Ie (hZ s'.obj) (fi s'.env) sh.slots ⟨[],[],[]⟩).bind λm=>(CO (hZ s'.obj) sh.cQ m).bind λm=>bif okS sh ds s0 s' m then(YJ sh.vars m.eR).bind λv=>Vz m.ju (k v)else none
def qy{A:Type}(sh:Sh X.ι)(ds:U Nat)(s0 s':d5 X)(k:VT (X:=X) sh.vars->J A):J A:=
 bif sh.A1.all (λ p=>bif Nat.ble 1000000 p.1 then !Nat.ble 1099511627776 p.1 || ds.contains (p.1 -1099511627776)else ds.contains p.1)then P0 sh ds s0 (Qa sh.A1 s') k else none
end
section
variable {X:SX}
theorem aak{d:DV X}{c:CT X.ι}{x:CT.T X.toSE c}(h:Ky d c=some x):bk d=[]:=by
 cases d
 case c=>rfl
 case nil=>rfl
 all_goals cases c<;>cases h
theorem RS:∀{ds:U (DV X)}{l:U (CT X.ι)}{h:HL X.toSE l},yN ds l=some h->aS ds=[]
 |[],[],_,_=>rfl
 |d::ds,c::l,h,hr=>by
  simp only[yN]at hr;have⟨x,h1,hr⟩:=ai.1 hr;have⟨g,h2,hr⟩:=ai.1 hr;simp only[aS,aak h1,RS h2,append_nil]
 |[],_::_,_,hr=>by simp[yN]at hr
 |_::_,[],_,hr=>by simp[yN]at hr
theorem anT{d:DV X}{c:CT X.ι}{x:CT.T X.toSE c}(h:dat d c=some x):lL (den d) (den (.c c x:DV X))/\bk d=[]:=by
 cases c
 case st i=>
  replace h:Ek d i=some x:=h
  cases d
  case agg cs=>
   simp only[Ek]at h;have⟨g,h1,h⟩:=ai.1 h;cases h;refine⟨λ P β w I v hv=>?_,by simp only[bk,RS h1]⟩;have h2:=(yO h1 (X.flat i)).1;simp only[den,VR]at hv;obtain⟨vs,rfl,hv⟩:=hv;show VR P β w I (.agg ((X.row i (X.make i g)).map AV.t)) _;have h3:(X.row i (X.make i g)).map AV.t=(bS cs).map Gb.wk:=(by rw[h2];exact congrArg _ (X.gp i g));rw[h3];simp only[VR];exact⟨vs,rfl,bj.wk _ _ hv⟩
  case c a y=>
   replace h:jA a (.st i) y=some x:=h
   rw[(oH h).1];exact⟨lL.refl _,rfl⟩
  all_goals cases h
 all_goals
  have h1:=vZ h;refine⟨λ P β w I v hv=>?_,aak h⟩;simp only[den];rw[<- h1];exact hv.wk
def gA(m m':MA X):Prop:=(∀ q∈m.nm,q∈m'.nm)/\(∀ c∈m.ju,c∈m'.ju)
theorem gA.refl(m:MA X):gA m m:=⟨λ _ h=>h,λ_ h=>h⟩
theorem gA.trans{a b c:MA X}(h:gA a b)(h':gA b c):gA a c:=⟨λ q hq=>h'.1 q (h.1 q hq),λq hq=>h'.2 q (h.2 q hq)⟩
theorem fE(m:MA X)(k' k:Nat):(addN m k' k).eR=m.eR/\(addN m k' k).ju=m.ju:=by unfold addN;split<;>exact⟨rfl,rfl⟩
theorem nX(m:MA X)(k' k:Nat):(k',k)∈(addN m k' k).nm:=by
 unfold addN;split
 .rename_i h;simpa using h
 .simp
theorem pW(m:MA X)(k' k:Nat):gA m (addN m k' k):=by
 unfold addN;split
 .exact gA.refl m
 .exact⟨λ q hq=>by simp[hq],λ_ h=>h⟩
variable {get:Nat->Option (bm X)}
mutual
theorem aiG:∀(p:Pt X.ι)(d:DV X)(m m':MA X),mP get p d m=some m'->gA m m'/\∃an,m'.eR=m.eR++an/\an.length=p.vars.length
 | .v c,d,m,m',h=>by
  simp only[mP]at h;rw[ai]at h;obtain⟨x,h1,h⟩:=h;cases h;exact⟨⟨λ _ h=>h,λ_ h=>h⟩,[⟨c,x⟩],rfl,rfl⟩
 | .o k,d,m,m',h=>by
  simp only[mP]at h;split at h
  .rename_i k' len;have⟨o,h1,h⟩:=ai.1 h;split at h
   .cases h;refine⟨gA.trans (b:=⟨m.nm,m.eR,m.ju++_⟩) ⟨λ _ h=>h,λ_ h=>by simp[h]⟩ (pW _ _ _),[],by rw[(fE _ _ _).1];simp,rfl⟩
   .cases h
  .cases h
 | .oz k,d,m,m',h=>by
  simp only[mP]at h;split at h
  .have⟨o,h1,h⟩:=ai.1 h;split at h
   .cases h;refine⟨gA.trans (b:=⟨m.nm,m.eR,m.ju++_⟩) ⟨λ _ h=>h,λ_ h=>by simp[h]⟩ (pW _ _ _),[],by rw[(fE _ _ _).1];simp,rfl⟩
   .cases h
  .have⟨o,h1,h⟩:=ai.1 h;split at h
   .cases h;refine⟨gA.trans (b:=⟨m.nm,m.eR,m.ju++_⟩) ⟨λ _ h=>h,λ_ h=>by simp[h]⟩ (pW _ _ _),[],by rw[(fE _ _ _).1];simp,rfl⟩
   .cases h
  .cases h
 | .p k,d,m,m',h=>by
  simp only[mP]at h;split at h
  .cases h;exact⟨pW _ _ _,[],by rw[(fE _ _ _).1];simp,rfl⟩
  .cases h
 | .mp k,d,m,m',h=>by
  simp only[mP]at h;split at h
  .cases h;exact⟨pW _ _ _,[],by rw[(fE _ _ _).1];simp,rfl⟩
  .cases h
 | .nil,d,m,m',h=>by
  simp only[mP]at h;split at h
  .cases h;exact⟨gA.refl _,[],by simp,rfl⟩
  .cases h
 | .f F fs cs,d,m,m',h=>by
  simp only[mP]at h;split at h
  .split at h
   .rw[ai]at h;obtain⟨m1,h1,h⟩:=h;obtain⟨a1,n1,b1,c1⟩:=yU fs _ m m1 h1;obtain⟨a2,n2,b2,c2⟩:=yU cs _ m1 m' h;exact⟨a1.trans a2,n1++n2,by rw[b2,b1,aO],by simp[Pt.vars,c1,c2]⟩
   .cases h
  .cases h
 | .od k,d,m,m',h=>by
  simp only[mP]at h;split at h
  .rename_i k' aa len;have⟨o,h1,h⟩:=ai.1 h;split at h
   .cases h;refine⟨gA.trans (b:=⟨m.nm,m.eR++[⟨.int .i64,(aa:Int)⟩],m.ju++_⟩) ⟨λ _ h=>h,λ_ h=>by simp[h]⟩ (pW _ _ _),[⟨.int .i64,(aa:Int)⟩],by rw[(fE _ _ _).1],rfl⟩
   .cases h
  .cases h
 | .a ps,d,m,m',h=>by
  simp only[mP]at h;split at h
  .exact yU ps _ m m' h
  .cases h
theorem yU:∀(ps:List (Pt X.ι))(ds:List (DV X))(m m':MA X),sY get ps ds m=some m'->gA m m'/\∃an,m'.eR=m.eR++an/\an.length=(cX ps).length
 |[],[],m,m',h=>by
  simp only[sY,aC]at h;subst h;exact⟨gA.refl _,[],by simp,rfl⟩
 |p::ps,d::ds,m,m',h=>by
  simp only[sY]at h;have⟨m1,h1,h⟩:=ai.1 h;have⟨a1,n1,b1,c1⟩:=aiG p d m m1 h1;have⟨a2,n2,b2,c2⟩:=yU ps ds m1 m' h;exact⟨a1.trans a2,n1++n2,by rw[b2,b1,aO],by simp[cX,c1,c2]⟩
 |[],_::_,m,m',h=>by simp[sY]at h
 |_::_,[],m,m',h=>by simp[sY]at h
end
theorem yV:∀(rs:U (List (Pt X.ι)))(qs:U (List (DV X)))(m m':MA X),FQ get rs qs m=some m'->gA m m'/\∃an,m'.eR=m.eR++an/\an.length=(wh rs).length
 |[],[],m,m',h=>by
  simp only[FQ,aC]at h;subst h;exact⟨gA.refl _,[],by simp,rfl⟩
 |r::rs,q::qs,m,m',h=>by
  simp only[FQ]at h;have⟨m1,h1,h⟩:=ai.1 h;have⟨a1,n1,b1,c1⟩:=yU r q m m1 h1;have⟨a2,n2,b2,c2⟩:=yV rs qs m1 m' h;exact⟨a1.trans a2,n1++n2,by rw[b2,b1,aO],by simp[wh,c1,c2]⟩
 |[],_::_,m,m',h=>by simp[FQ]at h
 |_::_,[],m,m',h=>by simp[FQ]at h
section
variable {NM:List (Nat×Nat)} {f:Nat->Nat} {ec:Nat->Nat}
def DN(NM:U (Nat×Nat))(j:Nat):Prop:=∃k,(j,k)∈NM
def SN(NM:U (Nat×Nat))(j:Nat):Prop:=∃k,(k,j)∈NM
theorem Nv{D:Nat->Prop}{f:Nat->Nat}{P:Program}{β:Nat->J cV}{w:World}{I:Nat->Prop}:∀{a b:U AV}(_:m7 D f a b)(u:U Value),bj P β w I (zN f a) u->bj P β w I b u
 |[],[],_,u,hu=>hu
 |[],_::_,hr,_,_=>hr.elim
 |_::_,[],hr,_,_=>hr.elim
 |y::ys,z::zs,hr,[],hu=>by simp[zN,bj]at hu
 |y::ys,z::zs,hr,v::vs,hu=>by
  simp only[zN,bj]at hu ⊢;exact⟨hr.1.2 _ _ _ _ _ hu.1,Nv hr.2 vs hu.2⟩
mutual
theorem adX(hf:∀q∈NM,f q.1=q.2)(ho:∀q∈NM,∀c l,get q.1=some (.ep c l)->ec q.2=l.length):∀(p:Pt X.ι)(d:DV X)(m m':MA X),mP get p d m=some m'->(∀ q∈m'.nm,q∈NM)->(∀ c∈m'.ju,c=true)->
 ∃an,m'.eR=m.eR++an/\∃d',(∀ ag,eP ec p (an++ag)=(d',ag))/\lL (gc f (den d)) (den d')/\(∀ j∈bk d,DN NM j)/\(∀ j∈bk d',SN NM j)
 | .v c,d,m,m',h,_,_=>by
  simp only[mP]at h;rw[ai]at h;obtain⟨x,h1,h⟩:=h;cases h;have⟨h2,h3⟩:=anT h1;refine⟨[⟨c,x⟩],rfl,.c c x,λag=>rfl,?_,by simp[h3],by simp[bk]⟩;rw[<- Af,Ws d (by simp[h3])];exact h2
 | .o k,d,m,m',h,hn,hc=>by
  simp only[mP]at h;split at h
  .rename_i k' len;rw[ai]at h;obtain⟨o,h1,h⟩:=h;split at h
   .rename_i c l;cases h;have hq:(k',k)∈NM:=hn _ (nX _ _ _);have he:len=l.length:=by
     have:=hc (aE len l.length) (by rw[(fE _ _ _).2];simp);simpa[aE]using this
    refine⟨[],by rw[(fE _ _ _).1];simp,.own k 0 (ec k),λag=>rfl,?_,?_,?_⟩
    .simp only[den,gc];rw[hf _ hq,ho _ hq c l h1,he];exact lL.refl _
    .intro j hj;simp only[bk,aR]at hj;subst hj;exact⟨k,hq⟩
    .intro j hj;simp only[bk,aR]at hj;subst hj;exact⟨k',hq⟩
   .cases h
  .cases h
 | .oz k,d,m,m',h,hn,hc=>by
  simp only[mP]at h;split at h
  .rename_i k' len;rw[ai]at h;obtain⟨o,h1,h⟩:=h;split at h
   .rename_i c l;cases h;have hq:(k',k)∈NM:=hn _ (nX _ _ _);have he:len≠0/\len=l.length:=by
     have:=hc (!(len==0)&&aE len l.length) (by rw[(fE _ _ _).2];simp);simpa[aE]using this
    refine⟨[],by rw[(fE _ _ _).1];simp,.oz k (ec k),λag=>rfl,?_,λj hj=>?_,λj hj=>?_⟩
    .simp only[den,gc];rw[hf _ hq,ho _ hq c l h1,<- he.2];intro P β w I v hv;simp only[VR]at hv ⊢;exact .inr ⟨he.1,hv.resolve_left λh=>he.1 h.2.2.2⟩
    .simp only[bk,aR]at hj;subst hj;exact⟨k,hq⟩
    .simp only[bk,aR]at hj;subst hj;exact⟨k',hq⟩
   .cases h
  .rename_i k' len;rw[ai]at h;obtain⟨o,h1,h⟩:=h;split at h
   .rename_i c l;cases h;have hq:(k',k)∈NM:=hn _ (nX _ _ _);have he:len=l.length:=by
     have:=hc (aE len l.length) (by rw[(fE _ _ _).2];simp);simpa[aE]using this
    refine⟨[],by rw[(fE _ _ _).1];simp,.oz k (ec k),λag=>rfl,?_,λj hj=>?_,λj hj=>?_⟩
    .simp only[den,gc];rw[hf _ hq,ho _ hq c l h1,he];exact lL.refl _
    .simp only[bk,aR]at hj;subst hj;exact⟨k,hq⟩
    .simp only[bk,aR]at hj;subst hj;exact⟨k',hq⟩
   .cases h
  .cases h
 | .p k,d,m,m',h,hn,hc=>by
  simp only[mP]at h;split at h
  .rename_i k';cases h;have hq:(k',k)∈NM:=hn _ (nX _ _ _);refine⟨[],by rw[(fE _ _ _).1];simp,.ptr k 0 0,λag=>rfl,?_,?_,?_⟩
   .simp only[den,gc];rw[hf _ hq];exact lL.refl _
   .intro j hj;simp only[bk,aR]at hj;subst hj;exact⟨k,hq⟩
   .intro j hj;simp only[bk,aR]at hj;subst hj;exact⟨k',hq⟩
  .cases h
 | .mp k,d,m,m',h,hn,hc=>by
  simp only[mP]at h;split at h
  .rename_i k';cases h;have hq:(k',k)∈NM:=hn _ (nX _ _ _);refine⟨[],by rw[(fE _ _ _).1];simp,.mp k,λag=>rfl,?_,?_,?_⟩
   .simp only[den,gc];rw[hf _ hq];exact lL.refl _
   .intro j hj;simp only[bk,aR]at hj;subst hj;exact⟨k,hq⟩
   .intro j hj;simp only[bk,aR]at hj;subst hj;exact⟨k',hq⟩
  .cases h
 | .nil,d,m,m',h,_,_=>by
  simp only[mP]at h;split at h
  .cases h;exact⟨[],by simp,.nil,λag=>rfl,lL.refl _,by simp[bk],by simp[bk]⟩
  .cases h
 | .f F fs cs,d,m,m',h,hn,hc=>by
  simp only[mP]at h;split at h
  .rename_i F' first caps
   split at h
   .rename_i e;subst e;rw[ai]at h;obtain⟨m1,h1,h⟩:=h;have hm:=(yU cs _ m1 m' h).1;obtain⟨n1,a1,f',b1,c1,e1,g1⟩:=CW hf ho fs _ m m1 h1 (λ q hq=>hn q (hm.1 q hq)) (λ q hq=>hc q (hm.2 q hq));obtain⟨n2,a2,c',b2,c2,e2,g2⟩:=CW hf ho cs _ m1 m' h hn hc;refine⟨n1++n2,by rw[a2,a1,aO],.fn F f' c',λag=>by simp only[eP,aO,b1,b2],?_,?_,?_⟩
    .intro P β w I v hv;simp only[den,gc,VR]at hv ⊢;obtain⟨us,vs,rfl,hu,hv⟩:=hv;exact⟨us,vs,rfl,Nv c1 _ hu,Nv c2 _ hv⟩
    .intro j hj;simp only[bk,bn]at hj;exact hj.elim (e1 j) (e2 j)
    .intro j hj;simp only[bk,bn]at hj;exact hj.elim (g1 j) (g2 j)
   .cases h
  .cases h
 | .od k,d,m,m',h,hn,hc=>by
  simp only[mP]at h;split at h
  .rename_i k' aa len;rw[ai]at h;obtain⟨o,h1,h⟩:=h;split at h
   .rename_i c l;cases h;have hq:(k',k)∈NM:=hn _ (nX _ _ _);have he:aa+len=l.length:=by
     have:=hc (aE (aa+len) l.length) (by rw[(fE _ _ _).2];simp);simpa[aE]using this
    refine⟨[⟨.int .i64,(aa:Int)⟩],by rw[(fE _ _ _).1],.own k aa (ec k -aa),λag=>?_,?_,?_,?_⟩
    .simp only[eP,cons_append,bT];have:ZX (X:=X) ⟨.int .i64,(aa:Int)⟩=aa:=by
      simp only[ZX];rw[VL];simp
     rw[this]
    .simp only[den,gc];rw[hf _ hq,ho _ hq c l h1,show l.length -aa=len by omega];exact lL.refl _
    .intro j hj;simp only[bk,aR]at hj;subst hj;exact⟨k,hq⟩
    .intro j hj;simp only[bk,aR]at hj;subst hj;exact⟨k',hq⟩
   .cases h
  .cases h
 | .a ps,d,m,m',h,hn,hc=>by
  simp only[mP]at h;split at h
  .rename_i ds;have⟨an,h1,ds',h2,h3,h4,h5⟩:=CW hf ho ps ds m m' h hn hc;refine⟨an,h1,.agg ds',λag=>by simp only[eP,h2],?_,by simpa[bk]using h4,by simpa[bk]using h5⟩;intro P β w I v hv;simp only[den,gc,VR]at hv ⊢;obtain⟨vs,rfl,hv⟩:=hv;refine⟨vs,rfl,?_⟩;exact Nv h3 _ hv
  .cases h
theorem CW(hf:∀q∈NM,f q.1=q.2)(ho:∀q∈NM,∀c l,get q.1=some (.ep c l)->ec q.2=l.length):∀(ps:List (Pt X.ι))(ds:List (DV X))(m m':MA X),sY get ps ds m=some m'->(∀ q∈m'.nm,q∈NM)->(∀ c∈m'.ju,c=true)->
 ∃an,m'.eR=m.eR++an/\∃ds',(∀ ag,lE ec ps (an++ag)=(ds',ag))/\m7 (DN NM) f (bS ds) (bS ds')/\(∀ j∈aS ds,DN NM j)/\(∀ j∈aS ds',SN NM j)
 |[],[],m,m',h,_,_=>by
  simp only[sY,aC]at h;subst h;exact⟨[],by simp,[],λag=>rfl,trivial,by simp[aS],by simp[aS]⟩
 |p::ps,d::ds,m,m',h,hn,hc=>by
  simp only[sY]at h;have⟨m1,h1,h⟩:=ai.1 h;have hm:=(yU ps ds m1 m' h).1;obtain⟨n1,a1,d',b1,c1,e1,g1⟩:=adX hf ho p d m m1 h1 (λ q hq=>hn q (hm.1 q hq)) (λ q hq=>hc q (hm.2 q hq));have⟨n2,a2,ds',b2,c2,e2,g2⟩:=CW hf ho ps ds m1 m' h hn hc;refine⟨n1++n2,by rw[a2,a1,aO],d'::ds',λag=>?_,⟨⟨λ k hk=>e1 k (by rwa [iO]at hk),c1⟩,c2⟩,?_,?_⟩
  .simp only[lE,aO,b1,b2]
  .intro j hj;simp only[aS,bn]at hj;exact hj.elim (e1 j) (e2 j)
  .intro j hj;simp only[aS,bn]at hj;exact hj.elim (g1 j) (g2 j)
 |[],_::_,m,m',h,_,_=>by simp[sY]at h
 |_::_,[],m,m',h,_,_=>by simp[sY]at h
end
theorem RU(hf:∀q∈NM,f q.1=q.2)(ho:∀q∈NM,∀c l,get q.1=some (.ep c l)->ec q.2=l.length):∀(rs:U (List (Pt X.ι)))(qs:U (List (DV X)))(m m':MA X),FQ get rs qs m=some m'->(∀ q∈m'.nm,q∈NM)->(∀ c∈m'.ju,c=true)->
 ∃an,m'.eR=m.eR++an/\∃E4,(∀ ag,wo ec rs (an++ag)=(E4,ag))/\i6 (DN NM) f (qs.map bS) (E4.map bS)/\(∀ j∈(qs.map aS).flatten,DN NM j)/\(∀ j∈(E4.map aS).flatten,SN NM j)
 |[],[],m,m',h,_,_=>by
  simp only[FQ,aC]at h;subst h;exact⟨[],by simp,[],λag=>rfl,trivial,by simp,by simp⟩
 |r::rs,q::qs,m,m',h,hn,hc=>by
  simp only[FQ]at h;have⟨m1,h1,h⟩:=ai.1 h;have hm:=(yV rs qs m1 m' h).1;obtain⟨n1,a1,d',b1,c1,e1,g1⟩:=CW hf ho r q m m1 h1 (λ q hq=>hn q (hm.1 q hq)) (λ q hq=>hc q (hm.2 q hq));have⟨n2,a2,ds',b2,c2,e2,g2⟩:=RU hf ho rs qs m1 m' h hn hc;refine⟨n1++n2,by rw[a2,a1,aO],d'::ds',λag=>?_,⟨c1,c2⟩,?_,?_⟩
  .simp only[wo,aO,b1,b2]
  .intro j hj;simp only[aH,flatten_cons,bn]at hj;exact hj.elim (e1 j) (e2 j)
  .intro j hj;simp only[aH,flatten_cons,bn]at hj;exact hj.elim (g1 j) (g2 j)
 |[],_::_,m,m',h,_,_=>by simp[FQ]at h
 |_::_,[],m,m',h,_,_=>by simp[FQ]at h
end
end
section
variable {X:SX} {get:Nat->Option (bm X)} {env:Nat->DV X}
theorem Ij:∀(sl:U (Nat×Pt X.ι))(m m':MA X),Ie get env sl m=some m'->gA m m'/\∃an,m'.eR=m.eR++an/\an.length=(ir sl).length
 |[],m,m',h=>by
  simp only[Ie,aC]at h;subst h;exact⟨gA.refl _,[],by simp,rfl⟩
 |(t,p)::r,m,m',h=>by
  simp only[Ie]at h;rw[ai]at h;obtain⟨m1,h1,h⟩:=h;obtain⟨a1,n1,b1,c1⟩:=aiG p _ m m1 h1;have⟨a2,n2,b2,c2⟩:=Ij r m1 m' h;exact⟨a1.trans a2,n1++n2,by rw[b2,b1,aO],by simp[ir,c1,c2]⟩
theorem mq:∀(os:U (Nat×OP X.ι))(m m':MA X),CO get os m=some m'->gA m m'/\∃an,m'.eR=m.eR++an/\an.length=(cR os).length
 |[],m,m',h=>by
  simp only[CO,aC]at h;subst h;exact⟨gA.refl _,[],by simp,rfl⟩
 |(k,op)::r,m,m',h=>by
  simp only[CO]at h;rw[ai]at h;obtain⟨o,h1,h⟩:=h;split at h
  .rename_i c c' l;rw[ai]at h;obtain⟨l',h2,h⟩:=h;obtain⟨a2,n2,b2,c2⟩:=mq r _ m' h;refine⟨gA.trans (gA.trans (b:=⟨m.nm,m.eR++[⟨.sl c,l'⟩],m.ju⟩) ⟨λ _ h=>h,λ_ h=>h⟩ (pW _ _ _)) a2,[⟨.sl c,l'⟩]++n2,?_,by simp[cR,c2]⟩;rw[b2,(fE _ _ _).1,aO]
  .rename_i kc vc t6 tM l;rw[ai]at h;obtain⟨l',h2,h⟩:=h;obtain⟨a2,n2,b2,c2⟩:=mq r _ m' h;refine⟨gA.trans (gA.trans (b:=⟨m.nm,m.eR++[⟨.mp kc vc,l'⟩],m.ju⟩) ⟨λ _ h=>h,λ_ h=>h⟩ (pW _ _ _)) a2,[⟨.mp kc vc,l'⟩]++n2,?_,by simp[cR,c2]⟩;rw[b2,(fE _ _ _).1,aO]
  .rename_i sz rows sz' rows';split at h
   .rw[ai]at h;obtain⟨m1,h2,h⟩:=h;obtain⟨a1,n1,b1,c1⟩:=yV rows _ _ m1 h2;have⟨a2,n2,b2,c2⟩:=mq r m1 m' h;refine⟨((pW m _ _).trans a1).trans a2,n1++n2,?_,by simp[cR,c1,c2]⟩;rw[b2,b1,(fE _ _ _).1,aO]
   .cases h
  .cases h
variable {NM:List (Nat×Nat)} {f:Nat->Nat} {ec:Nat->Nat}
theorem Eo:∀(os:U (Nat×OP X.ι))(m m':MA X),CO get os m=some m'->(∀ q∈m'.nm,q∈NM)->∃an,m'.eR=m.eR++an/\∀ag,∀k∈os.map (·.1),∃k' o,(k',k)∈NM/\get k'=some o/\∀c l,o= .ep c l->(k,List.length l)∈lens os (an++ag)
 |[],m,m',h,_=>by
  simp only[CO,aC]at h;subst h;exact⟨[],by simp,λag k hk=>by simp at hk⟩
 |(k,op)::r,m,m',h,hn=>by
  simp only[CO]at h;rw[ai]at h;obtain⟨o,h1,h⟩:=h;split at h
  .rename_i c c' l;rw[ai]at h;obtain⟨l',h2,h⟩:=h;have hm:=(mq r _ m' h).1;obtain⟨n2,b2,c2⟩:=Eo r _ m' h hn;refine⟨[⟨.sl c,l'⟩]++n2,by rw[b2,(fE _ _ _).1,aO],λag j hj=>?_⟩;simp only[aH,aQ]at hj;simp only[cons_append,bT,lens];by_cases hjk:j=k
   .subst hjk;refine⟨_,_,hn _ (hm.1 _ (nX _ _ _)),h1,λc2 l2 he=>?_⟩;injection he with e1 e2;subst e1;have e2:=eq_of_heq e2;subst e2;have:=congrArg List.length (jf h2).2;simp only[length_map]at this;rw[this];exact List.mem_cons_self
   .rcases hj with rfl |hj
    .exact(hjk rfl).elim
    .have⟨k',o',g1,g2,g3⟩:=c2 ag j hj;exact⟨k',o',g1,g2,λc l he=>eX _ (g3 c l he)⟩
  .rename_i kc vc t6 tM l;rw[ai]at h;obtain⟨l',h2,h⟩:=h;have hm:=(mq r _ m' h).1;obtain⟨n2,b2,c2⟩:=Eo r _ m' h hn;refine⟨[⟨.mp kc vc,l'⟩]++n2,by rw[b2,(fE _ _ _).1,aO],λag j hj=>?_⟩;simp only[aH,aQ]at hj;simp only[cons_append,bT,lens,List.drop_succ_cons,List.drop_zero];by_cases hjk:j=k
   .subst hjk;exact⟨_,_,hn _ (hm.1 _ (nX _ _ _)),h1,λc2 l2 he=>by cases he⟩
   .rcases hj with rfl |hj
    .exact(hjk rfl).elim
    .exact c2 ag j hj
  .rename_i sz rows sz' rows';split at h
   .have⟨m1,h2,h⟩:=ai.1 h;obtain⟨a1,n1,b1,c1⟩:=yV rows _ _ m1 h2;have hm:=(mq r _ m' h).1;obtain⟨n2,b2,c2⟩:=Eo r _ m' h hn;refine⟨n1++n2,by rw[b2,b1,(fE _ _ _).1,aO],λag j hj=>?_⟩;simp only[aH,aQ]at hj;have hd:(n1++n2++ag).drop (wh rows).length=n2++ag:=(by rw[<- c1,aO,List.drop_left]);simp only[lens,hd];by_cases hjk:j=k
    .subst hjk;exact⟨_,_,hn _ (hm.1 _ (a1.1 _ (nX _ _ _))),h1,λc2 l2 he=>by cases he⟩
    .rcases hj with rfl |hj
     .exact(hjk rfl).elim
     .exact c2 ag j hj
   .cases h
  .cases h
theorem JZ:∀(os:U (Nat×OP X.ι))(L:U (DC X)),((lens os L).map (·.1)).Sublist (os.map (·.1))
 |[],_=>by simp[lens]
 |(k,.l c)::r,L=>by
  simp only[lens];split
  .exact(JZ r _).cons_cons _
  .exact List.nil_sublist _
 |(k,.m kc vc)::r,L=>by
  simp only[lens];exact(JZ r _).cons _
 |(k,.c sz rows)::r,L=>by
  simp only[lens];exact(JZ r _).cons _
theorem Nw(hf:∀q∈NM,f q.1=q.2)(ho:∀q∈NM,∀c l,get q.1=some (.ep c l)->ec q.2=l.length):∀(sl:U (Nat×Pt X.ι))(m m':MA X),Ie get env sl m=some m'->(∀ q∈m'.nm,q∈NM)->(∀ c∈m'.ju,c=true)->
 ∃an,m'.eR=m.eR++an/\∃es,(∀ ag,LK ec sl (an++ag)=es)/\(∀ p∈es,p.1∈sl.map (·.1)/\lL (gc f (den (env p.1))) (den p.2)/\(∀ j∈bk (env p.1),DN NM j)/\(∀ j∈bk p.2,SN NM j))
 |[],m,m',h,_,_=>by
  simp only[Ie,aC]at h;subst h;exact⟨[],by simp,[],λag=>rfl,by simp⟩
 |(t,p)::r,m,m',h,hn,hc=>by
  simp only[Ie]at h;have⟨m1,h1,h⟩:=ai.1 h;have hm:=(Ij r m1 m' h).1;obtain⟨n1,a1,d',b1,c1,e1,g1⟩:=adX hf ho p _ m m1 h1 (λ q hq=>hn q (hm.1 q hq)) (λ q hq=>hc q (hm.2 q hq));have⟨n2,a2,es,b2,c2⟩:=Nw hf ho r m1 m' h hn hc;refine⟨n1++n2,by rw[a2,a1,aO],(t,d')::es,λag=>by simp only[LK,aO,b1,b2],λq hq=>?_⟩;rcases aQ.1 hq with rfl |hq
  .exact⟨by simp,c1,e1,g1⟩
  .have⟨i1,i2⟩:=c2 q hq;exact⟨by simp only[aH,aQ];exact .inr i1,i2⟩
theorem aal{D:Nat->Prop}(f:Nat->Nat):∀rows:U (List Tree),i6 D f (aK rows) (aK rows)
 |[]=>trivial
 |r::rs=>by
  refine⟨?_,aal f rs⟩
  induction r with
  |nil=>trivial
  |cons y ys ih=>exact⟨⟨by simp[refs],lL.refl _⟩,ih⟩
theorem aam{a b c d:CT X.ι}{l:U (CT.T X.toSE a×CT.T X.toSE b)}{l':U (CT.T X.toSE c×CT.T X.toSE d)}(h:jA (.mp a b) (.mp c d) l=some l'):bI (.map c d l':bm X)=bI (.map a b l):=by
 have⟨e,h⟩:=rM h;injection e with e1 e2;subst e1;subst e2;subst h;rfl
theorem aan{D:Nat->Prop}(f:Nat->Nat){kc vc:CT X.ι}:∀l:U (CT.T X.toSE kc×CT.T X.toSE vc),i6 D f (bI (.map kc vc l:bm X)).rows (bI (.map kc vc l:bm X)).rows
 |[]=>trivial
 |p::ps=>⟨⟨⟨by simp[Ad],by rw[V6];exact lL.refl _⟩,⟨by simp[Ad],by rw[V6];exact lL.refl _⟩,trivial⟩,aan f ps⟩
theorem Ai(hf:∀q∈NM,f q.1=q.2)(ho:∀q∈NM,∀c l,get q.1=some (.ep c l)->ec q.2=l.length):∀(os:U (Nat×OP X.ι))(m m':MA X),CO get os m=some m'->(∀ q∈m'.nm,q∈NM)->(∀ c∈m'.ju,c=true)->
 ∃an,m'.eR=m.eR++an/\∃xs,(∀ ag,dG ec os (an++ag)=xs)/\(∀ p∈xs,p.1∈os.map (·.1)/\∃k' o o',p.2=some o'/\(k',p.1)∈NM/\get k'=some o/\(bI o').sz=(bI o).sz/\i6 (DN NM) f (bI o).rows (bI o').rows/\(∀ j∈ek o',SN NM j))
 |[],m,m',h,_,_=>by
  simp only[CO,aC]at h;subst h;exact⟨[],by simp,[],λag=>rfl,by simp⟩
 |(k,op)::r,m,m',h,hn,hc=>by
  simp only[CO]at h;rw[ai]at h;obtain⟨o,h1,h⟩:=h;split at h
  .rename_i c c' l;rw[ai]at h;obtain⟨l',h2,h⟩:=h;have hm:=(mq r _ m' h).1;obtain⟨n2,a2,xs,b2,c2⟩:=Ai hf ho r _ m' h hn hc;refine⟨[⟨.sl c,l'⟩]++n2,by rw[a2,(fE _ _ _).1,aO],(k,some (.ep c l'))::xs,λag=>by simp only[cons_append,bT,dG,b2],λq hq=>?_⟩;rcases aQ.1 hq with rfl |hq
   .refine⟨by simp,_,_,_,rfl,hn _ (hm.1 _ (nX _ _ _)),h1,?_,?_,by simp[ek]⟩
    .simp only[bI,(jf h2).1]
    .simp only[bI,(jf h2).2];exact aal f _
   .have⟨i1,i2⟩:=c2 q hq;exact⟨by simp only[aH,aQ];exact .inr i1,i2⟩
  .rename_i kc vc t6 tM l;rw[ai]at h;obtain⟨l',h2,h⟩:=h;have hm:=(mq r _ m' h).1;obtain⟨n2,a2,xs,b2,c2⟩:=Ai hf ho r _ m' h hn hc;refine⟨[⟨.mp kc vc,l'⟩]++n2,by rw[a2,(fE _ _ _).1,aO],(k,some (.map kc vc l'))::xs,λag=>by simp only[cons_append,bT,dG,b2],λq hq=>?_⟩;rcases aQ.1 hq with rfl |hq
   .refine⟨by simp,_,_,_,rfl,hn _ (hm.1 _ (nX _ _ _)),h1,?_,?_,by simp[ek]⟩
    .rw[aam h2]
    .rw[aam h2];exact aan f _
   .have⟨i1,i2⟩:=c2 q hq;exact⟨by simp only[aH,aQ];exact .inr i1,i2⟩
  .rename_i sz rows sz' rows';split at h
   .rename_i hsz;have⟨m1,h2,h⟩:=ai.1 h;have hm1:=(yV rows _ _ m1 h2).1;have hm:=(mq r _ m' h).1;obtain⟨n1,a1,qs,b1,c1,e1,g1⟩:=RU hf ho rows _ _ m1 h2 (λ q hq=>hn q (hm.1 q hq)) (λ q hq=>hc q (hm.2 q hq));obtain⟨n2,a2,xs,b2,c2⟩:=Ai hf ho r _ m' h hn hc;refine⟨n1++n2,by rw[a2,a1,(fE _ _ _).1,aO],(k,some (.cells sz qs))::xs,λag=>by simp only[aO,dG,b1,b2],λq hq=>?_⟩;rcases aQ.1 hq with rfl |hq
    .exact⟨by simp,_,_,_,rfl,hn _ (hm.1 _ (hm1.1 _ (nX _ _ _))),h1,hsz,c1,g1⟩
    .have⟨i1,i2⟩:=c2 q hq;exact⟨by simp only[aH,aQ];exact .inr i1,i2⟩
   .cases h
  .cases h
theorem ajT{d:DV X}(h:isU d=false)(h':d= .undef):False:=by subst h';cases h
theorem abH{A:Type}{sh:Sh X.ι}{ds:U Nat}{s0 s':d5 X}{k:VT (X:=X) sh.vars->J A}{r:A}(hl0:Low s0)(hx:Ext (· ∈ds) s0 s')(h:P0 sh ds s0 s' k=some r):
 ∃v,k v=some r/\Low (encS sh s0 v)/\Ext (· ∈ds) s0 (encS sh s0 v)/\∀(P:Program) (w0:World) (O0:kx) (N:Nat) (β:Nat->J cV) (I:Nat->Prop) (a:Act) (w:World),Rel P w0 O0 N β I s'.st a w->∃ β',Rel P w0 O0 N β' I (encS sh s0 v).st a w:=by
 unfold P0 at h;have⟨m1,h1,h⟩:=ai.1 h;have⟨m,h2,h⟩:=ai.1 h;have⟨h3,h⟩:=eH h;have⟨v,h4,h⟩:=ai.1 h;have⟨h5,h6⟩:=pV h;simp only[okS,aN,aW]at h3;obtain⟨⟨⟨⟨⟨⟨⟨⟨n1,n2⟩,n3⟩,n4⟩,n5⟩,n6⟩,n7⟩,n8⟩,n9⟩:=h3;have hm2:=(mq _ _ _ h2).1;have vy:=VK h4;obtain⟨_,nA,dA,lA⟩:=Ij _ _ _ h1;simp only[bT]at dA;have SW:(m.nm.map (·.1)).Nodup:=(List.nodup_append.1 n1).1;have SU:(m.nm.map (·.2)).Nodup:=(List.nodup_append.1 n2).1;have hsw:((m.nm.map λq=>(q.2,q.1)).map (·.1)).Nodup:=by rw[map_map];exact SU
 generalize hf':(λ j=>match lk m.nm j with |some q=>q |none=>j:Nat->Nat)=f;generalize hg':(λ j=>match lk (m.nm.map λq=>(q.2,q.1)) j with |some q=>q |none=>j:Nat->Nat)=g;have hf:∀q∈m.nm,f q.1=q.2:=by
  rintro⟨p,q⟩ hq;rw[<- hf'];simp only[uW SW hq]
 have hg:∀q∈m.nm,g q.2=q.1:=by
  rintro⟨p,q⟩ hq;rw[<- hg'];have:(q,p)∈m.nm.map λq=>(q.2,q.1):=mem_map.2 ⟨(p,q),hq,rfl⟩;simp only[uW hsw this]
 have nj:∀j∈sh.dC,f j=j:=by
  intro j hj;rw[<- hf'];cases hh:lk m.nm j with
  |none=>simp[hh]
  |some q=>exact((List.nodup_append.1 n1).2.2 j (mem_map.2 ⟨(j,q),rJ hh,rfl⟩) j hj rfl).elim
 have HT:∀j∈sh.dC,g j=j:=by
  intro j hj;rw[<- hg'];cases hh:lk (m.nm.map λq=>(q.2,q.1)) j with
  |none=>simp[hh]
  |some q=>
   have h1:=rJ hh;simp only[mem_map]at h1;obtain⟨z,hz,e⟩:=h1;injection e with e1 e2;exact((List.nodup_append.1 n2).2.2 j (mem_map.2 ⟨z,hz,e1⟩) j hj rfl).elim
 have hg0:∀j,j<1000->g j=j:=by
  intro j hj;rw[<- hg'];cases hh:lk (m.nm.map λq=>(q.2,q.1)) j with
  |none=>simp[hh]
  |some q=>
   have h1:=rJ hh;simp only[mem_map]at h1;obtain⟨z,hz,e⟩:=h1;injection e with e1 e2;have:=all_eq_true.1 n4 z hz;simp only[aN,Bool.or_eq_true,aW]at this;simp only[hh];omega
 have hgf:∀j,(DN m.nm j\/j∈sh.dC)->g (f j)=j:=by
  rintro j (⟨q,hq⟩ |hj)
  .rw[hf _ hq];exact hg _ hq
  .rw[nj j hj];exact HT j hj
 obtain⟨nB,dB,lB⟩:=Eo (NM:=m.nm) _ _ _ h2 (λ q hq=>hq);have hL:m.eR=nA++nB:=by rw[dB,dA]
 have hdrop:(wm sh.vars v).drop (ir sh.slots).length=nB:=by rw[vy,hL,<- lA,List.drop_left]
 have htake:(wm sh.vars v).take (ir sh.slots).length=nA:=by rw[vy,hL,<- lA,List.take_left]
 generalize hol:(λ k=>(lk (lens sh.cQ nB) k).getD 0:Nat->Nat)=ec;have ho:∀q∈m.nm,∀c l,hZ s'.obj q.1=some (.ep c l)->ec q.2=l.length:=by
  rintro⟨p,q⟩ hq c l hl;have hqk:=all_eq_true.1 n4 _ hq;simp only[aN]at hqk;obtain⟨p',o,g1,g2,g3⟩:=lB [] q (by simpa using hqk.1.1);have:p'=p:=by
   have e1:=hg _ g1;have e2:=hg _ hq;simp only at e1 e2;rw[<- e1,e2]
  subst this;simp only at hl;rw[hl]at g2;injection g2 with g2;have h3:=g3 c l g2.symm;rw[append_nil]at h3;rw[<- hol];have hk:=(JZ sh.cQ nB).nodup n3;simp only[uW hk h3,Option.getD_some]
 obtain⟨RK,IT,es,eA,pA⟩:=Nw (NM:=m.nm) (f:=f) (ec:=ec) hf ho _ _ _ h1 (λ q hq=>hm2.1 q hq) (λ c hc=>h5 c (hm2.2 c hc));obtain⟨RE,V1,xs,eB,pB⟩:=Ai (NM:=m.nm) (f:=f) (ec:=ec) hf ho _ _ _ h2 (λ q hq=>hq) h5;have VM:RK=nA:=by simp only[bT]at IT;rw[<- IT,dA]
 have VC:RE=nB:=List.append_cancel_left (V1.symm.trans dB);subst VM VC;have IR:=eA [];have IP:=eB [];rw[append_nil]at IR IP;have hS:encS sh s0 v=⟨es++sh.keep.map (λ t=>(t,fi s0.env t)),xs++sh.dC.map (λ k=>(k,hZ s0.obj k)),sh.nx,(List.range s0.nx).filter (λ k=>!sh.dC.contains k)++s0.log⟩:=by simp only[encS,hdrop,htake,hol,IR,IP]
 have hsn:∀j,SN m.nm j->j<sh.nx:=by
  rintro j ⟨p,hp⟩;have:=all_eq_true.1 n4 _ hp;simp only[aN,aW]at this;exact this.1.2
 have kp:∀j,(sh.dC.contains j || m.nm.contains (j,j))=true->j∈sh.dC\/(j,j)∈m.nm:=by
  intro j hj;simpa using hj
 have hfp:∀j,j∈sh.dC\/(j,j)∈m.nm->f j=j:=λj hj=>hj.elim (nj j) (λ h=>hf (j,j) h);have hdp:∀j,j∈sh.dC\/(j,j)∈m.nm->DN m.nm j\/j∈sh.dC:=λj hj=>hj.elim .inr (λ h=> .inl ⟨j,h⟩);have hko:∀j∈sh.dC,j<s0.nx/\(∃ o,hZ s0.obj j=some o/\hZ s'.obj j=some o/\∀i∈ek o,i∈sh.dC\/(i,i)∈m.nm):=by
  intro j hj;have:=all_eq_true.1 n7 _ hj;simp only[aN,aW,Bool.not_eq_true']at this;obtain⟨⟨⟨a1,a2⟩,a3⟩,a4⟩:=this;refine⟨a1,?_⟩;cases ho0:hZ s0.obj j with
  |none=>rw[ho0]at a4;cases a4
  |some o=>
   rw[ho0]at a4;refine⟨o,rfl,?_,λi hi=>kp i (all_eq_true.1 a4 i hi)⟩;obtain⟨d,hd,hd2⟩:=hx.obj;have hnd:j∉d:=by
    have e:s'.log.take (s'.log.length -s0.log.length)=d:=(by rw[hd,dP,Nat.add_sub_cancel,List.take_left]);rw[e]at a2;simpa using a2
   rcases hd2 j a1 hnd with h |h
   .rw[h,ho0]
   .rw[h]at a3;cases a3
 have hke:∀t∈sh.keep,t∉ds/\fi s'.env t=fi s0.env t/\∀j∈bk (fi s0.env t),j∈sh.dC\/(j,j)∈m.nm:=by
  intro t ht;have:=all_eq_true.1 n6 _ ht;simp only[aN,Bool.not_eq_true']at this;obtain⟨⟨a1,a2⟩,a3⟩:=this;have a1':t∉ds:=by simpa using a1
  refine⟨a1',?_,λj hj=>kp j (all_eq_true.1 a3 j hj)⟩;rcases hx.env t a1' with h |h
  .exact h
  .exact(ajT a2 h).elim
 have hks:∀q∈es,q.1∈ds:=by
  intro q hq;have h1:=(pA q hq).1;obtain⟨z,hz,e⟩:=mem_map.1 h1;have:=all_eq_true.1 n5 _ hz;rw[<- e];simpa using this
 have hkeep:∀t,lk (sh.keep.map λt=>(t,fi s0.env t)) t=if t∈sh.keep then some (fi s0.env t)else none:=by
  intro t
  induction sh.keep with
  |nil=>simp[lk]
  |cons q qs ih=>
   simp only[aH,lk,ih,aQ];by_cases e:q=t
   .subst e;simp
   .rw[aT e];simp[Ne.symm e]
 have B3:∀t,lk (sh.dC.map λt=>(t,hZ s0.obj t)) t=if t∈sh.dC then some (hZ s0.obj t)else none:=by
  intro t
  induction sh.dC with
  |nil=>simp[lk]
  |cons q qs ih=>
   simp only[aH,lk,ih,aQ];by_cases e:q=t
   .subst e;simp
   .rw[aT e];simp[Ne.symm e]
 have rb:∀t,(∃ d,(t,d)∈es/\fi (encS sh s0 v).env t=d)\/(t∈sh.keep/\fi (encS sh s0 v).env t=fi s0.env t)\/fi (encS sh s0 v).env t= .undef:=by
  intro t;have e1:fi (encS sh s0 v).env t=(match lk es t with |some d=>some d |none=>if t∈sh.keep then some (fi s0.env t)else none).getD .undef:=by
   rw[hS];show(lk (es++sh.keep.map (λ t=>(t,fi s0.env t))) t).getD .undef=_;rw[CV,hkeep t];cases lk es t<;>rfl
  rw[e1];cases he:lk es t with
  |some d=>exact .inl ⟨d,rJ he,rfl⟩
  |none=>
   by_cases ht:t∈sh.keep
   .simp only[aZ ht];exact .inr (.inl ⟨ht,rfl⟩)
   .simp only[aT ht];exact .inr (.inr rfl)
 have gO:∀j o,hZ (encS sh s0 v).obj j=some o->(∃ k' o1,(k',j)∈m.nm/\hZ s'.obj k'=some o1/\(bI o).sz=(bI o1).sz/\i6 (DN m.nm) f (bI o1).rows (bI o).rows/\(∀ i∈ek o,SN m.nm i))\/(j∈sh.dC/\hZ s0.obj j=some o):=by
  intro j o hjo;have e1:hZ (encS sh s0 v).obj j=(match lk xs j with |some d=>some d |none=>if j∈sh.dC then some (hZ s0.obj j)else none).join:=by
   rw[hS];show(lk (xs++sh.dC.map (λ k=>(k,hZ s0.obj k))) j).join=_;rw[CV,B3 j];cases lk xs j<;>rfl
  rw[e1]at hjo;cases he:lk xs j with
  |some x=>
   rw[he]at hjo;obtain⟨_,k',o1,o',b1,b2,b3,b4,b5,b6⟩:=pB _ (rJ he);simp only at b1 b2 hjo;subst b1;simp only[Option.join_some,aC]at hjo;subst hjo;exact .inl ⟨k',o1,b2,b3,b4,b5,b6⟩
  |none=>
   rw[he]at hjo;by_cases hj:j∈sh.dC
   .simp only[aZ hj,Option.join_some]at hjo;exact .inr ⟨hj,hjo⟩
   .simp[aT hj]at hjo
 have hnx:s0.nx<=sh.nx:=n8;have hkx:∀j,j∈sh.dC\/(j,j)∈m.nm->j<sh.nx:=λj hj=>hj.elim (λ hj=>Nat.lt_of_lt_of_le (hko j hj).1 hnx) (λ h=>hsn j ⟨j,h⟩);have hRW:∀{r q:U AV},m7 (DN m.nm) f r q->m7 (λ j=>DN m.nm j\/j∈sh.dC) f r q:=by
  intro r
  induction r with
  |nil=>intro q h;cases q with
   |nil=>trivial
   |cons=>exact h.elim
  |cons x xs ih=>intro q h;cases q with
   |nil=>exact h.elim
   |cons y ys=>exact⟨⟨λ k hk=> .inl (h.1.1 k hk),h.1.2⟩,ih h.2⟩
 have TC:∀{r q:U (List AV)},i6 (DN m.nm) f r q->i6 (λ j=>DN m.nm j\/j∈sh.dC) f r q:=by
  intro r
  induction r with
  |nil=>intro q h;cases q with
   |nil=>trivial
   |cons=>exact h.elim
  |cons x xs ih=>intro q h;cases q with
   |nil=>exact h.elim
   |cons y ys=>exact⟨hRW h.1,ih h.2⟩
 refine⟨v,h6,?_,?_,?_⟩
 .constructor
  .rw[hS];exact n9
  .rw[hS];exact Nat.le_trans hl0.ge n8
  .intro t j hj;have Bs:(encS sh s0 v).nx=sh.nx:=(by rw[hS]);rw[Bs];rcases rb t with ⟨d,h1,h2⟩ |⟨h1,h2⟩ |h2
   .rw[h2]at hj;exact hsn j ((pA _ h1).2.2.2 j hj)
   .rw[h2]at hj;exact hkx j ((hke t h1).2.2 j hj)
   .rw[h2]at hj;simp[bk]at hj
  .intro j o hjo;have Bs:(encS sh s0 v).nx=sh.nx:=(by rw[hS]);rw[Bs];rcases gO j o hjo with ⟨k',o1,b1,b2,b3,b4,b5⟩ |⟨b1,b2⟩
   .exact⟨hsn j ⟨k',b1⟩,λi hi=>hsn i (b5 i hi)⟩
   .have⟨c1,o',c2,c3,c4⟩:=hko j b1;rw[b2]at c2;cases c2;exact⟨hkx j (.inl b1),λi hi=>hkx i (c4 i hi)⟩
 .refine⟨λ t ht=>?_,⟨(List.range s0.nx).filter (λ k=>!sh.dC.contains k),by rw[hS],λj hj hn=>?_⟩,by rw[hS];exact hnx⟩
  .rcases rb t with ⟨d,h1,h2⟩ |⟨h1,h2⟩ |h2
   .exact(ht (hks _ h1)).elim
   .exact .inl h2
   .exact .inr h2
  .have hjk:j∈sh.dC:=(by simpa[hj]using hn);cases hjo:hZ (encS sh s0 v).obj j with
   |none=>exact .inr rfl
   |some o=>
    rcases gO j o hjo with ⟨k',o1,b1,_⟩ |⟨b1,b2⟩
    .exact((List.nodup_append.1 n2).2.2 j (mem_map.2 ⟨(k',j),b1,rfl⟩) j hjk rfl).elim
    .exact .inl b2.symm
 .intro P w0 O0 N β I a w hr;refine⟨_,Rel.re (f:=f) (g:=g) (D:=λj=>DN m.nm j\/j∈sh.dC) hgf hg0 hr (λ _=> .inl rfl) (λ _=>rfl) (λ t=>?_) (λ j o' hj=>?_)⟩
  .show den (fi (encS sh s0 v).env t)= .undef\/((∀ k∈refs (den (fi s'.env t)),_)/\lL (gc f (den (fi s'.env t))) (den (fi (encS sh s0 v).env t)));rcases rb t with ⟨d,h1,h2⟩ |⟨h1,h2⟩ |h2
   .right;rw[h2];obtain⟨_,b1,b2,_⟩:=pA _ h1;exact⟨λ k hk=> .inl (b2 k (by rwa [iO]at hk)),b1⟩
   .right;have⟨_,b1,b2⟩:=hke t h1;rw[h2,b1];refine⟨λ k hk=>hdp k (b2 k (by rwa [iO]at hk)),?_⟩;rw[<- Af,Ws _ (λ k hk=>hfp k (b2 k hk))];exact lL.refl _
   .left;rw[h2];rfl
  .simp only[d5.st,dQ]at hj;obtain⟨o,hjo,rfl⟩:=hj;rcases gO j o hjo with ⟨k',o1,b1,b2,b3,b4,b5⟩ |⟨b1,b2⟩
   .exact⟨k',bI o1,by simp[d5.st,b2],.inl ⟨j,b1⟩,hf _ b1,b3,TC b4⟩
   .have⟨c1,o',c2,c3,c4⟩:=hko j b1;rw[b2]at c2;cases c2;have hid:pc f o=o:=by
     cases o with
     |ep c l=>rfl
     |map kc vc l=>rfl
     |cells sz rows=>
      simp only[pc];congr 1;have:∀q∈rows,Kz f q=q:=λq hq=>Ah q λi hi=>hfp i (c4 i (by
       simp only[ek,List.mem_flatten,mem_map];exact⟨_,⟨q,hq,rfl⟩,hi⟩))
      rw[map_congr_left this];simp
    obtain⟨r1,r2⟩:=JY (D:=λj=>DN m.nm j\/j∈sh.dC) f o (λ i hi=>hdp i (c4 i hi));rw[hid]at r1 r2;exact⟨j,bI o,by simp[d5.st,c3],.inr b1,nj j b1,r1,r2⟩
theorem Ext.trans{ds:Nat->Prop}{a b c:d5 X}(h:Ext ds a b)(h':Ext ds b c):Ext ds a c:=by
 refine⟨λ t ht=>?_,?_,Nat.le_trans h.nx h'.nx⟩
 .rcases h'.env t ht with h1 |h1
  .rcases h.env t ht with h2 |h2
   .exact .inl (h1.trans h2)
   .exact .inr (h1.trans h2)
  .exact .inr h1
 .obtain⟨d,h1,h2⟩:=h.obj;obtain⟨d',h3,h4⟩:=h'.obj;refine⟨d'++d,by rw[h3,h1,aO],λk hk hn=>?_⟩;simp only[bn,not_or]at hn;rcases h4 k (Nat.lt_of_lt_of_le hk h.nx) hn.1 with h5 |h5
  .rcases h2 k hk hn.2 with h6 |h6
   .exact .inl (h5.trans h6)
   .exact .inr (h5.trans h6)
  .exact .inr h5
theorem Ext.refl(ds:Nat->Prop)(s:d5 X):Ext ds s s:=⟨λ _ _=> .inl rfl,⟨[],by simp,λ_ _ _=> .inl rfl⟩,aG _⟩
def Says(s s':d5 X):Prop:=∀(P:Program) (w0:World) (O0:kx) (N:Nat) (β:Nat->J cV) (I:Nat->Prop) (a:Act) (w:World),Rel P w0 O0 N β I s.st a w->∃ β',Rel P w0 O0 N β' I s'.st a w
theorem Low.room{s:d5 X}{P:Program}{w0:World}{O0:kx}{N:Nat}{β:Nat->J cV}{I:Nat->Prop}{a:Act}{w:World}(hl:Low s)(hr:Rel P w0 O0 N β I s.st a w):∃ β2,β2 s.nx=none/\Rel P w0 O0 N β2 I s.st a w:=by
 have hr1:=hr.restrict hl.old
 have hr2:=Rel.re (f:=id) (g:=λj=>if j<s.nx then j else 1000000) (D:=(· <s.nx)) (s':=s.st) (λ k hk=>aZ hk) (λ j hj=>aZ (by have:=hl.ge;omega)) hr1 (λ _=> .inl rfl) (λ _=>rfl)
  (λ q=> .inr ⟨λ k hk=>hl.env q k (by rw[<- iO];exact hk),by
   show lL (gc id (den (fi s.env q))) (den (fi s.env q));rw[<- Af,Ws (f:=id) _ (λ _ _=>rfl)];exact lL.refl _⟩)
  (λ j o' hj=>by
   simp only[d5.st,dQ]at hj;obtain⟨x,hx,rfl⟩:=hj;have⟨h1,h2⟩:=hl.obj j x hx;have⟨r1,r2⟩:=JY (D:=(· <s.nx)) id x h2;have hid:pc id x=x:=by
    cases x with
    |ep c l=>rfl
    |map kc vc l=>rfl
    |cells sz rows=>
     simp only[pc];congr 1;have:∀q∈rows,Kz id q=q:=λq _=>Ah (f:=id) q λ_ _=>rfl;rw[map_congr_left this];simp
   rw[hid]at r1 r2;exact⟨j,bI x,by simp[d5.st,hx],h1,rfl,r1,r2⟩)
 exact⟨_,by simp,hr2⟩
theorem anU(z:Bool)(k:Nat):bk (nz (X:=X) z k)=[k]:=by cases z<;>rfl
theorem Wu{ds:U Nat}{z:Bool}{s:d5 X}{t:Nat}{c:CT X.ι}(hl:Low s)(ht:t∈ds):Low (AC z s t c)/\Ext (· ∈ds) s (AC z s t c)/\Says s (AC z s t c):=by
 unfold AC;split
 .rename_i hn;split
  .rename_i hlt;have he:∀q,fi ((t,nz z s.nx)::s.env) q=if t=q then nz z s.nx else fi s.env q:=λq=>by
    simp only[fi,lk];by_cases e:t=q<;>simp[e]
   have hO:∀q,hZ ((s.nx,some (.ep c []))::s.obj) q=if s.nx=q then some (.ep c [])else hZ s.obj q:=λq=>by
    simp only[hZ,lk];by_cases e:s.nx=q<;>simp[e]
   refine⟨⟨by show s.nx+1<=1000000;omega,by have:=hl.ge;show 1000<=s.nx+1;omega,λq k hk=>?_,λk o ho=>?_⟩,⟨λ q hq=>?_,⟨[s.nx],rfl,λk hk hnk=>?_⟩,by show s.nx<=s.nx+1;omega⟩,λP w0 O0 N β I a w hr=>?_⟩
   .rw[he]at hk;split at hk
    .simp only[anU,aR]at hk;subst hk;show s.nx<s.nx+1;omega
    .have:=hl.env q k hk;show k<s.nx+1;omega
   .rw[hO]at ho;split at ho
    .rename_i e;cases ho;subst e;exact⟨by show s.nx<s.nx+1;omega,by simp[ek]⟩
    .have⟨h1,h2⟩:=hl.obj k o ho;exact⟨by show k<s.nx+1;omega,λj hj=>by have:=h2 j hj;show j<s.nx+1;omega⟩
   .left;rw[he,aT];intro e;subst e;exact hq ht
   .left;rw[hO,aT (by omega)]
   .have⟨β2,E7,hr2⟩:=hl.room hr;have⟨hS,hM⟩:=Mem.pH (i:=s.nx) (o:=bI (.ep c []:bm X)) hr2.mem E7 rfl;refine⟨ins β2 s.nx .none,hr2.defers,hr2.size,λq=>?_,?_⟩
    .have h1:=hr2.env q;show fg P _ w I (den (fi ((t,nz z s.nx)::s.env) q)) none _;rw[he];by_cases e:t=q
     .subst e;rw[aZ rfl];have h2:VR P _ w I (den (fi s.env t)) (a.tmps.getD t undef):=h1;rw[hn]at h2;simp only[den,VR]at h2;cases z with
      |false=>simp only[fg,nz,ak,den,VR];exact .inl ⟨by simp[ins],h2,trivial,trivial⟩
      |true=>simp only[fg,nz,aj,den,VR];exact .inl ⟨trivial,h2⟩
     .rw[aT e];exact fg.mono hS.ext hS.same hS.inc h1
    .have e:(λ k=>(hZ ((s.nx,some (.ep c []))::s.obj) k).map bI)=dn s.st.obj [(s.nx,some (bI (.ep c []:bm X)))]:=by
      funext q;simp only[dn,d5.st];rw[hO];by_cases e:s.nx=q
      .simp[e]
      .rw[aT e,aT (Ne.symm e)]
     show Mem P w0 O0 _ I (λ k=>(hZ ((s.nx,some (.ep c []))::s.obj) k).map bI) w;rw[e];exact hM
  .exact⟨hl,Ext.refl _ s,λ_ _ _ _ β _ _ _ h=>⟨β,h⟩⟩
 .exact⟨hl,Ext.refl _ s,λ_ _ _ _ β _ _ _ h=>⟨β,h⟩⟩
theorem Wv(y:DV X):∀(l:U (DV X))(j i:Nat),i∈aS (l.set j y)->i∈aS l\/i∈bk y
 |[],_,_,h=> .inl (by simpa using h)
 |x::l,0,i,h=>by
  simp only[List.set,aS,bn]at h ⊢;rcases h with h |h
  .exact .inr h
  .exact .inl (.inr h)
 |x::l,j+1,i,h=>by
  simp only[List.set,aS,bn]at h ⊢;rcases h with h |h
  .exact .inl (.inl h)
  .rcases Wv y l j i h with h |h
   .exact .inl (.inr h)
   .exact .inr h
theorem bj.set{P:Program}{β:Nat->J cV}{w:World}{I:Nat->Prop}{y:AV}:∀(xs:U AV)(vs:U Value)(j:Nat),(∀ x v,xs[j]? =some x->VR P β w I x v->VR P β w I y v)->bj P β w I xs vs->bj P β w I (xs.set j y) vs
 |[],vs,_,_,h=>by simpa using h
 |x::xs,[],_,_,h=>by simp[bj]at h
 |x::xs,v::vs,0,hy,h=>by simp only[bj,List.set]at h ⊢;exact⟨hy x v rfl h.1,h.2⟩
 |x::xs,v::vs,j+1,hy,h=>by simp only[bj,List.set]at h ⊢;exact⟨h.1,bj.set xs vs j (λ x v e=>hy x v (by simpa using e)) h.2⟩
theorem OR.set1{P:Program}{β:Nat->J cV}{w:World}{I:Nat->Prop}{sz:Nat}{row:U AV}{j:Nat}{y:AV}{B:cV}(hy:∀x v,row[j]? =some x->VR P β w I x v->VR P β w I y v)(h:OR P β w I ⟨sz,[row]⟩ B):OR P β w I ⟨sz,[row.set j y]⟩ B:=by
 cases B with
 |none=>simp[OR]at h
 | «at» b s n=>
  obtain⟨h1,c,e,h2,h3,h4⟩:=h;refine⟨h1,c,e,h2,h3,?_⟩;simp only[bp,List.length_set]at h4 ⊢;refine⟨h4.1,?_,trivial⟩;rw[jy]at h4 ⊢;intro i x hx;rw[List.getElem?_set]at hx;split at hx
  .rename_i e;subst e;split at hx
   .cases hx;rename_i hlt;obtain⟨v,g1,g2,g3⟩:=h4.2.1 j _ (dU hlt);exact⟨v,g1,hy _ v (dU hlt) g2,g3⟩
   .cases hx
  .exact h4.2.1 i x hx
 |mp b=>
  obtain⟨es,cl,h1,hle,h2,h3⟩:=h;refine⟨es,cl,h1,hle,λe=>?_,h3⟩;have:=h2 e
  match hes:es.toList,this with
  |[e1],this=>simp only[cH]at this ⊢;exact⟨bj.set _ _ j hy this.1,trivial⟩
  |[],this=>simp[cH]at this
  |_::_::_,this=>simp[cH]at this
theorem adY(y:DV X):∀(l:U (DV X))(j:Nat),bS (l.set j y)=(bS l).set j (den y)
 |[],_=>by simp[bS]
 |x::l,0=>by simp[bS]
 |x::l,j+1=>by simp[bS,adY y l j]
theorem agD{ds:U Nat}{s:d5 X}{q j:Nat}{c:CT X.ι}(hl:Low s):Low (GB s q j c)/\Ext (· ∈ds) s (GB s q j c)/\Says s (GB s q j c):=by
 unfold GB;split
 .rename_i sz row hq;split
  .rename_i hn;split
   .rename_i hlt;have hqn:q<s.nx:=(hl.obj q _ hq).1;have hrefs:∀k∈aS row,k<s.nx:=λk hk=>(hl.obj q _ hq).2 k (by simpa[ek]using hk);have hO:∀k,hZ ((q,some (.cells sz [row.set j (.own s.nx 0 0)]))::(s.nx,some (.ep c []))::s.obj) k=if q=k then some (.cells sz [row.set j (.own s.nx 0 0)])else if s.nx=k then some (.ep c [])else hZ s.obj k:=λk=>by
     simp only[hZ,lk];by_cases e:q=k
     .simp[e]
     .by_cases e':s.nx=k<;>simp[e,e']
    refine⟨⟨by show s.nx+1<=1000000;omega,by have:=hl.ge;show 1000<=s.nx+1;omega,λk i hk=>by have:=hl.env k i hk;show i<s.nx+1;omega,λk o ho=>?_⟩,⟨λ _ _=> .inl rfl,⟨[q,s.nx],rfl,λk hk hnk=>?_⟩,by show s.nx<=s.nx+1;omega⟩,λP w0 O0 N β I a w hr=>?_⟩
    .rw[hO]at ho;split at ho
     .rename_i e;cases ho;subst e;refine⟨by show q<s.nx+1;omega,λi hi=>?_⟩;show i<s.nx+1;simp only[ek,aH,map_nil,flatten_cons,List.flatten_nil,append_nil]at hi;rcases Wv _ _ _ _ hi with h1 |h1
      .have:=hrefs i h1;omega
      .simp only[bk,aR]at h1;omega
     .split at ho
      .rename_i e;cases ho;subst e;exact⟨by show s.nx<s.nx+1;omega,by simp[ek]⟩
      .have⟨h1,h2⟩:=hl.obj k o ho;exact⟨by show k<s.nx+1;omega,λi hi=>by have:=h2 i hi;show i<s.nx+1;omega⟩
    .left;simp only[aQ,gG,or_false,not_or]at hnk;rw[hO,aT (Ne.symm hnk.1),aT (Ne.symm hnk.2)]
    .have⟨β2,E7,hr2⟩:=hl.room hr;have⟨hS,hM⟩:=Mem.pH (i:=s.nx) (o:=bI (.ep c []:bm X)) hr2.mem E7 rfl;refine⟨ins β2 s.nx .none,hr2.defers,hr2.size,λk=>fg.mono hS.ext hS.same hS.inc (hr2.env k),?_⟩;refine hM.weak λk o' ho=>?_;simp only[d5.st]at ho;rw[hO]at ho;by_cases e:q=k
     .subst e;rw[aZ rfl,Option.map_some]at ho;cases ho;refine⟨bI (.cells sz [row]),by simp only[dn];rw[aT (by omega)];simp[d5.st,hq],λB _ hB=>?_⟩;simp only[bI,aH,map_nil,adY]at hB ⊢;refine OR.set1 (λ x v hx hv=>?_) hB;rw[nV,List.getElem?_map,hn]at hx;cases hx;simp only[den,VR]at hv ⊢;exact .inl ⟨by simp[ins],hv,trivial,trivial⟩
     .rw[aT e]at ho;refine⟨o',?_,λ_ _ h=>h⟩;simp only[dn];by_cases e':s.nx=k
      .subst e';rw[aZ rfl]at ho ⊢;simpa using ho
      .rw[aT e']at ho;rw[aT (Ne.symm e')];exact ho
   .exact⟨hl,Ext.refl _ s,λ_ _ _ _ β _ _ _ h=>⟨β,h⟩⟩
  .exact⟨hl,Ext.refl _ s,λ_ _ _ _ β _ _ _ h=>⟨β,h⟩⟩
 .exact⟨hl,Ext.refl _ s,λ_ _ _ _ β _ _ _ h=>⟨β,h⟩⟩
theorem Ny{ds:U Nat}:∀(l:U (Nat×CT X.ι)){s:d5 X},Low s->(∀ p∈l,(bif Nat.ble 1000000 p.1 then !Nat.ble 1099511627776 p.1 || ds.contains (p.1 -1099511627776)else ds.contains p.1)=true)->Low (Qa l s)/\Ext (· ∈ds) s (Qa l s)/\Says s (Qa l s)
 |[],s,hl,_=>⟨hl,Ext.refl _ s,λ_ _ _ _ β _ _ _ h=>⟨β,h⟩⟩
 |(t,c)::r,s,hl,hd=>by
  generalize hs:(bif Nat.ble 1000000 t then bif Nat.ble 1099511627776 t then AC true s (t -1099511627776) c else GB s ((t -1000000)/4096) ((t -1000000)%4096) c else AC false s t c)=s1;have h0:Low s1/\Ext (· ∈ds) s s1/\Says s s1:=by
   have hd0:=hd (t,c) (by simp);simp only at hd0;subst hs;cases hb:Nat.ble 1000000 t with
   |true=>
    rw[hb]at hd0;cases hb2:Nat.ble 1099511627776 t with
    |true=>rw[hb2]at hd0;exact Wu hl (by simpa using hd0)
    |false=>exact agD hl
   |false=>rw[hb]at hd0;exact Wu hl (by simpa using hd0)
  obtain⟨h1,h2,h3⟩:=h0;simp only[Qa,hs];obtain⟨g1,g2,g3⟩:=Ny r h1 (λ p hp=>hd p (by simp[hp]));refine⟨g1,h2.trans g2,λP w0 O0 N β I a w hr=>?_⟩;have⟨β',hr'⟩:=h3 P w0 O0 N β I a w hr;exact g3 P w0 O0 N β' I a w hr'
theorem lD{A:Type}{sh:Sh X.ι}{ds:U Nat}{s0 s':d5 X}{k:VT (X:=X) sh.vars->J A}{r:A}(hl0:Low s0)(hl':Low s')(hx:Ext (· ∈ds) s0 s')(h:qy sh ds s0 s' k=some r):
 ∃v,k v=some r/\Low (encS sh s0 v)/\Ext (· ∈ds) s0 (encS sh s0 v)/\Says s' (encS sh s0 v):=by
 unfold qy at h;have⟨h1,h2⟩:=eH h;obtain⟨g1,g2,g3⟩:=Ny (ds:=ds) sh.A1 hl' (λ p hp=>all_eq_true.1 h1 p hp);have⟨v,i1,i2,i3,i4⟩:=abH hl0 (hx.trans g2) h2;refine⟨v,i1,i2,i3,λP w0 O0 N β I a w hr=>?_⟩;have⟨β',hr'⟩:=g3 P w0 O0 N β I a w hr;exact i4 P w0 O0 N β' I a w hr'
end
def gI:Code->U Nat
 | .region _ al _=>al.toList.filterMap (·.dst)
 | .seq a b=>gI a++gI b
 | .cond _ a b=>gI a++gI b
 | .block _ b=>gI b
 | .loop b=>gI b
 |_=>[]
section
variable {X:SX}
section
variable {P:Program} {N:Nat}
def Lg{A:Type}(ds:U Nat)(s:d5 X)(k:Exit->d5 X->J A)(r:A)(e:Exit)(σ:St):Prop:=∃s',Low s'/\Ext (· ∈ds) s s'/\σ=s'.st/\k e s'=some r
theorem aiH{c:Code}{Q Q':Exit->St->Prop}{σ:St}(h:Ev P N c Q σ)(ht:∀e σ,Q e σ->∀w0 O0 β I a w,Rel P w0 O0 N β I σ a w->∃ β' σ',Rel P w0 O0 N β' I σ' a w/\tI σ'/\Q' e σ'):Ev P N c Q' σ:=by
 intro w0 O0 β I a w hr ho;refine wp_mono (h w0 O0 β I a w hr ho) ?_;rintro e a' w' ⟨β',I',σ',h1,_,h3⟩;have⟨β2,σ2,g1,g2,g3⟩:=ht e σ' h3 w0 O0 β' I' a' w' h1;exact⟨β2,I',σ2,g1,g2,g3⟩
end
end
inductive Hn(ι:Type) where
 |z
 |f (l:List Nat)
 |s (a b:Hn ι)
 |b (a:Hn ι)
 |j (sh:Sh ι) (a:Hn ι)
 |jx (sh:Sh ι) (a:Hn ι)
 |l (head:Sh ι) (id:Nat) (ab:Sh ι) (a:Hn ι)
 |lx (head:Sh ι) (id:Nat) (ab:Sh ι) (a:Hn ι)
 |rg (head:Sh ι) (a:Hn ι)
 |un (a r:Hn ι)
def Hn.fz{ι:Type}:Hn ι->U Nat
 | .f is=>is
 |_=>[]
def Hn.fst{ι:Type}:Hn ι->Hn ι
 | .s a _=>a
 |_=> .z
def Hn.snd{ι:Type}:Hn ι->Hn ι
 | .s _ y=>y
 |_=> .z
def Hn.sub{ι:Type}:Hn ι->Hn ι
 | .b a=>a
 |_=> .z
def iter{V O:Type}(step:V->J (V⊕O)):Nat->V->J O
 | 0,_=>none
 |n+1,v=>(step v).bind λr=>match r with
  | .inl v=>iter step n v
  | .inr o=>some o
def L4{X:SX}{A:Type}(body:Hn X.ι->d5 X->(Exit->d5 X->J A)->J A):Hn X.ι->d5 X->(Exit->d5 X->J A)->J A
 | .un a r,s,k=>body a s λe s'=>match e with
  | .normal=>L4 body r s' k
  |e=>k e s'
 |_,_,_=>none
def dH{W A:Type}(o:J (W⊕A))(f:W->J A):J A:=o.bind λr=>match r with
 | .inl w=>f w
 | .inr a=>some a
noncomputable def both{A:Type}(x y:J A):J A:=open Classical in if x=y then x else none
theorem ajU{A:Type}{x y:J A}{r:A}(h:both x y=some r):x=some r/\y=some r:=by
 unfold both at h;split at h
 .rename_i e;exact⟨h,e ▸ h⟩
 .cases h
theorem ajV{A:Type}(x:J A):both x x=x:=by simp[both]
section
variable {X:SX}
def GS(ds:U Nat)(s:d5 X)(h:Hn X.ι){A:Type}(k:Exit->d5 X->J A)(body:(B:Type)->Hn X.ι->(Exit->d5 X->J B)->J B):J A:=
 match h with
 | .j sh h'=>(body (VT (X:=X) sh.vars) h' λe s'=>match e with
  | .normal=>qy sh ds s s' some
  |_=>none).bind λv=>k .normal (encS sh s v)
 | .jx sh h'=>dH (body (VT (X:=X) sh.vars⊕A) h' λe s'=>match e with
  | .normal=>qy sh ds s s' λv=>some (.inl v)
  |e=>(k e s').map .inr) λv=>k .normal (encS sh s v)
 |h=>body A h k
variable (Γ:FuncId->Option (cp X)) (T:er) (am:TypeId->Option (CT X.ι)) (N n:Nat)
noncomputable def run:Code->(A:Type)->Hn X.ι->d5 X->(Exit->d5 X->J A)->J A
 | .skip,_,_,s,k=>k .normal s
 | .region id al d,A,h,s,k=>GS (gI (.region id al d)) s h k λ_ h k=>agC Γ h.fz T am N al d s (k .normal)
 | .seq x y,A,h,s,k=>GS (gI (.seq x y)) s h k λB h k=>run x B h.fst s λe s'=>match e with
  | .normal=>run y B h.snd s' k
  |e=>k e s'
 | .cond c x y,A,h,s,k=>GS (gI (.cond c x y)) s h k λB h k=>match YH (fi s.env) c with
  | .c .bool v=>bif v then run x B h.fst s k else run y B h.snd s k
  | .ub=>both (run x B h.fst s k) (run y B h.snd s k)
  |_=>none
 | .block id b,A,h,s,k=>GS (gI (.block id b)) s h k λB h k=>run b B h.sub s λe s'=>match e with
  | .exit j=>if j=id then k .normal s' else k (.exit j) s'
  |e=>k e s'
 | .loop b,A,h,s,k=>match h with
  | .l hd id ab h'=>qy hd (gI b) s s λv0=>(iter (λ v=>run b (VT (X:=X) hd.vars⊕VT (X:=X) ab.vars) h' (encS hd s v) λe s'=>match e with
   | .normal=>qy hd (gI b) s s' λv=>some (.inl v)
   | .exit j=>if j=id then qy ab (gI b) s s' λw=>some (.inr w)else none
   |_=>none) n v0).bind λw=>k (.exit id) (encS ab s w)
  | .lx hd id ab h'=>qy hd (gI b) s s λv0=>dH (iter (λ v=>run b (VT (X:=X) hd.vars⊕(VT (X:=X) ab.vars⊕A)) h' (encS hd s v) λe s'=>match e with
   | .normal=>qy hd (gI b) s s' λv=>some (.inl v)
   | .exit j=>if j=id then qy ab (gI b) s s' λw=>some (.inr (.inl w))else(k (.exit j) s').map λa=> .inr (.inr a)
   |e=>(k e s').map λa=> .inr (.inr a)) n v0) λw=>k (.exit id) (encS ab s w)
  | .un a r=>L4 (λ h s k=>run b A h s k) (.un a r) s k
  |_=>none
 | .exit id,_,_,s,k=>k (.exit id) s
 | .ret,_,_,s,k=>k .ret s
 | .label _,_,_,s,k=>k .normal s
 |_,_,_,_,_=>none
section
variable {Γ:FuncId->Option (cp X)} {T:er} {am:TypeId->Option (CT X.ι)} {N n:Nat} {P:Program}
theorem Ext.wide{ds ds':Nat->Prop}{a b:d5 X}(h:Ext ds a b)(hd:∀t,ds t->ds' t):Ext ds' a b:=⟨λ t ht=>h.env t λhh=>ht (hd t hh),h.obj,h.nx⟩
theorem map_inr{α β:Type}{o:J β}{r:α⊕β}(h:o.map Sum.inr=some r):∃b,o=some b/\r= .inr b:=by
 cases o with
 |none=>cases h
 |some b=>injection h with h;exact⟨b,rfl,h.symm⟩
theorem Ep{c:Code}{s:d5 X}{h:Hn X.ι}{A:Type}{k:Exit->d5 X->J A}{r:A}{body:(B:Type)->Hn X.ι->(Exit->d5 X->J B)->J B}(hl:Low s)
 (hb:∀(B:Type)(h:Hn X.ι)(k:Exit->d5 X->J B)(r:B),body B h k=some r->Ev P N c (Lg (gI c) s k r) s.st) (hr:GS (gI c) s h k body=some r):Ev P N c (Lg (gI c) s k r) s.st:=by
 unfold GS at hr;split at hr
 .rename_i sh h';rw[ai]at hr;obtain⟨v,h1,hr⟩:=hr;refine aiH (hb _ _ _ _ h1) ?_;rintro e σ ⟨s',g1,g2,rfl,g4⟩ w0 O0 β I a w hrel;cases e<;>simp only[reduceCtorEq]at g4;have⟨v',i1,i2,i3,i4⟩:=lD hl g1 g2 g4;cases i1;have⟨β',i5⟩:=i4 P w0 O0 N β I a w hrel;exact⟨β',_,i5,i2.old,_,i2,i3,rfl,hr⟩
 .rename_i sh h';unfold dH at hr;have⟨v,h1,hr⟩:=ai.1 hr;refine aiH (hb _ _ _ _ h1) ?_;rintro e σ ⟨s',g1,g2,rfl,g4⟩ w0 O0 β I a w hrel;have other:(k e s').map Sum.inr=some v->∃ β' σ',Rel P w0 O0 N β' I σ' a w/\tI σ'/\Lg (gI c) s k r e σ':=by
   intro hm;obtain⟨b,hk,rfl⟩:=map_inr hm;cases hr;exact⟨β,_,hrel,g1.old,s',g1,g2,rfl,hk⟩
  cases e with
  |normal=>
   simp only at g4;have⟨v',i1,i2,i3,i4⟩:=lD hl g1 g2 g4;cases i1;have⟨β',i5⟩:=i4 P w0 O0 N β I a w hrel;exact⟨β',_,i5,i2.old,_,i2,i3,rfl,hr⟩
  |_=>exact other g4
 .exact hb _ _ _ _ hr
theorem ajW{id:Nat}{al:Array Oper}{d:Bool}{t:Nat}(h:RQ al t):t∈gI (.region id al d):=by
 obtain⟨j,op,h1,h2⟩:=h;simp only[gI,List.mem_filterMap];exact⟨op,by rw[<- Array.getElem?_toList]at h1;exact dD h1,h2⟩
theorem Ww{b:Code}{s:d5 X}{hd:Sh X.ι}{O:Type}{step:VT (X:=X) hd.vars->J (VT (X:=X) hd.vars⊕O)}{kb:Exit->d5 X->J (VT (X:=X) hd.vars⊕O)}{Q:Exit->St->Prop}(hl:Low s)
 (hkn:∀s',kb .normal s'=qy hd (gI b) s s' λv=>some (.inl v))
 (hstep:∀v r,Low (encS hd s v)->step v=some r->Ev P N b (Lg (gI b) (encS hd s v) kb r) (encS hd s v).st)
 {o:O} (hQ:∀e s',e≠ .normal->Low s'->Ext (· ∈gI b) s s'->kb e s'=some (.inr o)->∀w0 O0 β I a w,Rel P w0 O0 N β I s'.st a w->∃ β' σ',Rel P w0 O0 N β' I σ' a w/\tI σ'/\Q e σ')
 (hno:∀e s' v,e≠ .normal->kb e s'=some (.inl v)->False) (n:Nat) (v0:VT (X:=X) hd.vars) (h:iter step n v0=some o) (hl0:Low (encS hd s v0)) (hx0:Ext (· ∈gI b) s (encS hd s v0)):Ev P N (.loop b) Q (encS hd s v0).st:=by
 intro w0 O0 β I a w hr ho;refine ZO (λ n a w=>∃ β I v,Rel P w0 O0 N β I (encS hd s v).st a w/\iter step n v=some o/\Low (encS hd s v)/\Ext (· ∈gI b) s (encS hd s v)) (λ a w ⟨_,_,v,_,h,_⟩=>by cases h) ?_ n a w ⟨β,I,v0,hr,h,hl0,hx0⟩;rintro n a w ⟨β,I,v,hr,hi,hlv,hxv⟩;simp only[iter]at hi;have⟨r,h1,hi⟩:=ai.1 hi;refine wp_mono (hstep v r hlv h1 w0 O0 β I a w hr hlv.old) ?_;rintro e a' w' ⟨β',I',σ',g1,_,s',g2,g3,rfl,g4⟩;have hxs:=hxv.trans g3;by_cases he:e= .normal
 .subst he;rw[hkn]at g4;have⟨v',i1,i2,i3,i4⟩:=lD hl g2 hxs g4;cases i1;have⟨β2,i5⟩:=i4 P w0 O0 N β' I' a' w' g1;exact⟨β2,I',v',i5,hi,i2,i3⟩
 .cases r with
  |inl v'=>exact(hno e s' v' he g4).elim
  |inr o'=>
   cases hi;have⟨β2,σ2,i1,i2,i3⟩:=hQ e s' he g2 hxs g4 w0 O0 β' I' a' w' g1;cases e with
   |normal=>exact(he rfl).elim
   |_=>exact⟨β2,I',σ2,i1,i2,i3⟩
theorem Wx{A:Type}{sh:Sh X.ι}{ds:U Nat}{s0 s':d5 X}{k:VT (X:=X) sh.vars->J A}{r:A}(h:qy sh ds s0 s' k=some r):∃v,k v=some r:=by
 unfold qy at h;have⟨_,h⟩:=eH h;unfold P0 at h;have⟨m1,h1,h⟩:=ai.1 h;have⟨m,h2,h⟩:=ai.1 h;have⟨h3,h⟩:=eH h;have⟨v,h4,h⟩:=ai.1 h;exact⟨v,(pV h).2⟩
theorem adZ{α β γ:Type}{o:J γ}{r:α⊕(β⊕γ)}(h:o.map (λ a=>Sum.inr (Sum.inr a))=some r):∃b,o=some b/\r= .inr (.inr b):=by
 cases o with
 |none=>cases h
 |some b=>injection h with h;exact⟨b,rfl,h.symm⟩
def Hn.len{ι:Type}:Hn ι->Nat
 | .un _ r=>r.len+1
 |_=>0
theorem ajX{b:Code}{A:Type}{body:Hn X.ι->d5 X->(Exit->d5 X->J A)->J A}{s0:d5 X}{k:Exit->d5 X->J A}{r:A}
 (hb:∀(h:Hn X.ι)(s:d5 X)(k:Exit->d5 X->J A)(r:A),Low s->body h s k=some r->Ev P N b (Lg (gI b) s k r) s.st)
 {h:Hn X.ι} (hl:Low s0) (hr:L4 body h s0 k=some r):Ev P N (.loop b) (Lg (gI (.loop b)) s0 k r) s0.st:=by
 refine anE (λ n σ=>∃(h:Hn X.ι)(s:d5 X),σ=s.st/\h.len=n/\Low s/\Ext (· ∈gI b) s0 s/\L4 body h s k=some r) ?_ ?_ h.len ⟨h,s0,rfl,rfl,hl,Ext.refl _ s0,hr⟩
 .rintro σ ⟨h,s,_,h1,_,_,h2⟩;cases h<;>first |cases h2 |cases h1
 .rintro n σ ⟨h,s,rfl,h1,h2,h3,h4⟩;cases h<;>try cases h4
  rename_i a q;simp only[Hn.len,Nat.add_right_cancel_iff]at h1;refine(hb a s _ r h2 h4).mono ?_;rintro e σ ⟨s',g1,g2,rfl,g4⟩;have hx:=h3.trans g2;cases e with
  |normal=>exact⟨q,s',rfl,h1,g1,hx,g4⟩
  |_=>exact⟨s',g1,hx,rfl,g4⟩
theorem kS(hT:fu P T)(hm:P.follows .mixedOrders=true)(hΓ:sE P Γ):∀(c:Code)(A:Type)(h:Hn X.ι)(s:d5 X)(k:Exit->d5 X->J A)(r:A),Low s->run Γ T am N n c A h s k=some r->Ev P N c (Lg (gI c) s k r) s.st
 | .skip,A,h,s,k,r,hl,hr=>anB ⟨s,hl,Ext.refl _ s,rfl,hr⟩
 | .exit id,A,h,s,k,r,hl,hr=>anC ⟨s,hl,Ext.refl _ s,rfl,hr⟩
 | .ret,A,h,s,k,r,hl,hr=>apa ⟨s,hl,Ext.refl _ s,rfl,hr⟩
 | .label l,A,h,s,k,r,hl,hr=>alc ⟨s,hl,Ext.refl _ s,rfl,hr⟩
 | .region id al d,A,h,s,k,r,hl,hr=>by
  refine Ep hl (λ B h k r hb=>?_) hr;have⟨s',g1,g2,g3,g4⟩:=abF (id:=id) hT hm hΓ hl hb;exact g4.mono λe σ ⟨he,hσ⟩=>⟨s',g2,g3.wide λt ht=>ajW ht,hσ,by rw[he];exact g1⟩
 | .seq x y,A,h,s,k,r,hl,hr=>by
  refine Ep hl (λ B h k r hb=>?_) hr;refine apb ((kS hT hm hΓ x B _ s _ r hl hb).mono ?_);rintro e σ ⟨s',g1,g2,rfl,g4⟩;have wide:Ext (· ∈gI (.seq x y)) s s':=g2.wide λt ht=>by simp[gI,ht]
  cases e with
  |normal=>
   exact(kS hT hm hΓ y B _ s' k r g1 g4).mono λe σ ⟨s2,i1,i2,i3,i4⟩=>⟨s2,i1,wide.trans (i2.wide λt ht=>by simp[gI,ht]),i3,i4⟩
  |_=>exact⟨s',g1,wide,rfl,g4⟩
 | .cond c x y,A,h,s,k,r,hl,hr=>by
  refine Ep hl (λ B h k r hb=>?_) hr;split at hb
  .rename_i v hv;refine anD v (λ _ _=>rfl) ?_ ?_
   .have:=Vw (fi s.env) c;rw[hv]at this;exact this.symm
   .cases v with
    |true=>exact(kS hT hm hΓ x B _ s k r hl hb).mono λe σ ⟨s2,i1,i2,i3,i4⟩=>⟨s2,i1,i2.wide λt ht=>by simp[gI,ht],i3,i4⟩
    |false=>exact(kS hT hm hΓ y B _ s k r hl hb).mono λe σ ⟨s2,i1,i2,i3,i4⟩=>⟨s2,i1,i2.wide λt ht=>by simp[gI,ht],i3,i4⟩
  .rename_i hv;have⟨hb1,hb2⟩:=ajU hb;refine af5 (λ _ _=>rfl) ?_ ?_ ?_
   .have:=Vw (fi s.env) c;rw[hv]at this;exact this.symm
   .exact(kS hT hm hΓ x B _ s k r hl hb1).mono λe σ ⟨s2,i1,i2,i3,i4⟩=>⟨s2,i1,i2.wide λt ht=>by simp[gI,ht],i3,i4⟩
   .exact(kS hT hm hΓ y B _ s k r hl hb2).mono λe σ ⟨s2,i1,i2,i3,i4⟩=>⟨s2,i1,i2.wide λt ht=>by simp[gI,ht],i3,i4⟩
  .cases hb
 | .block id b,A,h,s,k,r,hl,hr=>by
  refine Ep hl (λ B h k r hb=>?_) hr;refine ald ((kS hT hm hΓ b B _ s _ r hl hb).mono ?_);rintro e σ ⟨s',g1,g2,rfl,g4⟩;cases e with
  |exit j=>
   simp only[af4];simp only at g4;split
   .rw[aZ ‹_›]at g4;exact⟨s',g1,g2,rfl,g4⟩
   .rw[aT ‹_›]at g4;exact⟨s',g1,g2,rfl,g4⟩
  |_=>exact⟨s',g1,g2,rfl,g4⟩
 | .loop b,A,h,s,k,r,hl,hr=>by
  simp only[run]at hr;split at hr
  .rename_i hd id ab h';obtain⟨v0,h1,h2,h3,h4⟩:=lD hl hl (Ext.refl _ s) hr;rw[ai]at h1;obtain⟨w,h5,h6⟩:=h1;intro w0 O0 β I a ww hrel ho;have⟨β',hrel'⟩:=h4 P w0 O0 N β I a ww hrel;refine Ww (Q:=Lg (gI (.loop b)) s k r) hl (λ s'=>rfl) (λ v r hlv hs=>kS hT hm hΓ b _ h' (encS hd s v) _ r hlv hs) (λ e s' he hls hxs hk=>?_) (λ e s' v he hk=>?_) n v0 h5 h2 h3 w0 O0 β' I a ww hrel' h2.old
   .cases e with
    |exit j=>
     simp only at hk;split at hk
     .rename_i hj;subst hj;have⟨w',i1,i2,i3,i4⟩:=lD hl hls hxs hk;injection i1 with i1;cases i1;intro w0 O0 β I a ww hrel;have⟨β',hrel'⟩:=i4 P w0 O0 N β I a ww hrel;exact⟨β',_,hrel',i2.old,_,i2,i3,rfl,h6⟩
     .cases hk
    |normal=>exact(he rfl).elim
    |_=>cases hk
   .cases e with
    |exit j=>
     simp only at hk;split at hk
     .have⟨w',i1⟩:=Wx hk;injection i1 with i1;cases i1
     .cases hk
    |normal=>exact he rfl
    |_=>cases hk
  .rename_i hd id ab h';obtain⟨v0,h1,h2,h3,h4⟩:=lD hl hl (Ext.refl _ s) hr;unfold dH at h1;rw[ai]at h1;obtain⟨w,h5,h6⟩:=h1;intro w0 O0 β I a ww hrel ho;have⟨β',hrel'⟩:=h4 P w0 O0 N β I a ww hrel;refine Ww (Q:=Lg (gI (.loop b)) s k r) hl (λ s'=>rfl) (λ v r hlv hs=>kS hT hm hΓ b _ h' (encS hd s v) _ r hlv hs) (λ e s' he hls hxs hk=>?_) (λ e s' v he hk=>?_) n v0 h5 h2 h3 w0 O0 β' I a ww hrel' h2.old
   .intro w0 O0 β I a ww hrel;have other:(k e s').map (λ a=>Sum.inr (Sum.inr a))=some (Sum.inr w:VT (X:=X) hd.vars⊕(VT (X:=X) ab.vars⊕A))->∃ β' σ',Rel P w0 O0 N β' I σ' a ww/\tI σ'/\Lg (gI (.loop b)) s k r e σ':=by
     intro hm;have⟨q,hq,hr⟩:=adZ hm;cases hr;cases h6;exact⟨β,_,hrel,hls.old,s',hls,hxs,rfl,hq⟩
    cases e with
    |exit j=>
     simp only at hk;split at hk
     .rename_i hj;subst hj;have⟨w',i1,i2,i3,i4⟩:=lD hl hls hxs hk;injection i1 with i1;cases i1;have⟨β',hrel'⟩:=i4 P w0 O0 N β I a ww hrel;exact⟨β',_,hrel',i2.old,_,i2,i3,rfl,h6⟩
     .exact other hk
    |normal=>exact(he rfl).elim
    |_=>exact other hk
   .have other:(k e s').map (λ a=>Sum.inr (Sum.inr a))=some (Sum.inl v:VT (X:=X) hd.vars⊕(VT (X:=X) ab.vars⊕A))->False:=by
     intro hm;have⟨q,hq,hr⟩:=adZ hm;cases hr
    cases e with
    |exit j=>
     simp only at hk;split at hk
     .have⟨w',i1⟩:=Wx hk;injection i1 with i1;cases i1
     .exact other hk
    |normal=>exact he rfl
    |_=>exact other hk
  .exact ajX (body:=λh s k=>run Γ T am N n b A h s k) (λ h s k r hl h1=>kS hT hm hΓ b A h s k r hl h1) hl hr
  .cases hr
 | .rangeFunc ..,_,_,_,_,_,_,hr=>by cases hr
 | .scope _,_,_,_,_,_,_,hr=>by cases hr
 | .goto _,_,_,_,_,_,_,hr=>by cases hr
 | .refuse _,_,_,_,_,_,_,hr=>by cases hr
end
end
section
variable {X:SX}
def jF:Nat->(l:U (AT X.ι))->iH X l->U (DV X)
 |_,[],_=>[]
 |n,.d c::l,a=> .c c a.1::jF n l a.2
 |n,.ref c::l,a=> .rp c a.1 0::jF n l a.2
 |n,.eo as r::l,a=> .eo as r a.1::jF n l a.2
 |n,.mut _::l,a=> .own n 0 (List.length a.1)::jF (n+1) l a.2
 |n,.js _::l,a=> .ptr n 0 0::jF (n+1) l a.2
 |n,.nil::l,a=> .nil::jF n l a.2
def Bl:(l:U (AT X.ι))->iH X l->U (bm X)
 |[],_=>[]
 | .mut c::l,a=> .ep c a.1::Bl l a.2
 | .js c::l,a=> .cells (CT.sz X c) [uX c a.1]::Bl l a.2
 | .d _::l,a=>Bl l a.2
 | .ref _::l,a=>Bl l a.2
 | .eo _ _::l,a=>Bl l a.2
 | .nil::l,a=>Bl l a.2
theorem sD:∀(n:Nat)(l:U (AT X.ι))(a:iH X l),bS (jF n l a)=dV n l a
 |_,[],_=>rfl
 |n,.d c::l,a=>by simp only[jF,bS,den,dV,sD n l a.2]
 |n,.ref c::l,a=>by simp only[jF,bS,den,dV,sD n l a.2]
 |n,.eo as r::l,a=>by simp only[jF,bS,dV,sD n l a.2]
 |n,.mut c::l,a=>by simp only[jF,bS,den,dV,sD (n+1) l a.2]
 |n,.js c::l,a=>by simp only[jF,bS,den,dV,sD (n+1) l a.2]
 |n,.nil::l,a=>by simp only[jF,bS,den,dV,sD n l a.2]
theorem wC:∀(l:U (AT X.ι))(a:iH X l),(Bl l a).map bI=(qp l a).map ia
 |[],_=>rfl
 | .d _::l,a=>wC l a.2
 | .ref _::l,a=>wC l a.2
 | .eo _ _::l,a=>wC l a.2
 | .nil::l,a=>wC l a.2
 | .mut c::l,a=>by simp only[Bl,qp,aH,wC l a.2];rfl
 | .js c::l,a=>by simp only[Bl,qp,aH,wC l a.2,bI,ia,rO,aK,map_nil,pu]
theorem pE:∀(n:Nat)(l:U (AT X.ι))(a:iH X l),∀k∈aS (jF n l a),k<n+qx l
 |_,[],_,k,hk=>by simp[jF,aS]at hk
 |n,.d c::l,a,k,hk=>by
  have:=pE n l a.2 k (by simpa[jF,aS,bk]using hk);simpa[qx,AT.im]using this
 |n,.ref c::l,a,k,hk=>by
  have:=pE n l a.2 k (by simpa[jF,aS,bk]using hk);simpa[qx,AT.im]using this
 |n,.eo as r::l,a,k,hk=>by
  have:=pE n l a.2 k (by simpa[jF,aS,bk]using hk);simpa[qx,AT.im]using this
 |n,.nil::l,a,k,hk=>by
  have:=pE n l a.2 k (by simpa[jF,aS,bk]using hk);simpa[qx,AT.im]using this
 |n,.mut c::l,a,k,hk=>by
  simp only[jF,aS,bk,List.singleton_append,aQ]at hk;simp only[qx,AT.im,if_true];rcases hk with rfl |hk
  .omega
  .have:=pE (n+1) l a.2 k hk;omega
 |n,.js c::l,a,k,hk=>by
  simp only[jF,aS,bk,List.singleton_append,aQ]at hk;simp only[qx,AT.im,if_true];rcases hk with rfl |hk
  .omega
  .have:=pE (n+1) l a.2 k hk;omega
theorem lF:∀(n:Nat)(l:U (AT X.ι))(a:iH X l),(dV n l a).length=l.length
 |_,[],_=>rfl
 |n,.d c::l,a=>by simp only[dV,bG,lF n l a.2]
 |n,.ref c::l,a=>by simp only[dV,bG,lF n l a.2]
 |n,.eo as r::l,a=>by simp only[dV,bG,lF n l a.2]
 |n,.mut c::l,a=>by simp only[dV,bG,lF (n+1) l a.2]
 |n,.js c::l,a=>by simp only[dV,bG,lF (n+1) l a.2]
 |n,.nil::l,a=>by simp only[dV,bG,lF n l a.2]
theorem lG:∀(l:U (AT X.ι))(a:iH X l),(qp l a).length=qx l
 |[],_=>rfl
 | .d _::l,a=>by simpa[qx,AT.im,qp]using lG l a.2
 | .ref _::l,a=>by simpa[qx,AT.im,qp]using lG l a.2
 | .eo _ _::l,a=>by simpa[qx,AT.im,qp]using lG l a.2
 | .nil::l,a=>by simpa[qx,AT.im,qp]using lG l a.2
 | .mut _::l,a=>by simp only[qp,bG,lG l a.2,qx,AT.im,if_true];omega
 | .js _::l,a=>by simp only[qp,bG,lG l a.2,qx,AT.im,if_true];omega
def xi(l:U (AT X.ι))(a:iH X l):d5 X:=⟨(List.range l.length).zip (jF 0 l a),(List.range (Bl l a).length).zip ((Bl l a).map some),1000,[]⟩
theorem aiI(l:U (AT X.ι))(a:iH X l)(k:Nat):hZ (xi l a).obj k=(Bl l a)[k]? :=by
 have h:(List.range (Bl l a).length).zip ((Bl l a).map some)=(List.range ((Bl l a).map some).length).zip ((Bl l a).map some):=by rw[length_map]
 simp only[xi,hZ];rw[h,Bf,List.getElem?_map];cases (Bl l a)[k]?<;>rfl
theorem apq(l:U (AT X.ι))(a:iH X l):(xi l a).st=rI.st ⟨(List.range (wu l a).length).zip (wu l a),(List.range ((qp l a).map ia).length).zip ((qp l a).map ia)⟩:=by
 have ho:∀k,((hZ (xi l a).obj k).map bI)=lk ((List.range ((qp l a).map ia).length).zip ((qp l a).map ia)) k:=by
  intro k;rw[Bf,aiI,<- wC,List.getElem?_map]
 simp only[d5.st,rI.st,St.mk.injEq,and_true];refine⟨?_,funext ho⟩;funext t;simp only[xi];rw[lF,wu,<- sD];generalize jF 0 l a=ds;have:∀(ks:U Nat)(ds:U (DV X)),den (fi (ks.zip ds) t)=(lk (ks.zip (bS ds)) t).getD .undef:=by
  intro ks
  induction ks with
  |nil=>intro ds;rfl
  |cons k ks ih=>
   intro ds;cases ds with
   |nil=>rfl
   |cons d ds=>
    simp only[List.zip_cons_cons,fi,lk,bS];by_cases h:k=t
    .simp[h]
    .simp only[aT h];exact ih ds
 exact this _ _
theorem anV(l:U (AT X.ι))(a:iH X l)(hm:qx l<=1000):Low (xi l a):=by
 refine⟨by show 1000<=1000000;decide,aG _,λt k hk=>?_,λk o ho=>?_⟩
 .have h0:=pE 0 l a;simp only[xi]at hk;generalize jF 0 l a=ds at hk h0;have:∀(ks:U Nat)(ds:U (DV X)),(∀ k∈aS ds,k<0+qx l)->∀k∈bk (fi (ks.zip ds) t),k<1000:=by
   intro ks
   induction ks with
   |nil=>intro ds _ k hk;simp[fi,lk,bk]at hk
   |cons k ks ih=>
    intro ds h j hj;cases ds with
    |nil=>simp[fi,lk,bk]at hj
    |cons d ds=>
     simp only[List.zip_cons_cons,fi,lk]at hj;by_cases e:k=t
     .simp only[aZ e,Option.getD_some]at hj;have:=h j (by simp[aS,hj]);omega
     .simp only[aT e]at hj;exact ih ds (λ k hk=>h k (by simp[aS,hk])) j hj
  exact this _ _ h0 k hk
 .rw[aiI]at ho;have hl:(Bl l a).length=qx l:=by rw[<- lG l a];simpa using congrArg List.length (wC l a)
  refine⟨by have:=(dJ.1 ho).1;show k<1000;omega,λj hj=>?_⟩;have hz:∀(l:U (AT X.ι))(a:iH X l),∀o∈Bl l a,ek o=[]:=by
   intro l
   induction l with
   |nil=>intro a o ho;simp[Bl]at ho
   |cons q l ih=>
    intro a o ho;cases q<;>simp only[Bl,aQ]at ho
    case «mut» c=>rcases ho with rfl |ho;rfl;exact ih _ o ho
    case js c=>
     rcases ho with rfl |ho
     .have h1:aS (uX c a.1)=[]:=by
       rw[<- gZ,pu];generalize CT.row X.toSE c a.1=r
       induction r with
       |nil=>rfl
       |cons y ys ih=>simp only[aH,fe,refs,ih,bT]
      simp[ek,h1]
     .exact ih _ o ho
    all_goals exact ih _ o ho
  rw[hz l a o (dD ho)]at hj;cases hj
variable (T:er)
def Gk(s:d5 X):ResultVar->J (DV X)
 | .tmp t=>some (fi s.env t)
 | .cell a t=>(T t).bind λti=>match fi s.env a with
  | .ptr kk row aa=>(hZ s.obj kk).bind λo=>match o with
   | .cells _ rows=>(rows[row]?).bind λr=>H8 ti.agg ti.size ((r.drop aa).take ti.size)
   |_=>none
  |_=>none
def Wy(s:d5 X):U ResultVar->J (List (DV X))
 |[]=>some []
 |r::rs=>(Gk T s r).bind λv=>(Wy s rs).bind λvs=>some (v::vs)
theorem alF{s:d5 X}{r:ResultVar}{d:DV X}(h:Gk T s r=some d):PL T s.st r=some (den d):=by
 cases r with
 |tmp t=>simp only[Gk,aC]at h;subst h;rfl
 |cell a t=>
  simp only[Gk]at h;rw[ai]at h;obtain⟨ti,h1,h⟩:=h;split at h
  .rename_i kk row aa hp;rw[ai]at h;obtain⟨o,h2,h⟩:=h;split at h
   .rename_i sz rows;have⟨q,h3,h⟩:=ai.1 h;have h4:=CB h;rw[ko]at h4
    show(match Uu T t (den (fi s.env a)) (λ k=>(hZ s.obj k).map bI)with
     |some ⟨v,[],[]⟩=>some v
     |_=>none)=some (den d)
    simp only[Uu,K6,h1,af,hp,den,h2,Option.map_some,bI,List.getElem?_map,h3,h4,pv]
   .cases h
  .cases h
def YP{A:Type}(s:d5 X):U ResultVar->(List (DV X)->J A)->J A
 |[],k=>k []
 | .tmp t::rs,k=>YP s rs λvs=>k (fi s.env t::vs)
 | .cell a t::rs,k=>(T t).bind λti=>match fi s.env a with
  | .ptr kk row aa=>(hZ s.obj kk).bind λo=>match o with
   | .cells _ rows=>(rows[row]?).bind λr=>(H8 ti.agg ti.size ((r.drop aa).take ti.size)).bind λv=>YP s rs λvs=>k (v::vs)
   |_=>none
  |_=>none
theorem J2{A:Type}{s:d5 X}:∀{rs:U ResultVar}{k:U (DV X)->J A}{r:A},YP T s rs k=some r->∃ds,Wy T s rs=some ds/\k ds=some r
 |[],k,r,h=>⟨[],rfl,h⟩
 | .tmp t::rs,k,r,h=>by
  have⟨ds,h1,h2⟩:=J2 (rs:=rs) h;exact⟨_,by simp only[Wy,Gk,h1,af],h2⟩
 | .cell a t::rs,k,r,h=>by
  simp only[YP]at h;rw[ai]at h;obtain⟨ti,h1,h⟩:=h;split at h
  .rename_i kk row aa hp;have⟨o,h2,h⟩:=ai.1 h;split at h
   .have⟨q,h3,h⟩:=ai.1 h;have⟨v,h4,h⟩:=ai.1 h;have⟨ds,h5,h6⟩:=J2 (rs:=rs) h;exact⟨_,by simp only[Wy,Gk,h1,hp,h2,h3,h4,h5,af],h6⟩
   .cases h
  .cases h
theorem Qb{s:d5 X}:∀{rs:U ResultVar}{ds:U (DV X)},Wy T s rs=some ds->nE T s.st rs=some (bS ds)
 |[],ds,h=>by simp only[Wy,aC]at h;subst h;rfl
 |r::rs,ds,h=>by
  simp only[Wy]at h;have⟨d,h1,h⟩:=ai.1 h;have⟨ds',h2,h⟩:=ai.1 h;cases h;simp only[nE,alF T h1,Qb h2,af,bS]
def Qc:U (RT X.ι)->U (DV X)->J Nat
 | .mu _::l,ds=>Qc l ds
 | .mr _::l,ds=>Qc l ds
 | .mv::l,ds=>Qc l ds
 | .fresh _::l,d::ds=>match d with
  | .own k _ _=>some k
  |_=>Qc l ds
 | .d _::l,_::ds=>Qc l ds
 | .whole _::l,_::ds=>Qc l ds
 |_,_=>none
def yy:U (RT X.ι)->U (DV X)->U (Nat×Nat)
 | .mu _::l,ds=>yy l ds
 | .mr _::l,ds=>yy l ds
 | .mv::l,ds=>yy l ds
 | .whole j::l,d::ds=>match d with
  | .own _ _ len=>(j,len)::yy l ds
  |_=>yy l ds
 | .d _::l,_::ds=>yy l ds
 | .fresh _::l,_::ds=>yy l ds
 |_,_=>[]
def wD:Nat->U (RT X.ι)->U Nat
 |_,[]=>[]
 |n,.mu _::l=>n::wD (n+1) l
 |n,.mr _::l=>n::wD (n+1) l
 |n,.mv::l=>wD (n+1) l
 |n,_::l=>wD n l
def sg:Nat->U (RT X.ι)->U Nat
 |_,[]=>[]
 |n,.mu _::l=>n::sg (n+1) l
 |n,.mr _::l=>sg (n+1) l
 |n,.mv::l=>sg (n+1) l
 |n,_::l=>sg n l
def LS(bad:U Nat)(ks:U Nat):Bool:=ks.all λk=>!bad.contains k
def abI(get:Nat->J (bm X))(row:U (DV X))(c:CT X.ι):J (CT.T X.toSE c×List Bool):=
 match c with
 | .st i=>(wY get row (X.c7 i)).bind λh=>some (X.make i h.1,h.2)
 |c=>match row with
  |[d]=>RI get d c
  |_=>none
def Ik(get:Nat->J (bm X))(c:CT X.ι):U (List (DV X))->J (List (CT.T X.toSE c)×List Bool)
 |[]=>some ([],[])
 |r::rs=>(abI get r c).bind λx=>(Ik get c rs).bind λy=>some (x.1::y.1,x.2++y.2)
def Nz(get:Nat->J (bm X))(bad rm:U Nat)(fk:J Nat)(wl:U (Nat×Nat))(n:Nat):(q:RT X.ι)->U (DV X)->J ((RT.T X q×List Bool)×List (DV X))
 | .d c,d::ds=>if LS bad (bk d)then(FP get d c).bind λx=>some (x,ds)else none
 | .fresh e,d::ds=>match d with
  | .nil=>some (([],[]),ds)
  | .own k 0 len=>if fk=some k then(get k).bind λo=>match o with
   | .ep b l=>(jA (.sl b) (.sl e) l).bind λ(l:List (CT.T X.toSE e))=>some ((sub l 0 len,[aE (sub l 0 len).length len]),ds)
   | .cells sz rows=>if sz=CT.sz X e/\LS bad (rows.map aS).flatten=true then(Ik get e rows).bind λx=>some ((x.1,aE len (List.length x.1)::x.2),ds)else none
   | .map _ _ _=>none
   else none
  |_=>none
 | .whole j,d::ds=>match d with
  | .own k 0 len=>if k=j/\rm.contains j=true then(lk wl j).bind λeJ=>some (((),[aE len eJ]),ds)else none
  |_=>none
 | .mu c,ds=>(get n).bind λo=>match o with
  | .ep b l=>(jA (.sl b) (.sl c) l).bind λ(l:List (CT.T X.toSE c))=>match lk wl n with
   |some len=>some ((sub l 0 len,[aE (sub l 0 len).length len]),ds)
   |none=>some ((l,[]),ds)
  |_=>none
 | .mr c,ds=>(get n).bind λo=>match o with
  | .cells sz [row]=>if sz=CT.sz X c/\LS bad (aS row)=true then(abI get row c).bind λx=>some (x,ds)else none
  |_=>none
 | .mv,ds=>some (((),[]),ds)
 |_,[]=>none
def NA(get:Nat->J (bm X))(bad rm:U Nat)(fk:J Nat)(wl:U (Nat×Nat)):Nat->(l:U (RT X.ι))->(ds:U (DV X))->J (sQ X l×List Bool)
 |_,[],ds=>match ds with
  |[]=>some ((),[])
  |_=>none
 |n,[q],ds=>(Nz get bad rm fk wl n q ds).bind λp=>match p.2 with
  |[]=>some p.1
  |_=>none
 |n,q::q'::l,ds=>(Nz get bad rm fk wl n q ds).bind λp=>(NA get bad rm fk wl (if q.out then n+1 else n) (q'::l) p.2).bind λy=>some ((p.1.1,y.1),p.1.2++y.2)
def PT(s:d5 X)(l:U (RT X.ι))(ds:U (DV X)):J (sQ X l×List Bool):=
 if LS (wD 0 l) (Qc l ds).toList then NA (hZ s.obj) (wD 0 l++(Qc l ds).toList) (sg 0 l) (Qc l ds) (yy l ds) 0 l ds else none
def ap6(rs:U ResultVar)(l:U (RT X.ι)):Exit->d5 X->J (sQ X l)
 | .normal,s=>YP T s rs λds=>(PT s l ds).bind λx=>Vz x.2 (some x.1)
 | .ret,s=>YP T s rs λds=>(PT s l ds).bind λx=>Vz x.2 (some x.1)
 |_,_=>none
def exit(A:Type)(k:d5 X->J A):Exit->d5 X->J A
 | .normal,s=>k s
 | .ret,s=>k s
 |_,_=>none
variable {T}
section
variable {get:Nat->Option (bm X)} {fk:Option Nat} {os':List (Option fw)} {bad:List Nat}
theorem Er{ks:U Nat}(h:LS bad ks=true):∀j∈ks,j∉bad:=λj hj=>by simpa using all_eq_true.1 h j hj
theorem Qd(hbad:∀j,j∉bad->fk≠some j/\¬kept os' j){d:DV X}{c:CT X.ι}{x:CT.T X.toSE c×List Bool}(hc:c.one=true)(h:RI get d c=some x)(hb:∀b∈x.2,b=true)(nj:∀j∈bk d,j∉bad):∃t,CT.tv X.toSE c x.1= .s t/\PK (fB get) fk os' (den d) t:=by
 obtain⟨t,h1,h2⟩:=row_one hc x.1;refine⟨t,h2,?_⟩;have hbase:∀y,Ky d c=some y->y=x.1->PK (fB get) fk os' (den d) t:=by
  intro y hy he;subst he;have h3:=vZ hy;rw[h2]at h3;have h4:=abr hc hy;unfold Ky at hy;split at hy
  .rw[(oH hy).1];simp only[den,h2,TV.av,PK]
  .simp only[den,Gb.wk,TV.av,AV.t.injEq]at h3;simp only[den,PK];exact h3.symm
  .simp only[den,Gb.wk,TV.av,AV.t.injEq]at h3;simp only[den,PK];exact h3.symm
  .cases hy
 unfold RI at h;split at h
 .rename_i kk aa len e;rw[ai]at h;obtain⟨o,h3,h⟩:=h;split at h
  .rename_i b l0;rw[ai]at h;obtain⟨l,h4,h⟩:=h;cases h;have h5:(sub l aa len).length=len:=(by simpa[aE]using hb (aE (sub l aa len).length len) (by simp));have⟨h6,h7⟩:=jf h4;obtain⟨hf1,hf2⟩:=hbad kk (nj kk (by simp[bk]));simp only[den,PK];refine⟨hf1,hf2,bI (.ep b l0),(sub l aa len).map (CT.row X.toSE e),by simp[fB,h3],?_,by simpa using h5,?_⟩
   .simp only[bI,h7];simp[aK,sub,map_take]
   .simpa[CT.row]using h1.symm
  .cases h
 .rename_i kk aa len;rw[ai]at h;obtain⟨o,h3,h⟩:=h;split at h
  .rename_i b l0;cases h;have h5:(sub l0 aa len).length=len:=(by simpa[aE]using hb (aE (sub l0 aa len).length len) (by simp));obtain⟨hf1,hf2⟩:=hbad kk (nj kk (by simp[bk]));simp only[den,PK];refine⟨hf1,hf2,bI (.ep b l0),(sub l0 aa len).map (CT.row X.toSE b),by simp[fB,h3],?_,by simpa using h5,?_⟩
   .simp only[bI];simp[aK,sub,map_take,map_drop]
   .simpa[CT.row]using h1.symm
  .cases h
 .rename_i kk len e;rw[ai]at h;obtain⟨o,h3,h⟩:=h;split at h
  .rename_i b l0;have⟨l,h4,h⟩:=ai.1 h;cases h;have h5:(sub l 0 len).length=len:=(by simpa[aE]using hb (aE (sub l 0 len).length len) (by simp));have⟨h6,h7⟩:=jf h4;obtain⟨hf1,hf2⟩:=hbad kk (nj kk (by simp[bk]));simp only[den,PK];refine⟨hf1,hf2,bI (.ep b l0),(sub l 0 len).map (CT.row X.toSE e),by simp[fB,h3],?_,by simpa using h5,?_⟩
   .simp only[bI,h7];simp[aK,sub,map_take,map_drop]
   .simpa[CT.row]using h1.symm
  .cases h
 .have⟨y,h3,h⟩:=ai.1 h;injection h with h;exact hbase y h3 (by rw[<- h])
theorem LQ(hbad:∀j,j∉bad->fk≠some j/\¬kept os' j):∀{ds:U (DV X)}{l:U (CT X.ι)}{h:HL X.toSE l×List Bool},wY get ds l=some h->(∀ b∈h.2,b=true)->l.all CT.one=true->(∀ j∈aS ds,j∉bad)->lp (fB get) fk os' (bS ds) (HL.row X.toSE l h.1)
 |[],[],h,_,_,_,_=>trivial
 |d::ds,c::l,h,hr,hb,ha,nj=>by
  simp only[wY]at hr;have⟨x,h1,hr⟩:=ai.1 hr;have⟨g,h2,hr⟩:=ai.1 hr;cases hr;simp only[all_cons,aN]at ha;obtain⟨t,i1,i2⟩:=Qd hbad ha.1 h1 (λ b hb'=>hb b (by simp[hb'])) (λ j hj=>nj j (by simp[aS,hj]));have i3:=LQ hbad h2 (λ b hb'=>hb b (by simp[hb'])) ha.2 (λ j hj=>nj j (by simp[aS,hj]));obtain⟨t',j1,j2⟩:=row_one ha.1 x.1;rw[i1]at j2;cases j2;show lp (fB get) fk os' (den d::bS ds) (CT.row X.toSE c x.1++HL.row X.toSE l g.1);rw[j1];exact⟨i2,i3⟩
 |[],_::_,_,hr,_,_,_=>by simp[wY]at hr
 |_::_,[],_,hr,_,_,_=>by simp[wY]at hr
theorem RX(hbad:∀j,j∉bad->fk≠some j/\¬kept os' j){row:U (DV X)}{c:CT X.ι}{x:CT.T X.toSE c×List Bool}(h:abI get row c=some x)(hb:∀b∈x.2,b=true)(nj:∀j∈aS row,j∉bad):lp (fB get) fk os' (bS row) (CT.row X.toSE c x.1):=by
 cases c
 case st i=>
  replace h:(wY get row (X.c7 i)).bind (λ h=>some (X.make i h.1,h.2))=some x:=h
  have⟨g,h1,h⟩:=ai.1 h;cases h;have:=LQ hbad h1 hb (X.flat i) nj;show lp (fB get) fk os' (bS row) (X.row i (X.make i g.1));rw[X.gp];exact this
 all_goals
  match row,h,nj with
  |[d],h,nj=>
   obtain⟨t,i1,i2⟩:=Qd (fk:=fk) hbad rfl h hb (λ j hj=>nj j (by simp[aS,hj]));obtain⟨t',j1,j2⟩:=row_one rfl x.1;rw[i1]at j2;cases j2;rw[j1];exact⟨i2,trivial⟩
  |[],h,_=>cases h
  |_::_::_,h,_=>cases h
theorem NC(hbad:∀j,j∉bad->fk≠some j/\¬kept os' j){c:CT X.ι}:∀{rows:U (List (DV X))}{x:U (CT.T X.toSE c)×List Bool},Ik get c rows=some x->(∀ b∈x.2,b=true)->(∀ j∈(rows.map aS).flatten,j∉bad)->eK (fB get) fk os' (rows.map bS) (x.1.map (CT.row X.toSE c))/\rows.length=List.length x.1
 |[],x,h,_,_=>by simp only[Ik,aC]at h;subst h;exact⟨trivial,rfl⟩
 |r::rs,x,h,hb,nj=>by
  simp only[Ik]at h;have⟨y,h1,h⟩:=ai.1 h;have⟨z,h2,h⟩:=ai.1 h;cases h;have i1:=RX hbad h1 (λ b hb'=>hb b (by simp[hb'])) (λ j hj=>nj j (by simp[hj]));obtain⟨i2,i3⟩:=NC hbad h2 (λ b hb'=>hb b (by simp[hb'])) (λ j hj=>nj j (by simp only[aH,flatten_cons,bn];exact .inr hj));exact⟨⟨i1,i2⟩,by simp[i3]⟩
theorem alG{x:AV}{t:Tree}(h:PK (fB get) fk os' x t):F0 (fB get) fk os' x (.d (.s t)):=by cases x<;>first |exact h |exact h.elim
theorem Es(sz:CT X.ι)(l:U (CT.T X.toSE sz)):eK (fB get) fk os' (aK (l.map (CT.row X.toSE sz))) (l.map (CT.row X.toSE sz)):=by
 generalize l.map (CT.row X.toSE sz)=rows
 induction rows with
 |nil=>trivial
 |cons r rs ih=>
  refine⟨?_,ih⟩;show lp (fB get) fk os' (r.map AV.t) r
  induction r with
  |nil=>trivial
  |cons y ys ih2=>exact⟨rfl,ih2⟩
theorem alH(hbad:∀j,j∉bad->fk≠some j/\¬kept os' j){c:CT X.ι}{d:DV X}{x:CT.T X.toSE c×List Bool}(h:FP get d c=some x)(nj:∀j∈bk d,j∉bad)(hb:∀b∈x.2,b=true):F0 (fB get) fk os' (den d) (.d (CT.tv X.toSE c x.1)):=by
 cases c
 case st i=>
  replace h:ZY get d i=some x:=h
  cases d
  case agg cs=>
   simp only[ZY]at h;have⟨g,h1,h⟩:=ai.1 h;cases h;have:=LQ (fk:=fk) hbad h1 hb (X.flat i) (by simpa[bk]using nj);show lp (fB get) fk os' (bS cs) (X.row i (X.make i g.1));rw[X.gp];exact this
  case c a y=>
   simp only[ZY]at h;have⟨z,h1,h⟩:=ai.1 h;cases h;rw[(oH h1).1];show lp (fB get) fk os' ((X.row i z).map AV.t) (X.row i z);generalize X.row i z=l
   induction l with
   |nil=>trivial
   |cons y ys ih=>exact⟨rfl,ih⟩
  all_goals cases h
 all_goals
  have⟨t,i1,i2⟩:=Qd (fk:=fk) hbad rfl h hb nj;rw[i1];exact alG i2
theorem Wz{rm:U Nat}{wl:U (Nat×Nat)}{ns:U Nat}{n:Nat}(hbad:∀j,j∉bad->fk≠some j/\¬kept os' j)(ra:∀k,fk=some k->¬kept os' k)(hns:∀j eJ,j∈rm->lk wl j=some eJ->ns.getD j 0=eJ)(hmu:∀j∈rm,kept os' j){q:RT X.ι}{ds:U (DV X)}{p:(RT.T X q×List Bool)×List (DV X)}(h:Nz get bad rm fk wl n q ds=some p)(hb:∀b∈p.1.2,b=true):
 (∀ cs,nw (fB get) fk os' (bS p.2) cs->nw (fB get) fk os' (bS ds) (VO ns q p.1.1++cs))/\
 (∀ t,qw q p.1.1=[some t]->∃o,get n=some o/\(bI o).sz=t.1/\eK (fB get) fk os' ((bI o).rows.take t.2.length) t.2)/\
 (∀ eJ c,q= .mu c->lk wl n=some eJ->YK q p.1.1=[eJ]):=by
 cases q
 case d c=>
  cases ds with
  |nil=>simp[Nz]at h
  |cons d ds=>
   simp only[Nz]at h;split at h
   .rename_i hnb;rw[ai]at h;obtain⟨x,h1,h⟩:=h;cases h;exact⟨λ cs hcs=>⟨alH hbad h1 (Er hnb) hb,hcs⟩,λt ht=>by simp[qw]at ht,λ_ _ h=>by cases h⟩
   .cases h
 case fresh e=>
  cases ds with
  |nil=>simp[Nz]at h
  |cons d ds=>
   refine⟨λ cs hcs=>?_,λt ht=>by simp[qw]at ht,λ_ _ h=>by cases h⟩;simp only[Nz]at h;split at h
   .cases h;exact⟨rfl,hcs⟩
   .rename_i k len;split at h
    .rename_i nj;rw[ai]at h;obtain⟨o,h1,h⟩:=h;split at h
     .rename_i b l0;rw[ai]at h;obtain⟨l,h2,h⟩:=h;cases h;have⟨h3,h4⟩:=jf h2;have h5:(sub l 0 len).length=len:=(by simpa[aE]using hb (aE (sub l 0 len).length len) (by simp));refine⟨⟨nj,ra k nj,rfl,bI (.ep b l0),by simp[fB,h1],by simp only[bI];exact h3,?_,by simpa using h5⟩,hcs⟩;have e1:(bI (.ep b l0)).rows.take len=aK ((sub l 0 len).map (CT.row X.toSE e)):=by
       simp only[bI,h4];simp[aK,sub,map_take]
      rw[e1];exact Es e _
     .rename_i sz rows;split at h
      .rename_i hc;rw[ai]at h;obtain⟨x,h2,h⟩:=h;cases h;obtain⟨i1,i2⟩:=NC (fk:=fk) hbad h2 (λ b hb'=>hb b (by simp[hb'])) (Er hc.2);have h5:len=List.length x.1:=(by simpa[aE]using hb (aE len (List.length x.1)) (by simp));refine⟨⟨nj,ra k nj,rfl,bI (.cells sz rows),by simp[fB,h1],hc.1,?_,by simpa using h5.symm⟩,hcs⟩;simp only[bI];rw[List.take_of_length_le (by simp;omega)];exact i1
      .cases h
     .cases h
    .cases h
   .cases h
 case whole j=>
  cases ds with
  |nil=>simp[Nz]at h
  |cons d ds=>
   refine⟨λ cs hcs=>?_,λt ht=>by simp[qw]at ht,λ_ _ h=>by cases h⟩;simp only[Nz]at h;split at h
   .rename_i k len;split at h
    .rename_i hc;obtain⟨rfl,hm⟩:=hc;rw[ai]at h;obtain⟨eJ,h1,h⟩:=h;cases h;have h5:len=eJ:=(by simpa[aE]using hb (aE len eJ) (by simp));have hm:k∈rm:=(by simpa using hm);refine⟨⟨rfl,rfl,?_,hmu k hm⟩,hcs⟩;rw[h5];exact hns k eJ hm h1
    .cases h
   .cases h
 case mu c=>
  simp only[Nz]at h;rw[ai]at h;obtain⟨o,h1,h⟩:=h;split at h
  .rename_i b l0;rw[ai]at h;obtain⟨l,h2,h⟩:=h;have⟨h3,h4⟩:=jf h2;split at h
   .rename_i len hl;cases h;have h5:(sub l 0 len).length=len:=(by simpa[aE]using hb (aE (sub l 0 len).length len) (by simp));refine⟨λ cs hcs=>hcs,λt ht=>?_,λeJ c' _ hl'=>?_⟩
    .simp only[qw,List.cons.injEq,aC,and_true]at ht;subst ht;refine⟨_,h1,by simp only[bI,rO];exact h3,?_⟩;have e1:(bI (.ep b l0)).rows.take (rO c (sub l 0 len)).2.length=aK (rO c (sub l 0 len)).2:=by
      simp only[bI,h4,rO,length_map,h5];simp[aK,sub,map_take]
     rw[e1];exact Es c _
    .rw[hl]at hl';injection hl' with hl';subst hl';simp only[YK,h5]
   .rename_i hl;cases h;refine⟨λ cs hcs=>hcs,λt ht=>?_,λeJ c' _ hl'=>by rw[hl]at hl';cases hl'⟩;simp only[qw,List.cons.injEq,aC,and_true]at ht;subst ht;refine⟨_,h1,by simp only[bI,rO];exact h3,?_⟩;have e1:(bI (.ep b l0)).rows.take (rO c l).2.length=aK (rO c l).2:=by
     simp only[bI,h4,rO];rw[List.take_of_length_le (by simp[aK])]
    rw[e1];exact Es c _
  .cases h
 case mr c=>
  simp only[Nz]at h;rw[ai]at h;obtain⟨o,h1,h⟩:=h;split at h
  .rename_i sz row;split at h
   .rename_i hc;have⟨x,h2,h⟩:=ai.1 h;cases h;refine⟨λ cs hcs=>hcs,λt ht=>?_,λ_ _ h=>by cases h⟩;simp only[qw,List.cons.injEq,aC,and_true]at ht;subst ht;refine⟨_,h1,by simp only[bI,rO];exact hc.1,?_⟩;exact⟨RX hbad h2 hb (Er hc.2),trivial⟩
   .cases h
  .cases h
 case mv=>
  simp only[Nz,aC]at h;subst h;exact⟨λ cs hcs=>hcs,λt ht=>by simp[qw]at ht,λ_ _ h=>by cases h⟩
theorem Il{q:RT X.ι}{x:RT.T X q}:(qw q x).length=(if q.out then 1 else 0)/\(YK q x).length=(if q.out then 1 else 0):=by cases q<;>exact⟨rfl,rfl⟩
theorem Im{n j:Nat}{q:RT X.ι}{l:U (RT X.ι)}:j∈sg n (q::l)->(j=n/\∃c,q= .mu c)\/j∈sg (if q.out then n+1 else n) l:=by
 cases q<;>simp only[sg,RT.out,if_true,Bool.false_eq_true,if_false,aQ]
 case mu c=>exact λh=>h.imp (λ h=>⟨h,c,rfl⟩) id
 all_goals exact .inr
theorem agE{j:Nat}:∀{l:U (RT X.ι)}{n:Nat},j∈sg n l->n<=j
 |[],n,h=>by simp[sg]at h
 |q::l,n,h=>by
  rcases Im h with ⟨rfl,_⟩ |h
  .exact aG _
  .have:=agE h;split at this<;>omega
theorem ad2:∀{l:U (RT X.ι)}{x:sQ X l}{n j:Nat},j∈sg n l->∃p,(nW l x)[j -n]? =some (some p)
 |[],x,n,j,h=>by simp[sg]at h
 |[q],x,n,j,h=>by
  rcases Im h with ⟨rfl,c,rfl⟩ |h
  .exact⟨_,by simp only[Nat.sub_self];rfl⟩
  .simp[sg]at h
 |q::q'::l,x,n,j,h=>by
  rcases Im h with ⟨rfl,c,rfl⟩ |h
  .exact⟨_,by simp only[Nat.sub_self];rfl⟩
  .have⟨p,hp⟩:=ad2 (l:=q'::l) (x:=x.2) h;have hge:=agE h;refine⟨p,?_⟩;show(qw q x.1++nW (q'::l) x.2)[j -n]? =_;have hl:=(Il (q:=q) (x:=x.1)).1;split at hl
   .rename_i e;rw[aZ e]at hp hge;rw[jD (by omega),hl,show j -n -1=j -(n+1)by omega];exact hp
   .rename_i e;rw[aT e]at hp hge;rw[jD (by omega),hl,Nat.sub_zero];exact hp
theorem CX:∀{l:U (RT X.ι)}{x:sQ X l}{n j:Nat}{p:fw},(nW l x)[j]? =some (some p)->n+j∈wD n l
 |[],x,n,j,p,h=>by simp[nW]at h
 |[q],x,n,j,p,h=>by
  have h:(qw q x)[j]? =some (some p):=h;cases q<;>simp only[qw,List.getElem?_nil,reduceCtorEq]at h
  case mu c=>cases j<;>simp at h<;>simp[wD]
  case mr c=>cases j<;>simp at h<;>simp[wD]
  case mv=>cases j<;>simp at h
 |q::q'::l,x,n,j,p,h=>by
  have h:(qw q x.1++nW (q'::l) x.2)[j]? =some (some p):=h;cases q
  case mu c=>
   cases j with
   |zero=>simp[wD]
   |succ j=>
    have:=CX (l:=q'::l) (x:=x.2) (n:=n+1) (by simpa[qw]using h);simp only[wD,aQ];right;rw[show n+(j+1)=n+1+j by omega];exact this
  case mr c=>
   cases j with
   |zero=>simp[wD]
   |succ j=>
    have:=CX (l:=q'::l) (x:=x.2) (n:=n+1) (by simpa[qw]using h);simp only[wD,aQ];right;rw[show n+(j+1)=n+1+j by omega];exact this
  case mv=>
   cases j with
   |zero=>simp[qw]at h
   |succ j=>
    have:=CX (l:=q'::l) (x:=x.2) (n:=n+1) (by simpa[qw]using h);simp only[wD];rw[show n+(j+1)=n+1+j by omega];exact this
  all_goals
   simp only[wD];exact CX (l:=q'::l) (x:=x.2) (by simpa[qw]using h)
theorem ad3{rm:U Nat}{wl:U (Nat×Nat)}{n:Nat}{q:RT X.ι}{ds:U (DV X)}{p:(RT.T X q×List Bool)×List (DV X)}(h:Nz get bad rm fk wl n q ds=some p)(hb:∀b∈p.1.2,b=true):∀eJ c,q= .mu c->lk wl n=some eJ->YK q p.1.1=[eJ]:=by
 rintro eJ c rfl hl;simp only[Nz]at h;rw[ai]at h;obtain⟨o,h1,h⟩:=h;split at h
 .rename_i b l0;have⟨l,h2,h⟩:=ai.1 h;rw[hl]at h;cases h;have h5:(sub l 0 eJ).length=eJ:=by simpa[aE]using hb (aE (sub l 0 eJ).length eJ) (by simp)
  simp only[YK,h5]
 .cases h
theorem LU{rm:U Nat}{wl:U (Nat×Nat)}:∀{n:Nat}{l:U (RT X.ι)}{ds:U (DV X)}{x:sQ X l×List Bool},NA get bad rm fk wl n l ds=some x->(∀ b∈x.2,b=true)->∀j eJ,n+j∈sg n l->lk wl (n+j)=some eJ->(yf l x.1).getD j 0=eJ
 |n,[],ds,x,h,hb,j,eJ,hm,_=>by simp[sg]at hm
 |n,[q],ds,x,h,hb,j,eJ,hm,hl=>by
  simp only[NA]at h;have⟨p,h1,h⟩:=ai.1 h;split at h
  .cases h;rcases Im hm with ⟨e,c,rfl⟩ |hm
   .have e:j=0:=(by omega);subst e;have:=(ad3 h1 hb) eJ c rfl hl;show(YK _ p.1.1).getD 0 0=eJ;rw[this];rfl
   .simp[sg]at hm
  .cases h
 |n,q::q'::l,ds,x,h,hb,j,eJ,hm,hl=>by
  simp only[NA]at h;have⟨p,h1,h⟩:=ai.1 h;have⟨y,h2,h⟩:=ai.1 h;cases h;have hlen:=(Il (q:=q) (x:=p.1.1)).2;rcases Im hm with ⟨e,c,rfl⟩ |hm
  .have e:j=0:=(by omega);subst e;have:=(ad3 h1 (λ b hb'=>hb b (by simp[hb']))) eJ c rfl hl;show(YK _ p.1.1++yf (q'::l) y.1).getD 0 0=eJ;rw[this];rfl
  .have hge:=agE hm;show(YK _ p.1.1++yf (q'::l) y.1).getD j 0=eJ;by_cases hq:q.out=true
   .rw[aZ hq]at h2 hm hge hlen;have:=LU h2 (λ b hb'=>hb b (by simp[hb'])) (j -1) eJ (by rw[show n+1+(j -1)=n+j by omega];exact hm) (by rw[show n+1+(j -1)=n+j by omega];exact hl);rw[List.getD_eq_getElem?_getD,jD (by omega),hlen,<- List.getD_eq_getElem?_getD];exact this
   .rw[aT hq]at h2 hm hge hlen;have:=LU h2 (λ b hb'=>hb b (by simp[hb'])) j eJ hm hl;rw[List.getD_eq_getElem?_getD,jD (by omega),hlen,Nat.sub_zero,<- List.getD_eq_getElem?_getD];exact this
theorem aap{rm:U Nat}{wl:U (Nat×Nat)}{ns:U Nat}(hbad:∀j,j∉bad->fk≠some j/\¬kept os' j)(ra:∀k,fk=some k->¬kept os' k)(hns:∀j eJ,j∈rm->lk wl j=some eJ->ns.getD j 0=eJ)(hmu:∀j∈rm,kept os' j):∀{n:Nat}{l:U (RT X.ι)}{ds:U (DV X)}{x:sQ X l×List Bool},NA get bad rm fk wl n l ds=some x->(∀ b∈x.2,b=true)->
 nw (fB get) fk os' (bS ds) (Bh ns l x.1)/\∀j t,(nW l x.1)[j]? =some (some t)->∃o,get (n+j)=some o/\(bI o).sz=t.1/\eK (fB get) fk os' ((bI o).rows.take t.2.length) t.2
 |n,[],ds,x,h,_=>by
  simp only[NA]at h;split at h
  .exact⟨trivial,λj t ht=>by simp[nW]at ht⟩
  .cases h
 |n,[q],ds,x,h,hb=>by
  simp only[NA]at h;rw[ai]at h;obtain⟨p,h1,h⟩:=h;split at h
  .rename_i hp;cases h;have⟨i1,i2,_⟩:=Wz (ns:=ns) hbad ra hns hmu h1 hb;rw[hp]at i1;have:=i1 [] trivial;rw[append_nil]at this;refine⟨this,λj t ht=>?_⟩;have ht:(qw q p.1.1)[j]? =some (some t):=ht;have hl:=(Il (q:=q) (x:=p.1.1)).1;have hj:=(dJ.1 ht).1;have hj0:j=0:=(by split at hl<;>omega);subst hj0;refine i2 t ?_
   match ho:qw q p.1.1,ht,hl with
   |[z],ht,_=>simpa using ht
   |[],ht,_=>simp at ht
   |_::_::_,_,hl=>simp only[bG]at hl;split at hl<;>omega
  .cases h
 |n,q::q'::l,ds,x,h,hb=>by
  simp only[NA]at h;have⟨p,h1,h⟩:=ai.1 h;have⟨y,h2,h⟩:=ai.1 h;cases h;obtain⟨i1,i2,_⟩:=Wz (ns:=ns) hbad ra hns hmu h1 (λ b hb'=>hb b (by simp[hb']));obtain⟨k1,k2⟩:=aap (ns:=ns) hbad ra hns hmu h2 (λ b hb'=>hb b (by simp[hb']));refine⟨i1 _ k1,λj t ht=>?_⟩;have ht:(qw q p.1.1++nW (q'::l) y.1)[j]? =some (some t):=ht;have hl:=(Il (q:=q) (x:=p.1.1)).1;by_cases hq:q.out=true
  .rw[aZ hq]at k2 hl;cases j with
   |zero=>
    refine i2 t ?_
    match ho:qw q p.1.1,ht,hl with
    |[z],ht,_=>simpa using ht
    |[],_,hl=>simp at hl
    |_::_::_,_,hl=>simp at hl
   |succ j=>
    rw[jD (by omega),hl,Nat.add_sub_cancel]at ht;rw[show n+(j+1)=n+1+j by omega];exact k2 j t ht
  .rw[aT hq]at k2 hl;rw[jD (by omega),hl,Nat.sub_zero]at ht;exact k2 j t ht
end
theorem nw.R{get:Nat->J aU}{fk:J Nat}{os':U (Option fw)}:∀{xs:U AV}{cs:U RC},nw get fk os' xs cs->FG get fk os' xs (match cs with |[c]=> .one c |cs=> .eV cs)
 |[],[],_=>rfl
 |[_],[_],h=>h.1
 |_::_::_,_::_::_,h=>h
 |[],_::_,h=>h.elim
 |_::_,[],h=>h.elim
 |[_],_::_::_,h=>h.2.elim
 |_::_::_,[_],h=>h.2.elim
theorem alI{s:d5 X}{rs:U ResultVar}{l:U (RT X.ι)}{r:sQ X l}(h:(YP T s rs λds=>(PT s l ds).bind λx=>Vz x.2 (some x.1))=some r):∃xs fk,nE T s.st rs=some xs/\FG s.st.obj fk (nW l r) xs (tu l r)/\NO s.st.obj fk (nW l r):=by
 have⟨ds,h1,h⟩:=J2 T h;rw[ai]at h;obtain⟨x,h2,h⟩:=h;have⟨h3,h⟩:=pV h;cases h;unfold PT at h2;split at h2
 .rename_i hnb;have hkn:∀j,kept (nW l x.1) j->j∈wD 0 l:=λj ⟨p,hp⟩=>by
   have:=CX (n:=0) hp;simpa using this
  have hbad:∀j,j∉wD 0 l++(Qc l ds).toList->Qc l ds≠some j/\¬kept (nW l x.1) j:=by
   intro j hj;simp only[bn,Option.mem_toList,not_or]at hj;exact⟨hj.2,λh=>hj.1 (hkn j h)⟩
  have ra:∀k,Qc l ds=some k->¬kept (nW l x.1) k:=λk hk hkk=>Er hnb k (by simp[hk]) (hkn k hkk);have hmu:∀j∈sg 0 l,kept (nW l x.1) j:=λj hj=>by
   have⟨p,hp⟩:=ad2 (x:=x.1) hj;exact⟨p,by simpa using hp⟩
  obtain⟨i1,i2⟩:=aap (ns:=yf l x.1) hbad ra (λ j eJ hj hl=>LU h2 h3 j eJ (by simpa using hj) (by simpa using hl)) hmu h2 h3;have gO:s.st.obj=fB (hZ s.obj):=rfl;refine⟨bS ds,Qc l ds,Qb T h1,?_,λj p hp=>?_⟩
  .rw[gO];exact i1.R
  .have⟨o,g1,g2,g3⟩:=i2 j p hp;rw[Nat.zero_add]at g1;exact⟨λ e=>ra j e ⟨p,hp⟩,bI o,by rw[gO];simp[fB,g1],g2,by rw[gO];exact g3⟩
 .cases h2
variable {Γ:FuncId->Option (cp X)} {am:TypeId->Option (CT X.ι)} {P:Program}
theorem ap7(hT : fu P T)(hm : P.follows .mixedOrders = true)(hΓ : sE P Γ){f : FuncId}{fn : Func}{c : Code}(hfn : P.funcs[f]? = some fn)(hb : fn.body = some c)(hname : (fn.name == "runtime.NumGoroutine") = false)(sa : U (AT X.ι))(sr : U (RT X.ι))(hN : sa.length <= fn.ntmps /\ qx sa <= 1000 /\ (sr.filter RT.out).length = qx sa)
 (h:Hn X.ι) (n:Nat) {a:iH X sa} {r:sQ X sr} (hr:run Γ T am fn.ntmps n c (sQ X sr) h (xi sa a) (ap6 T fn.results.toList sr)=some r):qt P f (wu sa a) (qp sa a) (nW sr r) (tu sr r):=by
 have hl:(nW sr r).length=(qp sa a).length:=by
  rw[lG,<- hN.2.2];have:∀(sr:U (RT X.ι))(r:sQ X sr),(nW sr r).length=(sr.filter RT.out).length:=by
   intro sr
   induction sr with
   |nil=>intro r;rfl
   |cons q l ih=>
    intro r;have hq:∀x:RT.T X q,(qw q x).length=(if q.out then 1 else 0):=λx=>Il.1;cases l with
    |nil=>
     show(qw q r).length=_;rw[hq];by_cases e:q.out=true<;>simp[e]
    |cons q' l=>
     show(qw q r.1++nW (q'::l) r.2).length=_;rw[dP,hq,ih r.2];by_cases e:q.out=true<;>simp[List.filter_cons,e];omega
  exact this sr r
 refine ajw hT hfn hb hname (by rw[lF];exact hN.1) (λ k hk=>?_) (by rw[lG];exact hN.2.1) hl ?_
 .rw[wu,<- sD,gZ]at hk;have:=pE 0 sa a k hk;have:=hN.2.1;omega
 .rw[<- apq];refine(kS hT hm hΓ c _ h _ _ r (anV sa a hN.2.1) hr).mono ?_;rintro e σ ⟨s',_,_,rfl,g4⟩;cases e<;>first |exact alI g4 |cases g4
theorem nu{f : FuncId}{fn : Func}{c : Code}(hfn : P.funcs[f]? = some fn)(hb : fn.body = some c)(hname : (fn.name == "runtime.NumGoroutine") = false): eZ P f := ⟨fn, hfn, by rw [hb]; rfl, hname⟩
abbrev AK(P:Program)(f:FuncId)(s:cp X):Prop:=eZ P f/\(∀ a r,s.fn a=some r->qt P f (wu s.args a) (qp s.args a) (nW s.res r) (tu s.res r))/\∀g,s.gen=some g->GG P f g
theorem z7{P:Program}{f:FuncId}{s:cp X}(h:eZ P f)(h1:∀a r,s.fn a=some r->qt P f (wu s.args a) (qp s.args a) (nW s.res r) (tu s.res r))(hg:s.gen=none):AK P f s:=⟨h,h1,λg e=>by rw[hg]at e;cases e⟩
theorem M2{P:Program}{f:FuncId}{g:dg X}(h:eZ P f)(hg:GG P f g):AK P f ⟨[],[.d .bool],λ_=>none,some g⟩:=⟨h,λ_ _ e=>(by cases e),λ_ e=>(by cases e;exact hg)⟩
def pg(s t:cp X):cp X:=⟨s.args,s.res,s.fn,t.gen⟩
def xt(l:U (FuncId×cp X)):FuncId->J (cp X):=λf=>lk l f
theorem aD:sE P (xt ([]:U (FuncId×cp X))):=λ_ _ h=>by cases h
theorem au{f:FuncId}{s:cp X}{l:U (FuncId×cp X)}(h:AK P f s)(hl:sE P (xt l)):sE P (xt ((f,s)::l)):=by
 intro g q hg;simp only[xt,lk]at hg;split at hg
 .rename_i e;cases hg;subst e;exact h
 .exact hl g q hg
end
section
variable {X:SX} {T:er}
theorem LV(ol:Nat->Nat):∀(ps:U (Pt X.ι))(L:U (DC X)),(lE ol ps L).1.length=ps.length
 |[],_=>rfl
 |p::ps,L=>by simp only[lE,bG,LV ol ps]
def dg.A3(g:dg X):Bool:=
 decide (g.jt.map (·.1)=List.range g.jt.length)&&decide (g.jt.length<=1000)&&((Bj g.pP).all λk=>Nat.blt k 1000)&&g.jt.all λq=>q.2.refs.all λk=>Nat.blt k 1000
def Ge(g:dg X)(v:VT (X:=X) (cX g.pP++cR g.jt)):d5 X:=⟨(List.range g.pP.length).zip (g.args v),LO g.pP g.jt (wm _ v),1000,[]⟩
theorem uZ{ol:Nat->Nat}:∀(O:U (Nat×OP X.ι))(L:U (DC X)),dG ol O L=(dM (dG ol O L)).map λp=>(p.1,some p.2)
 |[],L=>rfl
 |(k,.l c)::O,L=>by
  match L with
  |[]=>rfl
  |⟨.sl c',x⟩::L=>simp only[dG,dM,aH];rw[<- uZ O L]
  |⟨.int _,x⟩::L=>rfl
  |⟨.bool,x⟩::L=>rfl
  |⟨.str,x⟩::L=>rfl
  |⟨.any,x⟩::L=>rfl
  |⟨.st _,x⟩::L=>rfl
  |⟨.mp _ _,x⟩::L=>rfl
 |(k,.m kc vc)::O,L=>by
  match L with
  |[]=>rfl
  |⟨.mp _ _,x⟩::L=>simp only[dG,dM,aH];rw[<- uZ O L]
  |⟨.sl _,x⟩::L=>rfl
  |⟨.int _,x⟩::L=>rfl
  |⟨.bool,x⟩::L=>rfl
  |⟨.str,x⟩::L=>rfl
  |⟨.any,x⟩::L=>rfl
  |⟨.st _,x⟩::L=>rfl
 |(k,.c sz rows)::O,L=>by simp only[dG,dM,aH];rw[<- uZ O _]
theorem Et{ol:Nat->Nat}:∀(O:U (Nat×OP X.ι))(L:U (DC X)),L.map (·.c)=cR O->(dM (dG ol O L)).map (·.1)=O.map (·.1)
 |[],L,_=>rfl
 |(k,.l c)::O,L,h=>by
  match L,h with
  |⟨.sl c',x⟩::L,h=>
   simp only[aH,cR,List.cons.injEq]at h;simp only[dG,dM,aH,Et O L h.2]
  |[],h=>simp[cR]at h
  |⟨.int _,x⟩::L,h=>simp[cR]at h
  |⟨.bool,x⟩::L,h=>simp[cR]at h
  |⟨.str,x⟩::L,h=>simp[cR]at h
  |⟨.any,x⟩::L,h=>simp[cR]at h
  |⟨.st _,x⟩::L,h=>simp[cR]at h
  |⟨.mp _ _,x⟩::L,h=>simp[cR]at h
 |(k,.m kc vc)::O,L,h=>by
  match L,h with
  |⟨.mp _ _,x⟩::L,h=>
   simp only[aH,cR,List.cons.injEq]at h;simp only[dG,dM,aH,Et O L h.2]
  |[],h=>simp[cR]at h
  |⟨.sl _,x⟩::L,h=>simp[cR]at h
  |⟨.int _,x⟩::L,h=>simp[cR]at h
  |⟨.bool,x⟩::L,h=>simp[cR]at h
  |⟨.str,x⟩::L,h=>simp[cR]at h
  |⟨.any,x⟩::L,h=>simp[cR]at h
  |⟨.st _,x⟩::L,h=>simp[cR]at h
 |(k,.c sz rows)::O,L,h=>by
  simp only[cR]at h;simp only[dG,dM,aH,Et O _ (LM (ol:=ol) rows L _ h).1]
theorem aj0(g:dg X)(v:VT (X:=X) (cX g.pP++cR g.jt))(h:g.jt.map (·.1)=List.range g.jt.length):(g.cQ v).map (·.1)=List.range (g.cQ v).length:=by
 have e:(g.cQ v).map (·.1)=g.jt.map (·.1):=Et g.jt _ (by rw[map_drop,Z3,List.drop_left]);have l:=congrArg List.length e;rw[length_map,length_map]at l;rw[e,h,l]
theorem WA(k:Nat):∀l:U (Nat×bm X),hZ (l.map λp=>(p.1,some p.2)) k=tA l k
 |[]=>rfl
 |p::l=>by
  simp only[aH,hZ,lk,tA];split
  .rfl
  .exact WA k l
theorem alJ(t:Nat):∀(ks:U Nat)(ds:U (DV X)),den (fi (ks.zip ds) t)=(lk (ks.zip (bS ds)) t).getD .undef:=by
 intro ks
 induction ks with
 |nil=>intro ds;rfl
 |cons k ks ih=>
  intro ds;cases ds with
  |nil=>rfl
  |cons d ds=>
   simp only[List.zip_cons_cons,fi,lk,bS];by_cases h:k=t
   .simp[h]
   .simp only[aT h];exact ih ds
theorem aaq(t:Nat):∀(ks:U Nat)(ds:U (DV X)),∀j∈bk (fi (ks.zip ds) t),j∈aS ds:=by
 intro ks
 induction ks with
 |nil=>intro ds j hj;simp[fi,lk,bk]at hj
 |cons k ks ih=>
  intro ds j hj;cases ds with
  |nil=>simp[fi,lk,bk]at hj
  |cons d ds=>
   simp only[List.zip_cons_cons,fi,lk]at hj;simp only[aS,bn];by_cases e:k=t
   .simp only[aZ e,Option.getD_some]at hj;exact .inl hj
   .simp only[aT e]at hj;exact .inr (ih ds j hj)
def Eu(O:U (Nat×OP X.ι)):U (Nat×Pt X.ι)->U (Nat×CT X.ι)
 |[]=>[]
 |(t,.o k)::r=>match lk O k with
  |some (.l c)=>(t,c)::Eu O r
  |_=>Eu O r
 |(t,.oz k)::r=>match lk O k with
  |some (.l c)=>(t+1099511627776,c)::Eu O r
  |_=>Eu O r
 |_::r=>Eu O r
def WB(O:U (Nat×OP X.ι)):U (Nat×OP X.ι)->U (Nat×CT X.ι)
 |(q,.c _ [row])::r=>(Eu O (lO (1000000+q*4096) row)).filter (λ p=>Nat.ble p.1 1000000000)++WB O r
 |_::r=>WB O r
 |[]=>[]
def Aj(g:dg X):Sh X.ι:=⟨lO 0 g.fX,g.jp,[],[],1000000,Eu g.jp (lO 0 g.fX)++WB g.jp g.jp⟩
def ao2(T:er)(rs:U ResultVar)(g:dg X):Exit->d5 X->J (VT (X:=X) (Aj g).vars)
 | .normal,s=>YP T s rs λds=>bif decide (ds.length=g.fX.length)&&(aS ds).all (λ k=>Nat.blt k s.nx)then
  qy (Aj g) (List.range ds.length) ⟨(List.range ds.length).zip ds,s.obj,s.nx,s.log⟩ ⟨(List.range ds.length).zip ds,s.obj,s.nx,s.log⟩ some else none
 | .ret,s=>YP T s rs λds=>bif decide (ds.length=g.fX.length)&&(aS ds).all (λ k=>Nat.blt k s.nx)then
  qy (Aj g) (List.range ds.length) ⟨(List.range ds.length).zip ds,s.obj,s.nx,s.log⟩ ⟨(List.range ds.length).zip ds,s.obj,s.nx,s.log⟩ some else none
 |_,_=>none
theorem WC{ol:Nat->Nat}(t:Nat):∀(n:Nat)(ps:U (Pt X.ι))(L:U (DC X)),fi (LK ol (lO n ps) L) (n+t)=((lE ol ps L).1[t]?).getD .undef
 |n,[],L=>by simp[lO,LK,fi,lk,lE]
 |n,p::ps,L=>by
  simp only[lO,LK,fi,lk,lE];cases t with
  |zero=>simp
  |succ t=>
   rw[aT (by omega)];have:=WC (ol:=ol) t (n+1) ps (eP ol p L).2;rw[show n+1+t=n+(t+1)by omega]at this;simpa[fi]using this
theorem aj1 {P:Program} {g:dg X} {s:d5 X} {rs:U ResultVar} {r:VT (X:=X) (Aj g).vars} (hl:Low s) (h:(YP T s rs λds=>bif decide (ds.length=g.fX.length)&&(aS ds).all (λ k=>Nat.blt k s.nx)then
 qy (Aj g) (List.range ds.length) ⟨(List.range ds.length).zip ds,s.obj,s.nx,s.log⟩ ⟨(List.range ds.length).zip ds,s.obj,s.nx,s.log⟩ some else none)=some r):
 ∃xs,nE T s.st rs=some xs/\NL P s.st.obj xs (tq (g.outs r)) (den (g.res r)):=by
 have⟨ds,h1,h⟩:=J2 T h;have⟨h2,h⟩:=eH h;simp only[aN,aW]at h2;obtain⟨h2,h3⟩:=h2;have hl':Low (⟨(List.range ds.length).zip ds,s.obj,s.nx,s.log⟩:d5 X):=⟨hl.le,hl.ge,λt k hk=>by
  have:=all_eq_true.1 h3 k (aaq t _ _ k hk);exact Nat.blt_eq.mp this,hl.obj⟩
 obtain⟨v,h4,_,_,hrel⟩:=lD hl' hl' (Ext.refl _ _) h;injection h4 with h4;subst h4;refine⟨bS ds,Qb T h1,λw0 O0 β I w vs hM hv=>?_⟩;have hvl:=bj.length _ _ hv;simp only[Array.length_toList,lq]at hvl;have hR:Rel P w0 O0 vs.size β I (⟨(List.range ds.length).zip ds,s.obj,s.nx,s.log⟩:d5 X).st { tmps:=vs,defers:=[] } w:=by
  refine⟨rfl,rfl,λt=>?_,hM⟩;show VR P β w I (den (fi ((List.range ds.length).zip ds) t)) (vs.getD t undef);rw[alJ,show List.range ds.length=List.range (bS ds).length by rw[lq],Bf];cases ht:(bS ds)[t]? with
  |none=>simp[VR]
  |some x=>
   obtain⟨u,g1,g2⟩:=bj.get _ _ t _ hv ht;rw[Array.getElem?_toList]at g1;simp only[Option.getD_some,Array.getD_eq_getD_getElem?,g1];exact g2
 obtain⟨β',hR'⟩:=hrel P w0 O0 _ β I _ w hR;have hn:(ir (lO 0 g.fX)).length=(cX g.fX).length:=by rw[PY]
 refine⟨β',I,?_,λ_ h=>h,?_⟩
 .have:=hR'.mem;have e:(encS (Aj g) ⟨(List.range ds.length).zip ds,s.obj,s.nx,s.log⟩ v).st.obj=ot (tq (g.outs v)):=by
   funext k;simp only[d5.st,encS,Aj,map_nil,append_nil,P7,dg.outs,LO];rw[uZ,WA,<- hn];rfl
  rw[e]at this;exact this
 .obtain⟨pv,hpv⟩:∃pv,pv=VN g.fX g.jp (wm (Aj g).vars v):=⟨_,rfl⟩;have hres:g.res v=yP pv:=by rw[hpv];rfl
  have rb:∀t,VR P β' w I (den ((pv[t]?).getD .undef)) (vs.getD t undef):=by
   intro t;have:=hR'.env t;simp only[d5.st,fg,encS,Aj,map_nil,append_nil]at this;have e:=WC (ol:=Eh g.jp ((wm (Aj g).vars v).drop (cX g.fX).length)) t 0 g.fX ((wm (Aj g).vars v).take (cX g.fX).length);rw[Nat.zero_add]at e;rw[hpv];simp only[VN];rw[<- e,<- hn];exact this
  have hpl:pv.length=g.fX.length:=by rw[hpv];exact LV _ _ _
  have hsz:vs.size=pv.length:=by rw[hpl,<- h2,hvl]
  rw[hres];have hall:bj P β' w I (bS pv) vs.toList:=by
   have gen:∀(pv:U (DV X)) (us:U Value),us.length=pv.length->(∀ t,t<pv.length->VR P β' w I (den ((pv[t]?).getD .undef)) (us.getD t undef))->bj P β' w I (bS pv) us:=by
    intro pv
    induction pv with
    |nil=>intro us hl _;cases us<;>simp_all [bS,bj]
    |cons d pv ih=>
     intro us hl hh;cases us with
     |nil=>simp at hl
     |cons u us=>
      simp only[bS,bj];refine⟨by simpa using hh 0 (by simp),ih us (by simpa using hl) λt ht=>by simpa using hh (t+1) (by simpa using ht)⟩
   refine gen pv vs.toList (by simpa using hsz) λt ht=>?_;have e:vs.toList.getD t undef=vs.getD t undef:=(by simp[List.getD_eq_getElem?_getD,Array.getD_eq_getD_getElem?]);rw[e];exact rb t
  match pv,hsz,hall with
  |[d],hsz,hall=>
   obtain⟨u,rfl⟩:=Array.size_eq_one_iff.1 (show vs.size=1 by simpa using hsz);simp only[bS,bj]at hall;simpa[yP]using hall.1
  |[],hsz,hall=>
   have h1:¬vs.size=1:=(by rw[hsz];simp);rw[dif_neg h1];simp only[yP,den,VR];exact⟨vs,rfl,hall⟩
  |d::e::pv,hsz,hall=>
   have h1:¬vs.size=1:=(by rw[hsz];simp);rw[dif_neg h1];simp only[yP,den,VR];exact⟨vs,rfl,hall⟩
variable {Γ:FuncId->Option (cp X)} {am:TypeId->Option (CT X.ι)} {P:Program}
theorem apr(hT : fu P T)(hm : P.follows .mixedOrders = true)(hΓ : sE P Γ){f : FuncId}{fn : Func}{c : Code}(hfn : P.funcs[f]? = some fn)(hb : fn.body = some c)(hname : (fn.name == "runtime.NumGoroutine") = false)(g : dg X)(hN : g.pP.length <= fn.ntmps)(hin : g.A3 = true)
 (h:Hn X.ι) (n:Nat) (hr:∀v (r:VT (X:=X) (Aj g).vars),g.fn v=some r->run Γ T am fn.ntmps n c (VT (X:=X) (Aj g).vars) h (Ge g v) (ao2 T fn.results.toList g)=some r):GG P f g:=by
 intro v r hv;have hrun:=hr v r hv;simp only[dg.A3,aN,aW]at hin;obtain⟨⟨⟨i1,i2⟩,i3⟩,i4⟩:=hin;obtain⟨s1,s2,_⟩:=yS (ol:=Eh g.jt ((wm (cX g.pP++cR g.jt) v).drop (cX g.pP).length)) g.jt ((wm _ v).drop (cX g.pP).length);have hargs:∀k∈aS (g.args v),k<1000:=λk hk=>Nat.blt_eq.mp (all_eq_true.1 i3 k (yR g.pP _ k hk));have tx:∀p∈g.cQ v,p.1<1000/\∀j∈ek p.2,j<1000:=by
  intro p hp;have⟨op,g1,g2⟩:=s2 p hp;have hk:p.1∈g.jt.map (·.1):=mem_map.2 ⟨_,g1,rfl⟩;rw[i1]at hk;have:=List.mem_range.1 hk;exact⟨by omega,λj hj=>Nat.blt_eq.mp (all_eq_true.1 (all_eq_true.1 i4 _ g1) j (g2 j hj))⟩
 have hal:(g.args v).length=g.pP.length:=LV _ _ _;have hkeys:(g.cQ v).map (·.1)=List.range (g.cQ v).length:=aj0 g v i1;have gO:∀k,hZ (Ge g v).obj k=tA (g.cQ v) k:=by
  intro k;show hZ (dG _ g.jt _) k=tA (dM (dG _ g.jt _)) k;rw[uZ,WA,<- uZ]
 have Tb:∀(l:U (Nat×bm X))(n:Nat),l.map (·.1)=(List.range l.length).map (n+ ·)->∀k,tA l (n+k)=(l[k]?).map (·.2):=by
  intro l
  induction l with
  |nil=>intro n _ k;rfl
  |cons p l ih=>
   intro n hn k;rw[bG,List.range_succ_eq_map,aH,aH,map_map]at hn;injection hn with e1 e2;simp only[tA];cases k with
   |zero=>rw[aZ (by omega)];rfl
   |succ k=>
    rw[aT (by omega),show n+(k+1)=(n+1)+k by omega,ih (n+1) (by rw[e2];refine map_congr_left λa _=>?_;simp only[Function.comp_apply];omega) k];rfl
 have hlow:Low (Ge g v):=by
  refine⟨by show 1000<=1000000;decide,aG _,λt k hk=>hargs k (aaq t _ _ k hk),λk o ho=>?_⟩;rw[gO]at ho;have hmem:∀(l:U (Nat×bm X)),tA l k=some o->(k,o)∈l:=by
   intro l
   induction l with
   |nil=>intro h;simp[tA]at h
   |cons p l ih=>
    intro h;simp only[tA]at h;split at h
    .rename_i e;cases h;subst e;exact List.mem_cons_self
    .exact eX _ (ih h)
  exact tx _ (hmem _ ho)
 refine ajx hT hfn hb hname (by rw[lq,hal];exact hN) (λ k hk=>hargs k (by rwa [gZ]at hk)) (by rw[length_map,<- length_map (f:=Prod.fst),hkeys,List.length_range];have:=s1.length_le;rw[length_map,length_map]at this;exact Nat.le_trans this i2) ?_ ?_
 .intro o ho r' hr' x hx j hj;obtain⟨p,hp,rfl⟩:=mem_map.1 ho;exact(tx p hp).2 j (Wo hr' hx j hj)
 .have e:rI.st ⟨(List.range (bS (g.args v)).length).zip (bS (g.args v)),(List.range ((g.cQ v).map λp=>bI p.2).length).zip ((g.cQ v).map λp=>bI p.2)⟩=(Ge g v).st:=by
   simp only[d5.st,rI.st,St.mk.injEq,and_true];refine⟨?_,?_⟩
   .funext t;simp only[Ge];rw[alJ,lq,hal]
   .funext k;rw[Bf,gO,List.getElem?_map];have:=Tb (g.cQ v) 0 (by rw[hkeys];simp) k;rw[Nat.zero_add]at this;rw[this,Option.map_map];rfl
  rw[e];refine(kS hT hm hΓ c _ h _ _ r hlow hrun).mono ?_;rintro e σ ⟨s',hl',_,rfl,g4⟩;cases e<;>first |exact aj1 hl' g4 |cases g4
end
section
variable {P:Program} {f F:FuncId} {E:TypeId} {α:Type} {enc:α->Value} {d:α}
end
section
variable {X:SX}
end
section
variable {X:SX}
def F7{α β:Type}(f:α->J β):U α->J (List β)
 |[]=>some []
 |x::xs=>(f x).bind λy=>(F7 f xs).bind λys=>some (y::ys)
def nh(dq:(i j:X.ι)->Decidable (i=j))(i:X.ι):CT X.ι->J CS
 | .int k=>some (.int k)
 | .bool=>some .bool
 | .str=>some .str
 | .sl (.st j)=>match dq j i with
  | .isTrue _=>some .back
  | .isFalse _=>none
 |_=>none
def ao3(dq:(i j:X.ι)->Decidable (i=j))(i:X.ι):Bool:=(X.c7 i).any λc=>match c with
 | .sl (.st j)=>match dq j i with
  | .isTrue _=>true
  | .isFalse _=>false
 |_=>false
def ap8(dq:(i j:X.ι)->Decidable (i=j)):CT X.ι->J (List CS)
 | .st i=>bif ao3 dq i then F7 (nh dq i) (X.c7 i)else none
 |_=>none
theorem aps(dq:(i j:X.ι)->Decidable (i=j)){i:X.ι}{row:U CS}(hm:F7 (nh dq i) (X.c7 i)=some row){x:Tree}(h:G4 row x):∃l:U (CT.T X.toSE (.st i)),x= .sl (l.map (CT.row X.toSE (.st i))):=by
 refine G4.rec (row:=row) (motive_1:=λx _=>∃l:U (CT.T X.toSE (.st i)),x= .sl (l.map (CT.row X.toSE (.st i)))) (motive_2:=λrows _=>∃l:U (CT.T X.toSE (.st i)),rows=l.map (CT.row X.toSE (.st i)))
  (motive_3:=λcs r _=>∀codes:U (CT X.ι),F7 (nh dq i) codes=some cs->∃h:HL X.toSE codes,r=HL.row X.toSE codes h) ?_ ?_ ?_ ?_ ?_ ?_ h
 .rintro rows _ _ ⟨l,rfl⟩;exact⟨l,rfl⟩
 .exact⟨[],rfl⟩
 .rintro r rs _ _ h1 ⟨l,rfl⟩;obtain⟨q,rfl⟩:=h1 _ hm;exact⟨(X.make i q:X.T i)::l,by rw[aH];congr 1;exact(X.gp i q).symm⟩
 .intro codes hc;cases codes with
  |nil=>exact⟨(),rfl⟩
  |cons c codes=>
   simp only[F7,ai]at hc;obtain⟨_,_,_,_,h⟩:=hc;cases h
 .intro cs x xs _ _ h1 h2 codes hc;obtain⟨l,rfl⟩:=h1;cases codes with
  |nil=>simp[F7]at hc
  |cons c codes=>
   simp only[F7,ai]at hc;obtain⟨c',g1,cs',g2,g3⟩:=hc;injection g3 with g3;injection g3 with g4 g5;subst g4 g5;obtain⟨q,rfl⟩:=h2 _ g2
   match c,g1 with
   | .sl (.st j),g1=>
    simp only[nh]at g1;split at g1
    .rename_i hj _;subst hj;exact⟨(l,q),rfl⟩
    .cases g1
   | .int _,g1=>simp[nh]at g1
   | .bool,g1=>simp[nh]at g1
   | .str,g1=>simp[nh]at g1
   | .any,g1=>simp[nh]at g1
   | .st _,g1=>simp[nh]at g1
   | .mp _ _,g1=>simp[nh]at g1
   | .sl (.int _),g1=>simp[nh]at g1
   | .sl .bool,g1=>simp[nh]at g1
   | .sl .str,g1=>simp[nh]at g1
   | .sl .any,g1=>simp[nh]at g1
   | .sl (.sl _),g1=>simp[nh]at g1
   | .sl (.mp _ _),g1=>simp[nh]at g1
 .intro c' cs x xs hf _ h2 codes hc;cases codes with
  |nil=>simp[F7]at hc
  |cons c codes=>
   simp only[F7,ai]at hc;obtain⟨c2,g1,cs',g2,g3⟩:=hc;injection g3 with g3;injection g3 with g4 g5;subst g4 g5;obtain⟨q,rfl⟩:=h2 _ g2
   match c,g1 with
   | .int k,g1=>
    cases g1;obtain⟨n,rfl,_⟩:=hf;exact⟨(n,q),rfl⟩
   | .bool,g1=>
    cases g1;obtain⟨n,rfl⟩:=hf;exact⟨(n,q),rfl⟩
   | .str,g1=>
    cases g1;obtain⟨n,rfl,_⟩:=hf;exact⟨(n,q),rfl⟩
   | .sl (.st j),g1=>
    simp only[nh]at g1;split at g1
    .cases g1;exact hf.elim
    .cases g1
   | .any,g1=>simp[nh]at g1
   | .st _,g1=>simp[nh]at g1
   | .mp _ _,g1=>simp[nh]at g1
   | .sl (.int _),g1=>simp[nh]at g1
   | .sl .bool,g1=>simp[nh]at g1
   | .sl .str,g1=>simp[nh]at g1
   | .sl .any,g1=>simp[nh]at g1
   | .sl (.sl _),g1=>simp[nh]at g1
   | .sl (.mp _ _),g1=>simp[nh]at g1
def ud:Nat->CT X.ι->J (List CS)
 | 0,_=>none
 |_+1,.int k=>some [.int k]
 |_+1,.bool=>some [.bool]
 |_+1,.str=>some [.str]
 |_+1,.any=>some [.any]
 |_+1,.mp _ _=>none
 |n+1,.sl e=>match ap8 X.dec e with
  |some row=>some [.mu row]
  |none=>(ud n e).bind λr=>some [.sl r]
 |n+1,.st i=>(F7 (ud n) (X.c7 i)).bind λl=>some l.flatten
def Hb(n:Nat)(c:CT X.ι):J VS:=
 match c with
 | .st i=>(ud n (.st i:CT X.ι)).map .agg
 |c=>(ud n c).bind λl=>match l with
  |[x]=>some (.one x)
  |_=>none
theorem RY:∀(a b:U CS)(ys:U Tree),dE (a++b) ys->∃ya yb,ys=ya++yb/\dE a ya/\dE b yb
 |[],b,ys,h=>⟨[],ys,rfl,trivial,h⟩
 |c::a,b,y::ys,h=>by
  simp only[cons_append,dE]at h;obtain⟨ya,yb,rfl,h1,h2⟩:=RY a b ys h.2;exact⟨y::ya,yb,rfl,⟨h.1,h1⟩,h2⟩
 |_::_,_,[],h=>h.elim
theorem ad4{c:CT X.ι}{cs:U CS}(h:∀ys,dE cs ys->∃x:CT.T X.toSE c,ys=CT.row X.toSE c x):∀rows:U (List Tree),(∀ r∈rows,dE cs r)->∃l:U (CT.T X.toSE c),rows=l.map (CT.row X.toSE c)
 |[],_=>⟨[],rfl⟩
 |r::rows,hr=>by
  obtain⟨x,hx⟩:=h r (hr r (by simp));obtain⟨l,hl⟩:=ad4 h rows λq hq=>hr q (eX _ hq);exact⟨x::l,by rw[aH,<- hx,<- hl]⟩
theorem alK{f:CT X.ι->J (List CS)}(hf:∀c cs,f c=some cs->∀ys,dE cs ys->∃x:CT.T X.toSE c,ys=CT.row X.toSE c x):∀(l:U (CT X.ι))(css:U (List CS)),F7 f l=some css->∀ys,dE css.flatten ys->∃h:HL X.toSE l,ys=HL.row X.toSE l h
 |[],css,h,ys,hy=>by
  simp only[F7,aC]at h;subst h;cases ys with
  |nil=>exact⟨(),rfl⟩
  |cons y ys=>exact hy.elim
 |c::l,css,h,ys,hy=>by
  simp only[F7]at h;have⟨a,h1,h⟩:=ai.1 h;have⟨b,h2,h⟩:=ai.1 h;cases h;simp only[flatten_cons]at hy;obtain⟨ya,yb,rfl,g1,g2⟩:=RY _ _ _ hy;have⟨x,hx⟩:=hf c a h1 ya g1;have⟨q,hq⟩:=alK hf l b h2 yb g2;exact⟨(x,q),by rw[hx,hq];rfl⟩
theorem Uz:∀(n:Nat)(c:CT X.ι)(cs:U CS),ud n c=some cs->∀ys,dE cs ys->∃x:CT.T X.toSE c,ys=CT.row X.toSE c x
 | 0,_,_,h,_,_=>by cases h
 |n+1,.mp _ _,cs,h,ys,hy=>by simp[ud]at h
 |n+1,.int k,cs,h,ys,hy=>by
  simp only[ud,aC]at h;subst h
  match ys,hy with
  |[y],hy=>
   simp only[dE,Fit,and_true]at hy;obtain⟨m,rfl,_⟩:=hy;exact⟨m,rfl⟩
  |[],hy=>exact hy.elim
  |_::_::_,hy=>exact hy.2.elim
 |n+1,.bool,cs,h,ys,hy=>by
  simp only[ud,aC]at h;subst h
  match ys,hy with
  |[y],hy=>
   simp only[dE,Fit,and_true]at hy;obtain⟨m,rfl⟩:=hy;exact⟨m,rfl⟩
  |[],hy=>exact hy.elim
  |_::_::_,hy=>exact hy.2.elim
 |n+1,.str,cs,h,ys,hy=>by
  simp only[ud,aC]at h;subst h
  match ys,hy with
  |[y],hy=>
   simp only[dE,Fit,and_true]at hy;obtain⟨m,rfl,_⟩:=hy;exact⟨m,rfl⟩
  |[],hy=>exact hy.elim
  |_::_::_,hy=>exact hy.2.elim
 |n+1,.any,cs,h,ys,hy=>by
  simp only[ud,aC]at h;subst h
  match ys,hy with
  |[y],hy=>exact⟨y,rfl⟩
  |[],hy=>exact hy.elim
  |_::_::_,hy=>exact hy.2.elim
 |n+1,.sl e,cs,h,ys,hy=>by
  simp only[ud]at h;split at h
  .rename_i row hm;cases h
   match ys,hy with
   |[y],hy=>
    simp only[dE,Fit,and_true]at hy;cases e with
    |st i=>
     simp only[ap8]at hm;cases hb:ao3 X.dec i with
     |false=>rw[hb]at hm;cases hm
     |true=>
      rw[hb]at hm;have⟨l,hl⟩:=aps X.dec hm hy;exact⟨l,by rw[hl];rfl⟩
    |_=>cases hm
   |[],hy=>exact hy.elim
   |_::_::_,hy=>exact hy.2.elim
  have⟨r,h1,h⟩:=ai.1 h;cases h
  match ys,hy with
  |[y],hy=>
   simp only[dE,Fit,and_true]at hy;obtain⟨rows,rfl,_,hr⟩:=hy;have⟨l,hl⟩:=ad4 (Uz n e r h1) rows hr;exact⟨l,by rw[hl];rfl⟩
  |[],hy=>exact hy.elim
  |_::_::_,hy=>exact hy.2.elim
 |n+1,.st i,cs,h,ys,hy=>by
  simp only[ud]at h;rw[ai]at h;obtain⟨css,h1,h⟩:=h;cases h;have⟨q,hq⟩:=alK (Uz n) (X.c7 i) css h1 ys hy;exact⟨X.make i q,by rw[hq];exact(X.gp i q).symm⟩
theorem anX{n:Nat}{c:CT X.ι}{s:VS}(h:Hb n c=some s){x:TV}(hx:FF s x):∃y:CT.T X.toSE c,x=CT.tv X.toSE c y:=by
 have one:∀c:CT X.ι,c.one=true->((ud n c).bind λl=>match l with
  |[x]=>some (VS.one x)
  |_=>none)=some s->∃y:CT.T X.toSE c,x=CT.tv X.toSE c y:=by
  intro c hc h;rw[ai]at h;obtain⟨l,h1,h⟩:=h;split at h
  .rename_i z;cases h;simp only[FF]at hx;obtain⟨t,rfl,ht⟩:=hx;obtain⟨y,hy⟩:=Uz n c _ h1 [t] ⟨ht,trivial⟩;obtain⟨t',e1,e2⟩:=row_one hc y;rw[e1]at hy;cases hy;exact⟨y,e2.symm⟩
  .cases h
 cases c
 case st i=>
  simp only[Hb,dQ]at h;obtain⟨cs,h1,rfl⟩:=h;simp only[FF]at hx;obtain⟨ys,rfl,hy⟩:=hx;obtain⟨y,hy⟩:=Uz n (.st i) _ h1 ys hy;exact⟨y,by rw[hy];rfl⟩
 all_goals exact one _ rfl h
theorem ad5(n:Nat):∀(cs:U (CT X.ι))(ss:U VS),F7 (Hb n) cs=some ss->∀xs,Vv ss xs->∃h:HL X.toSE cs,xs=HL.oc X.toSE cs h
 |[],ss,h,xs,hx=>by
  simp only[F7,aC]at h;subst h;cases xs with
  |nil=>exact⟨(),rfl⟩
  |cons x xs=>exact hx.elim
 |c::cs,ss,h,xs,hx=>by
  simp only[F7]at h;have⟨a,h1,h⟩:=ai.1 h;have⟨b,h2,h⟩:=ai.1 h;cases h;cases xs with
  |nil=>exact hx.elim
  |cons x xs=>
   obtain⟨y,rfl⟩:=anX h1 hx.1;obtain⟨q,rfl⟩:=ad5 n cs b h2 xs hx.2;exact⟨(y,q),rfl⟩
theorem alL{P:Program}{f:FuncId}{n N:Nat}{cs:U (CT X.ι)}{ss:U VS}{fn:Nat->iH X (cs.map AT.d)->J Bool}(hc:∀k,AK P f ⟨cs.map AT.d,[.d .bool],fn k,none⟩)(hs:F7 (Hb n) cs=some ss)(hl:∀q:HL X.toSE cs,Vv ss (HL.oc X.toSE cs q)->yi (HL.oc X.toSE cs q)<=N->∃k,fn k (hlA cs q)=some true)(xs:U TV)(h:Vv ss xs)(hb:yi xs<=N):
 ri P f (xs.map TV.av) (.one (.d (.s (.sc (.bool true))))):=by
 obtain⟨q,rfl⟩:=ad5 n cs ss hs xs h;have⟨k,hk⟩:=hl q h hb;have h1:=(hc k).2.1 (hlA cs q) true hk;have h2:=h1;rw[wz (Uw cs)]at h2;have h3:qt P f (wu (cs.map AT.d) (hlA cs q)) [] [] (.one (.d (.s (.sc (.bool true))))):=h2;have h4:=Nb h3;rw[wu,JU]at h4;exact h4
end
end Go.Gb
