import Derived.Test.YtkgkglgpckgokaaGreatW2
open List (mem_map all_eq_true cons_append length_map append_nil map_map map_congr_left flatten_cons map_nil all_cons map_take map_drop map_append mem_append_right)
namespace Go.Gb
open Go.RowKit
section
variable {X:SX} {A:Type}
theorem X2:∀(l:U (CT X.ι))(v:VT (X:=X) l),(wh l v).map (·.c)=l
 |[],_=>rfl
 |[_],_=>rfl
 |c::c'::l,v=>by simp only[wh,aF,X2 (c'::l) v.2]
theorem PK:∀{l:U Tree},(∀ t∈l,t.flat)->pI (l.map AV.t)
 |[],_=>trivial
 |t::l,h=>⟨h t (by simp),PK (λ u hu=>h u (by simp[hu]))⟩
theorem abC{c:CT X.ι}(h:xu c=true)(x:CT.T X.toSE c):uV (CT.tv X.toSE c x).av:=by
 have hf:=uZ h x;cases c
 case st i=>exact PK hf
 all_goals first |exact hf _ (aQ.2 rfl) |cases h
section
variable {ol:Nat->Nat}
mutual
theorem am6:∀(p:Pt X.ι)(L:List (DC X))(cs:List (CT X.ι)),L.map (·.c)=p.vars++cs->p.vars.all xu=true->uV (den (eP ol p L).1)/\(eP ol p L).2.map (·.c)=cs
 | .v c,L,cs,h,hs=>by
  match L,h with
  |d::r,h=>
   simp only[Pt.vars,aF,List.singleton_append,List.cons.injEq]at h;simp only[Pt.vars,all_cons,List.all_nil,Bool.and_true]at hs;exact⟨abC (h.1 ▸ hs) d.x,h.2⟩
  |[],h=>simp[Pt.vars]at h
 | .o k,L,cs,h,_=>⟨trivial,by simpa[Pt.vars,eP]using h⟩
 | .p k,L,cs,h,_=>⟨trivial,by simpa[Pt.vars,eP]using h⟩
 | .mp k,L,cs,h,_=>⟨trivial,by simpa[Pt.vars,eP]using h⟩
 | .oz k,L,cs,h,_=>⟨trivial,by simpa[Pt.vars,eP]using h⟩
 | .nil,L,cs,h,_=>⟨trivial,by simpa[Pt.vars,eP]using h⟩
 | .od k,L,cs,h,_=>by
  match L,h with
  |d::r,h=>
   simp only[Pt.vars,aF,List.singleton_append,List.cons.injEq]at h;exact⟨trivial,h.2⟩
  |[],h=>simp[Pt.vars]at h
 | .f F fs ps,L,cs,h,hs=>by
  simp only[Pt.vars,List.all_append,aL]at hs;simp only[Pt.vars,aM]at h;obtain⟨a1,a2⟩:=Cy fs L _ h hs.1;obtain⟨b1,b2⟩:=Cy ps _ _ a2 hs.2;exact⟨⟨a1,b1⟩,b2⟩
 | .a ps,L,cs,h,hs=>by
  simp only[Pt.vars]at h hs;exact Cy ps L cs h hs
theorem Cy:∀(ps:List (Pt X.ι))(L:List (DC X))(cs:List (CT X.ι)),L.map (·.c)=cQ ps++cs->(cQ ps).all xu=true->pI (bO (lh ol ps L).1)/\(lh ol ps L).2.map (·.c)=cs
 |[],L,cs,h,_=>⟨trivial,by simpa[cQ,lh]using h⟩
 |p::ps,L,cs,h,hs=>by
  simp only[cQ,List.all_append,aL]at hs;simp only[cQ,aM]at h;obtain⟨a1,a2⟩:=am6 p L _ h hs.1;obtain⟨b1,b2⟩:=Cy ps _ _ a2 hs.2;exact⟨⟨a1,b1⟩,b2⟩
end
mutual
theorem am7:∀(p:Pt X.ι)(L:List (DC X)),∀j∈bk (eP ol p L).1,j∈p.refs
 | .v c,L,j,h=>by cases L<;>simp[eP,bk]at h
 | .o k,L,j,h=>by simpa[eP,bk,Pt.refs]using h
 | .p k,L,j,h=>by simpa[eP,bk,Pt.refs]using h
 | .mp k,L,j,h=>by simpa[eP,bk,Pt.refs]using h
 | .oz k,L,j,h=>by simpa[eP,bk,Pt.refs]using h
 | .nil,L,j,h=>by simp[eP,bk]at h
 | .od k,L,j,h=>by cases L<;>simp[eP,bk]at h<;>simp[Pt.refs,h]
 | .f F fs ps,L,j,h=>by
  simp only[eP,bk,aZ]at h;simp only[Pt.refs,aZ];exact h.imp (yL fs _ j) (yL ps _ j)
 | .a ps,L,j,h=>by
  simp only[eP,bk]at h;simp only[Pt.refs];exact yL ps _ j h
theorem yL:∀(ps:List (Pt X.ι))(L:List (DC X)),∀j∈aP (lh ol ps L).1,j∈Ba ps
 |[],L,j,h=>by simp[lh,aP]at h
 |p::ps,L,j,h=>by
  simp only[lh,aP,aZ]at h;simp only[Ba,aZ];exact h.imp (am7 p _ j) (yL ps _ j)
end
theorem K3:∀(rs:U (List (Pt X.ι)))(L:U (DC X))(cs:U (CT X.ι)),L.map (·.c)=vZ rs++cs->(wm ol rs L).2.map (·.c)=cs/\((vZ rs).all xu=true->∀r∈(wm ol rs L).1,pI (bO r))
 |[],L,cs,h=>⟨by simpa[vZ,wm]using h,by simp[wm]⟩
 |r::rs,L,cs,h=>by
  simp only[vZ,aM]at h;have step:(lh ol r L).2.map (·.c)=vZ rs++cs:=tW r L _ h;obtain⟨b1,b2⟩:=K3 rs _ _ step;refine⟨b1,λhs q hq=>?_⟩;simp only[vZ,List.all_append,aL]at hs;simp only[wm,aN]at hq;rcases hq with rfl |hq
  .exact(Cy r L _ h hs.1).1
  .exact b2 hs.2 q hq
where
 tW (ps:U (Pt X.ι)) (L:U (DC X)) (cs:U (CT X.ι)) (h:L.map (·.c)=cQ ps++cs):(lh ol ps L).2.map (·.c)=cs:=pp ps L cs h
 C7:∀(p:Pt X.ι)(L:U (DC X))(cs:U (CT X.ι)),L.map (·.c)=p.vars++cs->(eP ol p L).2.map (·.c)=cs
  | .v c,L,cs,h=>by
   match L,h with
   |d::r,h=>simp only[Pt.vars,aF,List.singleton_append,List.cons.injEq]at h;exact h.2
   |[],h=>simp[Pt.vars]at h
  | .o k,L,cs,h=>by simpa[Pt.vars,eP]using h
  | .p k,L,cs,h=>by simpa[Pt.vars,eP]using h
  | .mp k,L,cs,h=>by simpa[Pt.vars,eP]using h
  | .oz k,L,cs,h=>by simpa[Pt.vars,eP]using h
  | .nil,L,cs,h=>by simpa[Pt.vars,eP]using h
  | .od k,L,cs,h=>by
   match L,h with
   |d::r,h=>simp only[Pt.vars,aF,List.singleton_append,List.cons.injEq]at h;exact h.2
   |[],h=>simp[Pt.vars]at h
  | .f F fs ps,L,cs,h=>by
   simp only[Pt.vars,aM]at h;exact pp ps _ _ (pp fs L _ h)
  | .a ps,L,cs,h=>by
   simp only[Pt.vars]at h;exact pp ps L cs h
 pp:∀(ps:U (Pt X.ι))(L:U (DC X))(cs:U (CT X.ι)),L.map (·.c)=cQ ps++cs->(lh ol ps L).2.map (·.c)=cs
  |[],L,cs,h=>by simpa[cQ,lh]using h
  |p::ps,L,cs,h=>by
   simp only[cQ,aM]at h;exact pp ps _ _ (C7 p L _ h)
theorem V5:∀(rs:U (List (Pt X.ι)))(L:U (DC X)),∀j∈((wm ol rs L).1.map aP).flatten,j∈rs.flatMap Ba
 |[],L,j,h=>by simp[wm]at h
 |r::rs,L,j,h=>by
  simp only[wm,aF,flatten_cons,aZ]at h;simp only[List.flatMap_cons,aZ];exact h.imp (yL r _ j) (V5 rs _ j)
theorem yM:∀(O:U (Nat×OP X.ι))(L:U (DC X)),((dJ (dn ol O L)).map (·.1)).Sublist (O.map (·.1))/\(∀ p∈dJ (dn ol O L),∃op,(p.1,op)∈O/\∀j∈d6 p.2,j∈op.refs)/\
 (L.map (·.c)=cH O->(O.all λq=>match q.2 with | .l c=>xu c | .m _ _=>false | .c _ rows=>(vZ rows).all xu)=true->∀p∈dJ (dn ol O L),∀r∈(bH p.2).rows,pI r)
 |[],L=>⟨by simp[dn,dJ],by simp[dn,dJ],by simp[dn,dJ]⟩
 |(k,.l c)::O,L=>by
  match L with
  |[]=>exact⟨by simp[dn,dJ],by simp[dn,dJ],by simp[dn,dJ]⟩
  |⟨.sl c',x⟩::L=>
   have⟨h1,h2,h3⟩:=yM O L;refine⟨?_,?_,?_⟩
   .simp only[dn,dJ,aF];exact h1.cons_cons _
   .intro p hp;simp only[dn,dJ,aN]at hp;rcases hp with rfl |hp
    .exact⟨.l c,by simp,by simp[d6]⟩
    .have⟨op,g1,g2⟩:=h2 p hp;exact⟨op,eG _ g1,g2⟩
   .intro hL hs p hp r hr;simp only[aF,cH,List.cons.injEq]at hL;simp only[all_cons,aL]at hs;simp only[dn,dJ,aN]at hp;rcases hp with rfl |hp
    .obtain⟨e,_⟩:=hL;injection e with e;simp only[bH,aI,mem_map]at hr;obtain⟨q,⟨y,hy,rfl⟩,rfl⟩:=hr;exact PK (uZ (e ▸ hs.1) y)
    .exact h3 hL.2 hs.2 p hp r hr
  |⟨.int _,x⟩::L=>exact⟨by simp[dn,dJ],by simp[dn,dJ],by simp[dn,dJ]⟩
  |⟨.bool,x⟩::L=>exact⟨by simp[dn,dJ],by simp[dn,dJ],by simp[dn,dJ]⟩
  |⟨.str,x⟩::L=>exact⟨by simp[dn,dJ],by simp[dn,dJ],by simp[dn,dJ]⟩
  |⟨.any,x⟩::L=>exact⟨by simp[dn,dJ],by simp[dn,dJ],by simp[dn,dJ]⟩
  |⟨.mp _ _,x⟩::L=>exact⟨by simp[dn,dJ],by simp[dn,dJ],by simp[dn,dJ]⟩
  |⟨.st _,x⟩::L=>exact⟨by simp[dn,dJ],by simp[dn,dJ],by simp[dn,dJ]⟩
 |(k,.m kc vc)::O,L=>by
  match L with
  |[]=>exact⟨by simp[dn,dJ],by simp[dn,dJ],by simp[dn,dJ]⟩
  |⟨.mp tR tG,x⟩::L=>
   have⟨h1,h2,h3⟩:=yM O L;refine⟨?_,?_,?_⟩
   .simp only[dn,dJ,aF];exact h1.cons_cons _
   .intro p hp;simp only[dn,dJ,aN]at hp;rcases hp with rfl |hp
    .exact⟨.m kc vc,by simp,by simp[d6]⟩
    .have⟨op,g1,g2⟩:=h2 p hp;exact⟨op,eG _ g1,g2⟩
   .intro hL hs;simp at hs
  |⟨.sl _,x⟩::L=>exact⟨by simp[dn,dJ],by simp[dn,dJ],by simp[dn,dJ]⟩
  |⟨.int _,x⟩::L=>exact⟨by simp[dn,dJ],by simp[dn,dJ],by simp[dn,dJ]⟩
  |⟨.bool,x⟩::L=>exact⟨by simp[dn,dJ],by simp[dn,dJ],by simp[dn,dJ]⟩
  |⟨.str,x⟩::L=>exact⟨by simp[dn,dJ],by simp[dn,dJ],by simp[dn,dJ]⟩
  |⟨.any,x⟩::L=>exact⟨by simp[dn,dJ],by simp[dn,dJ],by simp[dn,dJ]⟩
  |⟨.st _,x⟩::L=>exact⟨by simp[dn,dJ],by simp[dn,dJ],by simp[dn,dJ]⟩
 |(k,.c sz rows)::O,L=>by
  have⟨h1,h2,h3⟩:=yM O (wm ol rows L).2;refine⟨?_,?_,?_⟩
  .simp only[dn,dJ,aF];exact h1.cons_cons _
  .intro p hp;simp only[dn,dJ,aN]at hp;rcases hp with rfl |hp
   .exact⟨.c sz rows,by simp,λj hj=>V5 rows L j hj⟩
   .have⟨op,g1,g2⟩:=h2 p hp;exact⟨op,eG _ g1,g2⟩
  .intro hL hs p hp r hr;simp only[cH]at hL;simp only[all_cons,aL]at hs;obtain⟨e1,e2⟩:=K3 (ol:=ol) rows L _ hL;simp only[dn,dJ,aN]at hp;rcases hp with rfl |hp
   .simp only[bH,mem_map]at hr;obtain⟨q,hq,rfl⟩:=hr;exact e2 hs.1 q hq
   .exact h3 e1 hs.2 p hp r hr
end
theorem PL(k:Nat):∀os:U (Nat×bm X),oa (tu os) k=(tx os k).map bH
 |[]=>rfl
 |(j,o)::r=>by
  simp only[tu,aF,oa,tx];split
  .rfl
  .exact PL k r
theorem V6(f:Nat->Nat)(c:CT X.ι)(x:CT.T X.toSE c):gb f (CT.tv X.toSE c x).av=(CT.tv X.toSE c x).av:=(Aa f (.c c x)).symm
theorem adF(f:Nat->Nat)(o:bm X):bH (oT f o)=JW f (bH o):=by
 cases o with
 |cells sz rows=>simp only[oT,bH,JW,map_map];congr 1;exact map_congr_left λr _=>Cw f r
 |ea c l=>simp only[oT,bH,JW,aI,map_map];congr 1;exact map_congr_left λr _=>(YY f _).symm
 |map kc vc l=>simp only[oT,bH,JW,map_map];congr 1;exact map_congr_left λr _=>by simp only[Function.comp_apply,zG,V6]
theorem ajj(i:Nat)(ae:U Nat)(os:U (Nat×bm X)):iE (M3 i ae os)=xT i ae (tu os):=by
 simp only[M3,xT,sD];congr 1
 .simp only[iE,map_map];refine map_congr_left λp _=>?_;simp only[Function.comp_apply,PL,Option.map_map];congr 1;cases tx os p.2<;>simp[adF]
 .simp only[iE,tu,List.filter_map,map_map];refine map_congr_left λq _=>?_;simp[adF]
theorem V7{ds:U (DV X)}:(∀ j∈refs (den (yJ ds)),j∈aP ds)/\(pI (bO ds)->uV (den (yJ ds))):=by
 match ds with
 |[]=>exact⟨λ j hj=>by simp[yJ,den,bO,refs,eT]at hj,λ_=>by simp only[yJ,den,uV];exact trivial⟩
 |[d]=>exact⟨λ j hj=>by simp only[yJ,iT]at hj;simpa[aP]using hj,λh=>h.1⟩
 |d::e::r=>exact⟨λ j hj=>by simp only[yJ,den,refs,ig]at hj;exact hj,λh=>h⟩
theorem aad:∀xs:U (Nat×bm X),dJ (xs.map λp=>(p.1,some p.2))=xs
 |[]=>rfl
 |p::xs=>by simp only[aF,dJ,aad xs]
theorem abD{P:Program}{g:c7 X}{F:FuncId}(hg:Fo P F g){i:Nat}{first args caps:U (DV X)}{get:Nat->J (bm X)}{k:KK X A}{r:A}(h:Ys g i (first++args++caps) get k=some r):
 ∃cx rd wr dv upd ab,j6 P i (den (.fn F first caps)) (bO args) cx (dK rd (fq get))=some ab/\jw ab.obs/\ab.v=den dv/\ab.upd=iE upd/\(∀ p∈upd,p.1=cJ i\/p.1∈wr)/\k dv upd rd wr=some r:=by
 unfold Ys at h;rw[ai]at h;obtain⟨m1,h1,h⟩:=h;rw[ai]at h;obtain⟨m,h2,h⟩:=h;have⟨h3,h⟩:=eu h;rw[ai]at h;obtain⟨v,h4,h⟩:=h;have⟨h5,h⟩:=pJ h;rw[ai]at h;obtain⟨rr,h6,h⟩:=h;simp only[aL]at h3;obtain⟨hok,A3⟩:=h3;simp only at h;generalize kq:(List.range g.i6.length).map (qv m)=ae at h A3;simp only[c7.ok,aL,aV]at hok;obtain⟨⟨⟨⟨n1,n2⟩,n3⟩,n4⟩,n5⟩:=hok;simp only[okG,aL,aV]at A3;obtain⟨⟨hnd,hnm⟩,A0⟩:=A3;have hlen:ae.length=g.i6.length:=by rw[<- kq];simp
 have hi:∀q∈m.nm,ae[q.2]? =some q.1:=by
  intro q hq;have:=all_eq_true.1 hnm q hq;split at this
  .rename_i k' e;rw[e,Nat.eq_of_beq_eq_true this]
  .cases this
 have hv:∀k∈m.vr,k∉ae:=λk hk=>by
  have:=all_eq_true.1 A0 k hk;simpa using this
 have hrd:∀k,(∃ q,(k,q)∈m.nm)\/k∈m.vr->k∈ae++m.vr:=by
  rintro k (⟨q,hq⟩ |hk)
  .exact List.mem_append_left _ (dh (hi _ hq))
  .exact mem_append_right _ hk
 have hm2:=(lZ _ _ _ h2).1;have vn:=VK h4;obtain⟨_,nA,dA,lA⟩:=wz _ _ _ _ h1;simp only[bQ]at dA;obtain⟨nB,dB,lB⟩:=DY (NM:=m.nm) _ _ _ h2 (λ q hq=>hq);have hL:m.ez=nA++nB:=by rw[dB,dA]
 have hdrop:(wh _ v).drop (cQ g.pC).length=nB:=by rw[vn,hL,<- lA,List.drop_left]
 have htake:(wh _ v).take (cQ g.pC).length=nA:=by rw[vn,hL,<- lA,List.take_left]
 have ho:∀q∈m.nm,∀c l,get q.1=some (.ea c l)->DU g.i6 nB q.2=l.length:=by
  rintro⟨p,q⟩ hq c l hl;have hq2:=hi _ hq;have hqn:q<g.i6.length:=by rw[<- hlen];exact(dG.1 hq2).1
  obtain⟨p',o,g1,g2,g3⟩:=lB [] q (by rw[n1];exact List.mem_range.2 hqn);have:p'=p:=by
   have e1:=hi _ g1;rw[hq2]at e1;injection e1 with e1;exact e1.symm
  subst this;simp only at hl;rw[hl]at g2;injection g2 with g2;have h3:=g3 c l g2.symm;rw[append_nil]at h3;have hk:=(DZ g.i6 nB).nodup (by rw[n1];exact List.nodup_range);simp only[DU,uX hk h3,Option.getD_some]
 obtain⟨P4,It,ds',eA,⟨hs,obs,pA,qA⟩,rA⟩:=yu (P:=P) (ae:=ae) (rd:=ae++m.vr) (NM:=m.nm) (pP:=m.vr) (du:=DU g.i6 nB) hi hv hrd ho _ _ _ _ h1 (λ q hq=>hm2.1 q hq) (λ c hc=>h5 c (hm2.2.1 c hc)) (λ q hq=>hm2.2.2 q hq);obtain⟨P3,Up,xs,eB,bs,mo,pB,qB,rB⟩:=Ab (P:=P) (ae:=ae) (rd:=ae++m.vr) (NM:=m.nm) (pP:=m.vr) (du:=DU g.i6 nB) hi hv hrd ho _ _ _ h2 (λ q hq=>hq) h5 (λ q hq=>hq);have T6:P4=nA:=by simp only[bQ]at It;rw[<- It,dA]
 have T5:P3=nB:=List.append_cancel_left (Up.symm.trans dB);subst T6 T5;have In:=eA [];have If:=eB [];rw[append_nil]at In If;have hargs:g.args v=ds':=by simp only[c7.args,VN,hdrop,htake,In]
 have tt:g.cE v=xs:=by simp only[c7.cE,Lk,hdrop,If,aad]
 have Su:(g.i6.map λp=>(ae[p.1]?).getD 0)=ae:=by
  have:(g.i6.map λp=>(ae[p.1]?).getD 0)=(g.i6.map (·.1)).map λj=>(ae[j]?).getD 0:=by rw[map_map];rfl
  rw[this,n1];refine List.ext_getElem (by simp[hlen]) λj a b=>?_;simp[dL b]
 rw[Su]at qB rB;have qA0:=qA [];rw[append_nil,iG,iG]at qA0;have hcon:=hg v rr h6;rw[hargs,tt]at hcon;obtain⟨s1,s2,s3⟩:=yM (ol:=DU g.iz ((wh (gS (lj 0 g.fL)++cH g.iz) rr).drop (cQ g.fL).length)) g.iz ((wh _ rr).drop (cQ g.fL).length);have AI:∀k,Hd g.i6.length k=true->At ae.length k:=by
  intro k hk;simp only[Hd,Bool.or_eq_true,aL,Nat.blt_eq,Nat.ble_eq]at hk;simp only[At,hlen];exact hk
 have good:ZM ae.length (tu (g.outs rr)) (den (g.res rr)):=by
  refine⟨?_,?_,?_,?_⟩
  .intro q hq;simp only[tu,mem_map]at hq;obtain⟨p,hp,rfl⟩:=hq;have⟨op,g1,_⟩:=s2 p hp;have:=all_eq_true.1 n3 _ g1;simp only[aL]at this;exact AI _ this.1
  .have:(tu (g.outs rr)).map (·.1)=(g.outs rr).map (·.1):=(by simp[tu]);rw[this];exact s1.nodup n4
  .intro q hq r' hr' j hj;simp only[tu,mem_map]at hq;obtain⟨p,hp,rfl⟩:=hq;have⟨op,g1,g2⟩:=s2 p hp;have:=all_eq_true.1 n3 _ g1;simp only[aL]at this;refine AI _ (all_eq_true.1 this.2 j (g2 j ?_));obtain⟨pk,po⟩:=p;cases po with
   |cells sz rows=>exact M0 (List.mem_flatMap.2 ⟨r',hr',hj⟩)
   |ea c l=>
    simp only[bH,aI,mem_map]at hr';obtain⟨z,_,rfl⟩:=hr';rw[abB]at hj;simp at hj
   |map kc vc l=>
    simp only[bH,mem_map]at hr';obtain⟨z,_,rfl⟩:=hr';simp only[eT,zZ,append_nil]at hj;simp at hj
  .intro j hj;have:=(V7 (ds:=VN g.fL g.iz (wh _ rr))).1 j hj;exact AI _ (all_eq_true.1 n5 j (yL g.fL _ j this))
 have flat:g.flat=true->nb (tu (g.outs rr)) (den (g.res rr)):=by
  intro hf;simp only[c7.flat,aL]at hf;have hc:(wh (gS (lj 0 g.fL)++cH g.iz) rr).map (·.c)=cQ g.fL++cH g.iz:=(X2 _ rr).trans (by rw[PE]);refine⟨(V7 (ds:=VN g.fL g.iz (wh _ rr))).2 ?_,?_⟩
  .refine(Cy (ol:=_) g.fL _ [] ?_ hf.1).1;rw[append_nil,map_take,hc,List.take_left]
  .intro q hq r' hr';simp only[tu,mem_map]at hq;obtain⟨p,hp,rfl⟩:=hq;exact s3 (by rw[map_drop,hc,List.drop_left]) hf.2 p hp r' hr'
 have cV:Vm (dK (ae++m.vr) (fq get)) (bO first++bO args++bO caps) ae m.vr bs:=by
  refine⟨hv,λj hj hn=>?_,λj hs' q o e1 e2 e3 z hz hn=>?_⟩
  .rw[<- iG,<- iG,ig]at hj;rcases rA j hj with ⟨q,hq⟩ |hj
   .exact absurd (dh (hi _ hq)) hn
   .exact hj
  .rcases rB j hs' q o e1 e2 e3 z hz with ⟨q',hq⟩ |hz
   .exact absurd (dh (hi _ hq)) hn
   .exact hz
 refine⟨.tB ae m.vr bs hs (tu (g.outs rr)) (den (g.res rr)) g.flat,ae++m.vr,_,_,_,
  ⟨gb (cn i ae) (den (g.res rr)),xT i ae (tu (g.outs rr))++(if g.flat then []else m.vr.map λk=>(k,none)),obs++mo++[yi P F (bO ds') (xs.map λp=>bH p.2) (tu (g.outs rr)) (den (g.res rr)),ZM ae.length (tu (g.outs rr)) (den (g.res rr)),Vm (dK (ae++m.vr) (fq get)) (bO first++bO args++bO caps) ae m.vr bs]++(if g.flat then [nb (tu (g.outs rr)) (den (g.res rr))]else [])⟩,?_,?_,(Aa _ _).symm,?_,?_,h⟩
 .simp only[den,j6,MC,qB,qA0,af];rw[aY ⟨hnd,by omega⟩]
 .refine qX _ (gT (gT (gT pA pB) ?_) ?_)
  .intro z hz;simp only[aN,fD,or_false]at hz;rcases hz with rfl |rfl |rfl
   .exact hcon
   .exact good
   .exact cV
  .intro z hz;cases hf:g.flat with
   |true=>rw[hf]at hz;simp only[if_true,aQ]at hz;subst hz;exact flat hf
   |false=>rw[hf]at hz;simp at hz
 .simp only[sD,ajj];congr 1;cases g.flat with
  |true=>rfl
  |false=>exact(Cu m.vr).symm
 .intro p hp;refine .inr ?_;rcases aZ.1 hp with hp |hp
  .exact List.mem_append_left _ (mem_append_right _ (mem_map.2 ⟨p,hp,rfl⟩))
  .cases hf:g.flat with
   |true=>rw[hf]at hp;simp at hp
   |false=>
    rw[hf]at hp;simp only[Bool.false_eq_true,if_false,mem_map]at hp;obtain⟨z,hz,rfl⟩:=hp;exact mem_append_right _ hz
end
section
variable {X:SX} {A:Type}
def V8:RT X.ι->Bool
 | .d c=>xu c
 | .fresh e=>xu e
 | .whole _=>true
 | .mu c=>xu c
 | .mr c=>xu c
 | .mv=>true
theorem adG{c:CT X.ι}(h:xu c=true)(x:CT.T X.toSE c):(CT.tv X.toSE c x).flat:=by
 cases c
 case st i=>exact uZ h x
 all_goals first |exact trivial |cases h
theorem V9{ns:U Nat}{q:RT X.ι}{x:RT.T X q}(h:V8 q=true):∀c∈VO ns q x,c.flat:=by
 intro c hc;cases q<;>simp only[VO,aQ,fD]at hc
 case d c=>subst hc;exact adG h x
 case fresh e=>
  subst hc;intro row hr;obtain⟨y,_,rfl⟩:=mem_map.1 hr;exact uZ h y
 case whole j=>subst hc;exact trivial
theorem Ry{ns:U Nat}:∀{l:U (RT X.ι)}{x:sU X l},l.all V8=true->∀c∈A9 ns l x,c.flat
 |[],x,_,c,hc=>by simp[A9]at hc
 |[q],x,h,c,hc=>V9 (by simpa using h) c hc
 |q::q'::l,x,h,c,hc=>by
  simp only[all_cons,aL]at h;simp only[A9,aZ]at hc;rcases hc with hc |hc
  .exact V9 h.1 c hc
  .exact Ry (by simp only[all_cons,aL];exact h.2) c hc
theorem Wh{l:U (RT X.ι)}(x:sU X l)(h:l.all V8=true):(tC l x).flat:=by
 have:=Ry (ns:=xv l x) (x:=x) h;unfold tC;split
 .rename_i c hc;exact this c (by rw[hc];simp)
 .exact this
theorem aae{q:RT X.ι}{x:RT.T X q}(h:V8 q=true):U8 (qh q x):=by
 intro p hp;cases q<;>simp only[qh,aQ,fD,aA,reduceCtorEq]at hp
 case mu c=>
  subst hp;intro r hr;obtain⟨y,_,rfl⟩:=mem_map.1 hr;exact uZ h y
 case mr c=>
  subst hp;intro r hr;obtain⟨y,_,rfl⟩:=mem_map.1 hr;exact uZ h y
theorem aaf:∀{l:U (RT X.ι)}{x:sU X l},l.all V8=true->U8 (nS l x)
 |[],x,_=>λp hp=>by simp[nS]at hp
 |[q],x,h=>aae (q:=q) (by simpa using h)
 |q::q'::l,x,h=>by
  simp only[all_cons,aL]at h;intro p hp;rcases aZ.1 (show some p∈qh q x.1++nS (q'::l) x.2 from hp)with hp |hp
  .exact aae h.1 p hp
  .exact aaf (l:=q'::l) (by simp only[all_cons,aL];exact h.2) p hp
def Hr(i:Nat)(ae ns:U Nat):(q:RT X.ι)->RT.T X q->U (DV X)×List (Nat×Option (bm X))
 | .d c,x=>([.c c x],[])
 | .fresh e,l=>([.own (cJ i) 0 l.length],[(cJ i,some (.ea e l))])
 | .whole j,_=>([match ae[j]? with |some k=> .own k 0 (ns.getD j 0) |none=> .undef],[])
 |_,_=>([],[])
def KF(i:Nat)(ae ns:U Nat):(l:U (RT X.ι))->sU X l->J (List (DV X)×List (Nat×Option (bm X)))
 |[],_=>some ([],[])
 |[q],x=>some (Hr i ae ns q x)
 |q::q'::l,x=>(KF i ae ns (q'::l) x.2).bind λp=>if (Hr i ae ns q x.1).2.isEmpty || p.2.isEmpty then some ((Hr i ae ns q x.1).1++p.1,(Hr i ae ns q x.1).2++p.2)else none
def apm:U (DV X)->DV X
 |[d]=>d
 |ds=> .eE ds
def Fl(i:Nat)(ae:U Nat)(l:U (RT X.ι))(x:sU X l):J (DV X×List (Nat×Option (bm X))):=
 (KF i ae (xv l x) l x).bind λp=>some (apm p.1,p.2)
theorem abE(u:U (Nat×Option (bm X))):(iE u).isEmpty=u.isEmpty:=by cases u<;>rfl
theorem aag(i:Nat)(ae ns:U Nat)(q:RT X.ι)(x:RT.T X q):(∃ c,VO ns q x=[c]/\∃d,(Hr i ae ns q x).1=[d]/\JV i ae c=(den d,iE (Hr i ae ns q x).2))\/(VO ns q x=[]/\Hr i ae ns q x=([],[])):=by
 cases q
 case d c=>exact .inl ⟨_,rfl,_,rfl,rfl⟩
 case fresh e=>exact .inl ⟨_,rfl,_,rfl,by simp[JV,Hr,den,iE,bH,aI]⟩
 case whole j=>
  refine .inl ⟨_,rfl,_,rfl,?_⟩;simp only[JV,iE,Hr,map_nil,Prod.mk.injEq,and_true];cases ae[j]?<;>rfl
 all_goals exact .inr ⟨rfl,rfl⟩
theorem adH(i:Nat)(ae:U Nat)(c:RC):Mq i ae [c]=some ([(JV i ae c).1],(JV i ae c).2):=by simp[Mq]
theorem aah(i:Nat)(ae ns:U Nat):∀(l:U (RT X.ι))(x:sU X l)(p:U (DV X)×List (Nat×Option (bm X))),KF i ae ns l x=some p->Mq i ae (A9 ns l x)=some (bO p.1,iE p.2)
 |[],_,p,h=>by simp only[KF,aA]at h;subst h;rfl
 |[q],x,p,h=>by
  simp only[KF,aA]at h;subst h;simp only[A9];rcases aag i ae ns q x with ⟨c,h1,d,h2,h3⟩ |⟨h1,h2⟩
  .rw[h1,adH,h2,h3];simp[bO]
  .rw[h1,h2];rfl
 |q::q'::l,x,p,h=>by
  simp only[KF]at h;rw[ai]at h;obtain⟨p',h1,h⟩:=h;have ih:=aah i ae ns (q'::l) x.2 p' h1;split at h
  .rename_i hc;cases h;simp only[A9];rcases aag i ae ns q x.1 with ⟨c,h1,d,h2,h3⟩ |⟨h1,h2⟩
   .rw[h1];simp only[List.singleton_append,Mq,ih,af,h3,abE];rw[aY hc,h2];simp[bO,iE]
   .rw[h1,h2];simp only[bQ];exact ih
  .cases h
theorem adI{i:Nat}{ae:U Nat}{l:U (RT X.ι)}{x:sU X l}{p:DV X×List (Nat×Option (bm X))}(h:Fl i ae l x=some p):imp i ae (tC l x)=some (den p.1,iE p.2):=by
 unfold Fl at h;rw[ai]at h;obtain⟨p',h1,h⟩:=h;cases h;have ih:=aah i ae _ l x p' h1;unfold tC;split
 .rename_i c hc;rw[hc,adH]at ih;simp only[aA,Prod.mk.injEq]at ih;obtain⟨ds,u⟩:=p'
  match ds,ih with
  |[d],ih=>
   simp only[bO,List.cons.injEq,and_true]at ih;simp only[imp,apm,<- ih.1,<- ih.2]
  |[],ih=>simp[bO]at ih
  |_::_::_,ih=>simp[bO]at ih
 .rename_i hne;simp only[imp,ih,af];obtain⟨ds,u⟩:=p'
  match ds,ih with
  |[],_=>rfl
  |_::_::_,_=>rfl
  |[d],ih=>
   exfalso;generalize hcs:A9 (xv l x) l x=cs at ih hne
   match cs,ih,hne with
   |[],ih,_=>simp[Mq,bO]at ih
   |[c],_,hne=>exact hne c rfl
   |c::c'::cs,ih,_=>
    simp only[Mq]at ih;cases h3:Mq i ae cs with
    |none=>rw[h3]at ih;simp at ih
    |some q=>
     rw[h3]at ih;simp only[af]at ih;split at ih
     .simp only[af]at ih;split at ih
      .simp[bO]at ih
      .cases ih
     .simp at ih
def Mu:(q:RT X.ι)->RT.T X q->U (Option (bm X))
 | .mu c,x=>[some (.ea c x)]
 | .mr c,x=>[some (.cells (CT.sz X c) [uY c x])]
 | .mv,_=>[none]
 |_,_=>[]
def Wi:(l:U (RT X.ι))->sU X l->U (Option (bm X))
 |[],_=>[]
 |[q],x=>Mu q x
 |q::q'::l,x=>Mu q x.1++Wi (q'::l) x.2
def Ht:U Nat->U (Option (bm X))->U (Nat×Option (bm X))
 |k::ae,p::os=>(k,p)::Ht ae os
 |_,_=>[]
theorem adJ(q:RT X.ι)(x:RT.T X q):(Mu q x).map (·.map bH)=(qh q x).map (·.map gO):=by
 cases q<;>try rfl
 case mr c=>simp only[Mu,qh,aF,map_nil,Option.map_some,bH,gO,rO,aI,oO]
theorem PN:∀(l:U (RT X.ι))(x:sU X l),(Wi l x).map (·.map bH)=(nS l x).map (·.map gO)
 |[],_=>rfl
 |[q],x=>adJ q x
 |q::q'::l,x=>by simp only[Wi,nS,map_append,adJ,PN (q'::l) x.2]
theorem aai:∀(ae:U Nat)(os:U (Option (bm X)))(os':U (Option eZ)),os.map (·.map bH)=os'.map (·.map gO)->iE (Ht ae os)=AQ ae os'
 |[],_,_,_=>by simp[Ht,AQ,iE]
 |_::_,[],[],_=>rfl
 |k::ae,p::os,p'::os',h=>by
  simp only[aF,List.cons.injEq]at h;have:=aai ae os os' h.2;simp only[iE]at this;simp only[Ht,AQ,iE,aF,h.1,this]
 |_::_,[],_::_,h=>by simp at h
 |_::_,_::_,[],h=>by simp at h
theorem K4:∀{ae:U Nat}{os:U (Option (bm X))}{p:Nat×Option (bm X)},p∈Ht ae os->p.1∈ae
 |[],_,_,h=>by simp[Ht]at h
 |_::_,[],_,h=>by simp[Ht]at h
 |k::ae,q::os,p,h=>by
  simp only[Ht,aN]at h;rcases h with rfl |h
  .simp
  .exact eG _ (K4 h)
def abF(get:Nat->J (bm X))(d:DV X)(c:CT X.ι):J (List (CT.T X.toSE c)×Nat×List Bool):=
 match d with
 | .own k 0 len=>(get k).bind λo=>match o with
  | .ea b l=>(jB (.sl b) (.sl c) l).bind λ(l:List (CT.T X.toSE c))=>some (l,k,[az len (List.length l)])
  |_=>none
 |_=>none
def Wj(get:Nat->J (bm X))(d:DV X)(c:CT X.ι):J (CT.T X.toSE c×Nat):=
 match d with
 | .ptr k 0 0=>(get k).bind λo=>match o with
  | .cells sz [row]=>if sz=CT.sz X c then(He c row).bind λx=>some (x,k)else none
  |_=>none
 |_=>none
def oP(Γ:FuncId->J (b7 X))(get:Nat->J (bm X)):U (DV X)->(l:U (AT X.ι))->J (iM X l×List Nat×List Bool)
 |[],[]=>some ((),[],[])
 |d::ds,.mut c::l=>(abF get d c).bind λx=>(oP Γ get ds l).bind λh=>some ((x.1,h.1),x.2.1::h.2.1,x.2.2++h.2.2)
 |d::ds,.iS c::l=>(Wj get d c).bind λx=>(oP Γ get ds l).bind λh=>some ((x.1,h.1),x.2::h.2.1,h.2.2)
 |d::ds,.d c::l=>(Rv Γ get 3 [d] [.d c]).bind λx=>(oP Γ get ds l).bind λh=>some ((x.1.1,h.1),h.2.1,x.2++h.2.2)
 |d::ds,.ref c::l=>(Rv Γ get 3 [d] [.ref c]).bind λx=>(oP Γ get ds l).bind λh=>some ((x.1.1,h.1),h.2.1,x.2++h.2.2)
 |d::ds,.d8 as r::l=>(Rv Γ get 3 [d] [.d8 as r]).bind λx=>(oP Γ get ds l).bind λh=>some ((x.1.1,h.1),h.2.1,x.2++h.2.2)
 |d::ds,.nil::l=>match d with
  | .nil=>(oP Γ get ds l).bind λh=>some (((),h.1),h.2.1,h.2.2)
  |_=>none
 |_,_=>none
def Jw:U (DV X)->U (AT X.ι)->U Nat
 |d::ds,a::l=>(if a.im then []else bk d)++Jw ds l
 |_,_=>[]
def PO(get:Nat->J (bm X)):U (DV X)->(l:U (CT X.ι))->J (HL X.toSE l×List Bool)
 |[],[]=>some ((),[])
 |d::ds,c::l=>(Fq get d c).bind λx=>(PO get ds l).bind λh=>some ((x.1,h.1),x.2++h.2)
 |_,_=>none
variable (Γ:FuncId->Option (b7 X))
def W8(i:Nat)(f:DV X)(args:U (DV X))(get:Nat->J (bm X))(k:KK X A):J A:=
 match f with
 | .fn F first caps=>(Γ F).bind λs=>match s.gen.filter λg=>(sm get g.pC (first++args++caps) ⟨[],[],[],[]⟩).isSome with
  |some g=>Ys g i (first++args++caps) get k
  |none=>if (s.args.all (λ q=>q.pl)&&s.res.all (λ q=>!q.out))=true then(Rv Γ get 3 (first++args++caps) s.args).bind λa=>Vz a.2 ((s.fn a.1).bind λx=>(Fl i [] s.res x).bind λp=>
   if s.res.all V8 then k p.1 p.2 (aP (first++args++caps)) []
   else k p.1 (p.2++MV (aP (first++args++caps))) (aP (first++args++caps)) (aP (first++args++caps)))
  else(oP Γ get (first++args++caps) s.args).bind λa=>Vz a.2.2 ((s.fn a.1).bind λx=>(Fl i a.2.1 s.res x).bind λp=>
   if (decide a.2.1.Nodup&&(Jw (first++args++caps) s.args).all (λ j=>!a.2.1.contains j)&&decide ((Wi s.res x).length=a.2.1.length))=true then
    if s.res.all V8 then k p.1 (p.2++Ht a.2.1 (Wi s.res x)) (aP (first++args++caps)) a.2.1
    else k p.1 (p.2++(Ht a.2.1 (Wi s.res x)++MV ((aP (first++args++caps)).filter λj=>!a.2.1.contains j))) (aP (first++args++caps)) (a.2.1++(aP (first++args++caps)).filter λj=>!a.2.1.contains j)
   else none)
 | .d8 as q φ=>(PO get args as).bind λh=>Vz h.2 ((φ h.1).bind λy=>
  if xu q then k (.c q y) [] (aP args) []else k (.c q y) (MV (aP args)) (aP args) (aP args))
 |_=>none
def DB(fz:U Nat)(T:eb)(am:TypeId->J (CT X.ι))(i:Nat)(o:Op)(ρ:Operand->DV X)(get:Nat->J (bm X))(k:KK X A):J A:=
 match o with
 | .call { callee:= .value f,args:=args,argTypes:=_ }=>W8 Γ i (ρ f) (args.toList.map ρ) get k
 |o=>if apj o ρ then VV T am i o ρ get k else if apk o ρ || fz.contains i then VM T am i o ρ get k else if apl T o ρ then VC T am o ρ get k else LL T am i o ρ get k
variable {Γ}
theorem M4{P:Program}{get:Nat->J (bm X)}{rd:U Nat}:∀{ds:U (DV X)}{l:U (CT X.ι)}{h:HL X.toSE l×List Bool},PO get ds l=some h->(∀ b∈h.2,b=true)->(∀ j∈aP ds,j∈rd)->
 ∃hs obs,(∀ p∈obs,p)/\∀ag,mq P (dK rd (fq get)) (bO ds) (hs++ag)=some ((HL.mm X.toSE l h.1).map TV.av,ag,obs)
 |[],[],h,_,_,_=>⟨[],[],by simp,λag=>rfl⟩
 |d::ds,c::l,h,hr,hc,hrd=>by
  simp only[PO]at hr;have⟨x,h1,hr⟩:=ai.1 hr;have⟨g,h2,hr⟩:=ai.1 hr;cases hr;obtain⟨hs1,o1,p1,q1⟩:=z8 (P:=P) (rd:=rd) h1 (λ b hb=>hc b (by simp[hb])) (λ j hj=>hrd j (by simp[aP,hj]));obtain⟨hs2,o2,p2,q2⟩:=M4 (P:=P) (rd:=rd) h2 (λ b hb=>hc b (by simp[hb])) (λ j hj=>hrd j (by simp[aP,hj]));refine⟨hs1++hs2,o1++o2,gT p1 p2,λag=>?_⟩;simp only[bO,mq,aM,q1,af,q2];rfl
 |[],_::_,_,hr,_,_=>by simp[PO]at hr
 |_::_,[],_,hr,_,_=>by simp[PO]at hr
theorem Wl{i:Nat}{ae ns:U Nat}{q:RT X.ι}{x:RT.T X q}:∀p∈(Hr i ae ns q x).2,p.1=cJ i:=by cases q<;>simp[Hr]
theorem Wm{i:Nat}{ae ns:U Nat}:∀{l:U (RT X.ι)}{x:sU X l}{p:U (DV X)×List (Nat×Option (bm X))},KF i ae ns l x=some p->∀q∈p.2,q.1=cJ i
 |[],_,p,h=>by simp only[KF,aA]at h;subst h;simp
 |[q],x,p,h=>by simp only[KF,aA]at h;subst h;exact Wl
 |q::q'::l,x,p,h=>by
  simp only[KF]at h;have⟨p',h1,h⟩:=ai.1 h;split at h
  .cases h;intro z hz;rcases aZ.1 hz with hz |hz
   .exact Wl z hz
   .exact Wm h1 z hz
  .cases h
theorem aaj{i:Nat}{ae:U Nat}{l:U (RT X.ι)}{x:sU X l}{p:DV X×List (Nat×Option (bm X))}(h:Fl i ae l x=some p):∀q∈p.2,q.1=cJ i:=by
 unfold Fl at h;have⟨p',h1,h⟩:=ai.1 h;cases h;exact Wm h1
theorem Hu{P:Program}{get:Nat->J aT}{x:AV}{hs ag:U LH}{y:AV}{o:U Prop}(h:mq P get [x] hs=some ([y],ag,o)):nQ P get x hs=some (y,ag,o):=by
 simp only[mq,af,append_nil,ai,aA,Prod.mk.injEq,List.cons.injEq,and_true]at h;obtain⟨q,h1,h2,h3,h4⟩:=h;rw[h1,<- h2,<- h3,<- h4]
theorem kY{d:DV X}{ds:U (DV X)}{a:AT X.ι}{l:U (AT X.ι)}{P:Nat->Prop}(h:∀j∈Jw (d::ds) (a::l),P j):(a.im=false->∀j∈bk d,P j)/\∀j∈Jw ds l,P j:=by
 simp only[Jw,aZ]at h;exact⟨λ e j hj=>h j (.inl (by rw[e];simpa using hj)),λj hj=>h j (.inr hj)⟩
theorem aoK{c:CT X.ι}{l:U (CT.T X.toSE c)}:dY ((aI (l.map (CT.row X.toSE c))).take (l.map (CT.row X.toSE c)).length)=aI (l.map (CT.row X.toSE c)):=by
 rw[List.take_of_length_le (by simp[aI])];simp only[dY,aI,map_map];exact map_congr_left λy _=>by
  simp only[Function.comp,map_map];exact map_congr_left λz _=>rfl
theorem YT{get:Nat->J (bm X)}{d:DV X}{c:CT X.ι}{x:U (CT.T X.toSE c)×Nat×List Bool}(h:abF get d c=some x)(hc:∀b∈x.2.2,b=true):
 d= .own x.2.1 0 (List.length x.1)/\∃o,get x.2.1=some o/\(bH o).sz=(rO c x.1).1/\dY ((bH o).rows.take (rO c x.1).2.length)=aI (rO c x.1).2:=by
 unfold abF at h;split at h
 .rename_i k len;rw[ai]at h;obtain⟨o,h1,h⟩:=h;split at h
  .rename_i b l;rw[ai]at h;obtain⟨l',h2,h⟩:=h;cases h;have⟨h3,h4⟩:=ji h2;have h5:len=List.length l':=(by simpa[az]using hc (az len (List.length l')) (by simp));refine⟨by rw[h5],.ea b l,h1,by simp only[bH,rO];exact h3,?_⟩;simp only[bH,rO,h4];exact aoK
  .cases h
 .cases h
theorem Wn{get:Nat->J (bm X)}{d:DV X}{c:CT X.ι}{x:CT.T X.toSE c×Nat}(h:Wj get d c=some x):
 d= .ptr x.2 0 0/\∃o,get x.2=some o/\(bH o).sz=(rO c [x.1]).1/\dY ((bH o).rows.take (rO c [x.1]).2.length)=aI (rO c [x.1]).2:=by
 unfold Wj at h;split at h
 .rename_i k;rw[ai]at h;obtain⟨o,h1,h⟩:=h;split at h
  .rename_i sz row;split at h
   .rename_i hsz;have⟨y,h2,h⟩:=ai.1 h;cases h;refine⟨rfl,_,h1,by simp only[bH,rO];exact hsz,?_⟩;simp only[bH,rO,aF,map_nil,List.length_singleton,List.take_succ_cons,List.take_zero,dY,aI];rw[yh h2]
   .cases h
  .cases h
 .cases h
theorem nC{P:Program}{Γ:FuncId->J (b7 X)}(hΓ:sL P Γ){get:Nat->J (bm X)}{rd ae:U Nat}:∀{n:Nat}{ds:U (DV X)}{l:U (AT X.ι)}{a:iM X l×List Nat×List Bool},oP Γ get ds l=some a->(∀ b∈a.2.2,b=true)->(∀ j∈aP ds,j∈rd)->(∀ j∈Jw ds l,j∉ae)->ae.drop n=a.2.1->
 (∃ hs obs,(∀ p∈obs,p)/\∀ag,lY P (dK rd (fq get)) ae (bO ds) (hs++ag)=some (dP n l a.1,ag,obs))/\∃mo,AP (dK rd (fq get)) a.2.1 (qg l a.1)=some mo/\∀p∈mo,p
 |n,[],[],a,h,_,_,_,_=>by
  simp only[oP,aA]at h;subst h;exact⟨⟨[],[],by simp,λag=>rfl⟩,[],rfl,by simp⟩
 |n,d::ds,.mut c::l,a,h,hc,hrd,hnr,hid=>by
  simp only[oP]at h;have⟨x,h1,h⟩:=ai.1 h;have⟨q,h2,h⟩:=ai.1 h;cases h;obtain⟨rfl,o,g1,g2,g3⟩:=YT h1 (λ b hb=>hc b (by simp[hb]));have BE:ae[n]? =some x.2.1:=by rw[<- List.head?_drop,hid];rfl
  have BT:ae.drop (n+1)=q.2.1:=by rw[<- List.tail_drop,hid];rfl
  obtain⟨⟨hs,obs,p1,p2⟩,mo,m1,m2⟩:=nC hΓ (n:=n+1) h2 (λ b hb=>hc b (by simp[hb])) (λ j hj=>hrd j (by simp[aP,hj])) (kY hnr).2 BT;refine⟨⟨.mut n::hs,obs,p1,λag=>?_⟩,((bH o).sz=(rO c x.1).1/\dY ((bH o).rows.take (rO c x.1).2.length)=aI (rO c x.1).2)::mo,?_,?_⟩
  .simp only[bO,den,lY,cons_append,oM,BE,if_true,af,p2,dP,bQ]
  .simp only[qg,AP,eD (hrd x.2.1 (by simp[aP,bk])) g1,af,m1]
  .intro p hp;rcases aN.1 hp with rfl |hp
   .exact⟨g2,g3⟩
   .exact m2 p hp
 |n,d::ds,.iS c::l,a,h,hc,hrd,hnr,hid=>by
  simp only[oP]at h;have⟨x,h1,h⟩:=ai.1 h;have⟨q,h2,h⟩:=ai.1 h;cases h;obtain⟨rfl,o,g1,g2,g3⟩:=Wn h1;have BE:ae[n]? =some x.2:=by rw[<- List.head?_drop,hid];rfl
  have BT:ae.drop (n+1)=q.2.1:=by rw[<- List.tail_drop,hid];rfl
  obtain⟨⟨hs,obs,p1,p2⟩,mo,m1,m2⟩:=nC hΓ (n:=n+1) h2 (λ b hb=>hc b (by simp[hb])) (λ j hj=>hrd j (by simp[aP,hj])) (kY hnr).2 BT;refine⟨⟨.mut n::hs,obs,p1,λag=>?_⟩,((bH o).sz=(rO c [x.1]).1/\dY ((bH o).rows.take (rO c [x.1]).2.length)=aI (rO c [x.1]).2)::mo,?_,?_⟩
  .simp only[bO,den,lY,cons_append,oM,BE,if_true,af,p2,dP,bQ]
  .simp only[qg,AP,eD (hrd x.2 (by simp[aP,bk])) g1,af,m1]
  .intro p hp;rcases aN.1 hp with rfl |hp
   .exact⟨g2,g3⟩
   .exact m2 p hp
 |n,d::ds,.d c::l,a,h,hc,hrd,hnr,hid=>by
  simp only[oP]at h;have⟨x,h1,h⟩:=ai.1 h;have⟨q,h2,h⟩:=ai.1 h;cases h;obtain⟨hs1,o1,p1,q1⟩:=sw (P:=P) hΓ 3 (n:=n) h1 (λ b hb=>hc b (by simp[hb])) (rd:=rd) (λ j hj=>hrd j (by simp only[aP,append_nil]at hj;simp[aP,hj]));obtain⟨⟨hs,obs,p2,q2⟩,mo,m1,m2⟩:=nC hΓ (n:=n) h2 (λ b hb=>hc b (by simp[hb])) (λ j hj=>hrd j (by simp[aP,hj])) (kY hnr).2 hid;refine⟨⟨YS (den d) hs1++hs,o1++obs,gT p1 p2,λag=>?_⟩,mo,m1,m2⟩;have:=yj (Hu (q1 (hs++ag))) (λ k hk=>(kY hnr).1 rfl k (by rwa [iT]at hk));rw[MZ]at this;simp only[bO,lY,aM,this,af,q2,dP]
 |n,d::ds,.ref c::l,a,h,hc,hrd,hnr,hid=>by
  simp only[oP]at h;have⟨x,h1,h⟩:=ai.1 h;have⟨q,h2,h⟩:=ai.1 h;cases h;obtain⟨hs1,o1,p1,q1⟩:=sw (P:=P) hΓ 3 (n:=n) h1 (λ b hb=>hc b (by simp[hb])) (rd:=rd) (λ j hj=>hrd j (by simp only[aP,append_nil]at hj;simp[aP,hj]));obtain⟨⟨hs,obs,p2,q2⟩,mo,m1,m2⟩:=nC hΓ (n:=n) h2 (λ b hb=>hc b (by simp[hb])) (λ j hj=>hrd j (by simp[aP,hj])) (kY hnr).2 hid;refine⟨⟨YS (den d) hs1++hs,o1++obs,gT p1 p2,λag=>?_⟩,mo,m1,m2⟩;have:=yj (Hu (q1 (hs++ag))) (λ k hk=>(kY hnr).1 rfl k (by rwa [iT]at hk));rw[MZ]at this;simp only[bO,lY,aM,this,af,q2,dP]
 |n,d::ds,.d8 as r::l,a,h,hc,hrd,hnr,hid=>by
  simp only[oP]at h;have⟨x,h1,h⟩:=ai.1 h;have⟨q,h2,h⟩:=ai.1 h;cases h;obtain⟨hs1,o1,p1,q1⟩:=sw (P:=P) hΓ 3 (n:=n) h1 (λ b hb=>hc b (by simp[hb])) (rd:=rd) (λ j hj=>hrd j (by simp only[aP,append_nil]at hj;simp[aP,hj]));obtain⟨⟨hs,obs,p2,q2⟩,mo,m1,m2⟩:=nC hΓ (n:=n) h2 (λ b hb=>hc b (by simp[hb])) (λ j hj=>hrd j (by simp[aP,hj])) (kY hnr).2 hid;refine⟨⟨YS (den d) hs1++hs,o1++obs,gT p1 p2,λag=>?_⟩,mo,m1,m2⟩;have:=yj (Hu (q1 (hs++ag))) (λ k hk=>(kY hnr).1 rfl k (by rwa [iT]at hk));rw[MZ]at this;simp only[bO,lY,aM,this,af,q2,dP]
 |n,d::ds,.nil::l,a,h,hc,hrd,hnr,hid=>by
  simp only[oP]at h;split at h
  .have⟨q,h2,h⟩:=ai.1 h;cases h;obtain⟨⟨hs,obs,p2,q2⟩,mo,m1,m2⟩:=nC hΓ (n:=n) h2 hc (λ j hj=>hrd j (by simp[aP,hj])) (kY hnr).2 hid;refine⟨⟨.nil::hs,obs,p2,λag=>?_⟩,mo,m1,m2⟩;have:=yj (P:=P) (get':=dK rd (fq get)) (ae:=ae) (x:= .cW) (hs:= .nil::(hs++ag)) (p:=(.cW,hs++ag,[])) rfl (λ k hk=>by simp[refs]at hk);simp only[YS]at this;simp only[bO,den,lY,cons_append,this,af,q2,dP,bQ]
  .cases h
 |_,[],_::_,_,h,_,_,_,_=>by simp[oP]at h
 |_,_::_,[],_,h,_,_,_,_=>by simp[oP]at h
theorem adK{P:Program}(hΓ:sL P Γ){i:Nat}{f:DV X}{args:U (DV X)}{get:Nat->J (bm X)}{k:KK X A}{r:A}(h:W8 Γ i f args get k=some r):
 ∃cx rd wr dv upd ab,j6 P i (den f) (bO args) cx (dK rd (fq get))=some ab/\jw ab.obs/\ab.v=den dv/\ab.upd=iE upd/\(∀ p∈upd,p.1=cJ i\/p.1∈wr)/\k dv upd rd wr=some r:=by
 unfold W8 at h;split at h
 .rename_i F first caps
  rw[ai]at h;obtain⟨s,h1,h⟩:=h;split at h
  .rename_i g hgen;exact abD ((hΓ F s h1).2.2 g (Option.filter_eq_some_iff.1 hgen).1) h
  split at h
  .rename_i hpure;rw[ai]at h;obtain⟨⟨a,cs⟩,h2,h⟩:=h;have⟨hcs,h⟩:=pJ h;rw[ai]at h;obtain⟨x,h3,h⟩:=h;rw[ai]at h;obtain⟨p,h4,h⟩:=h;have hf0:=(hΓ F s h1).2.1 a x h3;simp only[aL]at hpure;rw[wu (apg hpure.1),adt hpure.2]at hf0;have hf:=ML hf0;have hi:=adI h4;have hk:=aaj h4;obtain⟨hs,obs,g1,g2⟩:=sw (P:=P) hΓ 3 h2 hcs (rd:=aP (first++args++caps)) (λ j hj=>hj);have g3:=g2 [];rw[append_nil,iG,iG]at g3;have hrefs:eT (bO first++bO args++bO caps)=aP (first++args++caps):=(by rw[<- iG,<- iG,ig]);split at h
   .rename_i hfl;refine⟨.call hs (tC s.res x) true,_,[],p.1,p.2,⟨den p.1,iE p.2,obs++[rh P F (wo s.args a) (tC s.res x),(tC s.res x).flat]⟩,?_,?_,rfl,rfl,λq hq=> .inl (hk q hq),h⟩
    .simp only[den,j6,oN,xA,hi,af,g3];rfl
    .exact qX _ (gT g1 (by
      intro q hq;simp only[aN,fD,or_false]at hq;rcases hq with rfl |rfl
      .exact hf
      .exact Wh x hfl))
   .refine⟨.call hs (tC s.res x) false,_,_,p.1,_,⟨den p.1,iE p.2++(aP (first++args++caps)).map (λ k=>(k,none)),obs++[rh P F (wo s.args a) (tC s.res x)]⟩,?_,?_,rfl,?_,?_,h⟩
    .simp only[den,j6,oN,xA,hi,af,g3,hrefs];rfl
    .exact qX _ (gT g1 (by
      intro q hq;simp only[aQ]at hq;subst hq;exact hf))
    .simp only[sD,Cu]
    .intro q hq;rcases aZ.1 hq with hq |hq
     .exact .inl (hk q hq)
     .exact .inr (Ju hq)
  .rename_i hpure;rw[ai]at h;obtain⟨⟨a,ae,cs⟩,h2,h⟩:=h;have⟨hcs,h⟩:=pJ h;rw[ai]at h;obtain⟨x,h3,h⟩:=h;rw[ai]at h;obtain⟨p,h4,h⟩:=h;split at h
   .rename_i hc;simp only[aL,aV]at hc;obtain⟨⟨hnd,hnr⟩,hlen⟩:=hc;have hf:=(hΓ F s h1).2.1 a x h3;have hi:=adI h4;have hk:=aaj h4;obtain⟨⟨hs,obs,g1,g2⟩,mo,m1,m2⟩:=nC (P:=P) hΓ (rd:=aP (first++args++caps)) (ae:=ae) (n:=0) h2 hcs (λ j hj=>hj) (λ j hj=>by simpa using all_eq_true.1 hnr j hj) rfl;have g3:=g2 [];rw[append_nil,iG,iG]at g3;have hrefs:eT (bO first++bO args++bO caps)=aP (first++args++caps):=(by rw[<- iG,<- iG,ig]);have hlen':(nS s.res x).length=ae.length:=by
     rw[<- hlen];simpa using (congrArg List.length (PN s.res x)).symm
    have hout:iE (Ht ae (Wi s.res x))=AQ ae (nS s.res x):=aai _ _ _ (PN s.res x);split at h
    .rename_i hfl;refine⟨.tA ae (qg s.args a) (nS s.res x) hs (tC s.res x) true,_,ae,p.1,_,⟨den p.1,iE p.2++AQ ae (nS s.res x),obs++mo++[qr P F (wo s.args a) (qg s.args a) (nS s.res x) (tC s.res x),(tC s.res x).flat,U8 (nS s.res x)]⟩,?_,?_,rfl,?_,?_,h⟩
     .simp only[den,j6,oN,GX,hi,af,m1,g3];rw[aY ⟨hnd,hlen'⟩];rfl
     .refine qX _ (gT (gT g1 m2) ?_);intro q hq;simp only[aN,fD,or_false]at hq;rcases hq with rfl |rfl |rfl
      .exact hf
      .exact Wh x hfl
      .exact aaf hfl
     .simp only[sD,hout]
     .intro q hq;rcases aZ.1 hq with hq |hq
      .exact .inl (hk q hq)
      .exact .inr (K4 hq)
    .refine⟨.tA ae (qg s.args a) (nS s.res x) hs (tC s.res x) false,_,_,p.1,_,⟨den p.1,iE p.2++(AQ ae (nS s.res x)++((aP (first++args++caps)).filter λj=>!ae.contains j).map (λ k=>(k,none))),obs++mo++[qr P F (wo s.args a) (qg s.args a) (nS s.res x) (tC s.res x)]⟩,?_,?_,rfl,?_,?_,h⟩
     .simp only[den,j6,oN,GX,hi,af,m1,g3,GV,hrefs];rw[aY ⟨hnd,hlen'⟩];rfl
     .refine qX _ (gT (gT g1 m2) ?_);intro q hq;simp only[aQ]at hq;subst hq;exact hf
     .simp only[sD,hout,Cu]
     .intro q hq;rcases aZ.1 hq with hq |hq
      .exact .inl (hk q hq)
      .rcases aZ.1 hq with hq |hq
       .exact .inr (List.mem_append_left _ (K4 hq))
       .exact .inr (mem_append_right _ (Ju hq))
   .cases h
 .rename_i as q φ;rw[ai]at h;obtain⟨⟨hh,cs⟩,h1,h⟩:=h;have⟨hcs,h⟩:=pJ h;rw[ai]at h;obtain⟨y,h2,h⟩:=h;obtain⟨hs,obs,g1,g2⟩:=M4 (P:=P) h1 hcs (rd:=aP args) (λ j hj=>hj);have g3:=g2 [];rw[append_nil]at g3;have hφ:∃h' x',φ h'=some x'/\HL.mm X.toSE as hh=HL.mm X.toSE as h'/\CT.tv X.toSE q y=CT.tv X.toSE q x':=⟨hh,y,h2,rfl,rfl⟩;split at h
  .rename_i hfl;refine⟨.De hs (HL.mm X.toSE as hh) (CT.tv X.toSE q y) true,_,[],.c q y,[],⟨(CT.tv X.toSE q y).av,[],obs++[(HL.mm X.toSE as hh).map TV.av=(HL.mm X.toSE as hh).map TV.av,(∃ h' x',φ h'=some x'/\HL.mm X.toSE as hh=HL.mm X.toSE as h'/\CT.tv X.toSE q y=CT.tv X.toSE q x'),(CT.tv X.toSE q y).flat]⟩,?_,?_,rfl,rfl,by simp,h⟩
   .simp only[den,j6,oN,xA,g3,af];rfl
   .exact qX _ (gT g1 (by
     intro z hz;simp only[aN,fD,or_false]at hz;rcases hz with rfl |rfl |rfl
     .trivial
     .exact hφ
     .exact adG hfl y))
  .refine⟨.De hs (HL.mm X.toSE as hh) (CT.tv X.toSE q y) false,_,_,.c q y,_,⟨(CT.tv X.toSE q y).av,(aP args).map (λ k=>(k,none)),obs++[(HL.mm X.toSE as hh).map TV.av=(HL.mm X.toSE as hh).map TV.av,(∃ h' x',φ h'=some x'/\HL.mm X.toSE as hh=HL.mm X.toSE as h'/\CT.tv X.toSE q y=CT.tv X.toSE q x')]⟩,?_,?_,rfl,(Cu _).symm,λz hz=> .inr (Ju hz),h⟩
   .simp only[den,j6,oN,xA,g3,af,ig];rfl
   .exact qX _ (gT g1 (by
     intro z hz;simp only[aN,fD,or_false]at hz;rcases hz with rfl |rfl
     .trivial
     .exact hφ))
 .cases h
theorem agn{P:Program}(hΓ:sL P Γ){fz:U Nat}{T:eb}{am:TypeId->J (CT X.ι)}{i:Nat}{o:Oper}{ρ:Operand->DV X}{get:Nat->J (bm X)}{k:KK X A}{r:A}(h:DB Γ fz T am i o.op ρ get k=some r):d7 P T i o ρ get k r:=by
 obtain⟨dst,op,ty,ao,after,guard⟩:=o;unfold DB at h;simp only at h;split at h
 .rename_i f args cR;have:=adK hΓ h;simp only[<- Ut]at this;obtain⟨cx,rd,wr,dv,upd,ab,g1,g2⟩:=this;exact .call g1 g2
 .split at h
  .exact agf (o:=⟨dst,op,ty,ao,after,guard⟩) h
  .split at h
   .exact agh (o:=⟨dst,op,ty,ao,after,guard⟩) h
   .split at h
    .exact agi (o:=⟨dst,op,ty,ao,after,guard⟩) h
    .rename_i hne _ _ _;have⟨cx,rd,wr,dv,upd,ab,g1,g2⟩:=ZY (o:=⟨dst,op,ty,ao,after,guard⟩) h;exact d7.op (λ f args cR e=>hne f args cR e) g1 g2
end
def li(x y:AV):Prop:=∀P β w I v,VR P β w I x v->VR P β w I y v
theorem li.refl(x:AV):li x x:=λ_ _ _ _ _ h=>h
theorem li.undef(x:AV):li x .undef:=λ_ _ _ _ _ _=>by simp[VR]
theorem li.wk(x:AV):li x (wk x):=λ_ _ _ _ _ h=>h.wk
section
variable {P:Program} {w0:World} {O0:j9} {N:Nat} {β:Nat->Option cL} {I:Nat->Prop} {a:Act} {w:World} {f g:Nat->Nat} {D:Nat->Prop}
mutual
theorem VR.rn(hgf:∀k,D k->g (f k)=k):∀(x:AV)(v:Value),(∀ k∈refs x,D k)->VR P β w I x v->VR P (λ j=>β (g j)) w I (gb f x) v
 | .own k aa len,v,hd,h=>by simp only[gb,VR,hgf k (hd k (by simp[refs]))]at h ⊢;exact h
 | .ptr k row aa,v,hd,h=>by simp only[gb,VR,hgf k (hd k (by simp[refs]))]at h ⊢;exact h
 | .agg cs,v,hd,h=>by
  simp only[gb,VR]at h ⊢;obtain⟨vs,h1,h2⟩:=h;exact⟨vs,h1,aE.rn hgf cs _ (by simpa[refs]using hd) h2⟩
 | .eE cs,v,hd,h=>by
  simp only[gb,VR]at h ⊢;obtain⟨vs,h1,h2⟩:=h;exact⟨vs,h1,aE.rn hgf cs _ (by simpa[refs]using hd) h2⟩
 | .fn F first caps,v,hd,h=>by
  simp only[gb,VR]at h ⊢;obtain⟨fs,cs,h1,h2,h3⟩:=h;exact⟨fs,cs,h1,aE.rn hgf first _ (λ k hk=>hd k (by simp[refs,hk])) h2,aE.rn hgf caps _ (λ k hk=>hd k (by simp[refs,hk])) h3⟩
 | .t x,v,_,h=>by simpa[gb,VR]using h
 | .er r o,v,_,h=>by simpa[gb,VR]using h
 | .d8 φ,v,_,h=>by simpa[gb,VR]using h
 | .mp k,v,hd,h=>by simp only[gb,VR,hgf k (hd k (by simp[refs]))]at h ⊢;exact h
 | .oz k len,v,hd,h=>by simp only[gb,VR,hgf k (hd k (by simp[refs]))]at h ⊢;exact h
 | .cW,v,_,h=>by simpa[gb,VR]using h
 | .ub,v,_,h=>by simpa[gb,VR]using h
 | .undef,v,_,h=>by simp[gb,VR]
theorem aE.rn(hgf:∀k,D k->g (f k)=k):∀(xs:List AV)(vs:List Value),(∀ k∈eT xs,D k)->aE P β w I xs vs->aE P (λ j=>β (g j)) w I (zG f xs) vs
 |[],[],_,_=>by simp[zG,aE]
 |x::xs,v::vs,hd,h=>by
  simp only[aE]at h;simp only[zG,aE];exact⟨VR.rn hgf x v (λ k hk=>hd k (by simp[eT,hk])) h.1,aE.rn hgf xs vs (λ k hk=>hd k (by simp[eT,hk])) h.2⟩
 |[],_::_,_,h=>by simp[aE]at h
 |_::_,[],_,h=>by simp[aE]at h
end
def mS(D:Nat->Prop)(f:Nat->Nat):U AV->U AV->Prop
 |[],[]=>True
 |x::xs,y::ys=>((∀ k∈refs x,D k)/\li (gb f x) y)/\mS D f xs ys
 |_,_=>False
def ij(D:Nat->Prop)(f:Nat->Nat):U (List AV)->U (List AV)->Prop
 |[],[]=>True
 |r::rs,q::qs=>mS D f r q/\ij D f rs qs
 |_,_=>False
theorem mS.length:∀{r q:U AV},mS D f r q->q.length=r.length
 |[],[],_=>rfl
 |_::xs,_::ys,h=>by simp[mS.length h.2]
 |[],_::_,h=>h.elim
 |_::_,[],h=>h.elim
theorem cX.re(hgf:∀k,D k->g (f k)=k):∀{r q:U AV}{c:Array Value}{aa:Nat},mS D f r q->cX P β w I r c aa->cX P (λ j=>β (g j)) w I q c aa
 |[],[],_,_,_,_=>trivial
 |x::xs,y::ys,c,aa,hr,⟨⟨v,h1,h2,h3⟩,h4⟩=>⟨⟨v,h1,hr.1.2 _ _ _ _ _ (VR.rn hgf x v hr.1.1 h2),h3⟩,cX.re hgf hr.2 h4⟩
 |[],_::_,_,_,h,_=>h.elim
 |_::_,[],_,_,h,_=>h.elim
theorem br.re(hgf:∀k,D k->g (f k)=k):∀{rs qs:U (List AV)}{c:Array Value}{aa sz:Nat},ij D f rs qs->br P β w I rs c aa sz->br P (λ j=>β (g j)) w I qs c aa sz
 |[],[],_,_,_,_,_=>trivial
 |r::rs,q::qs,c,aa,sz,hr,⟨h1,h2,h3⟩=>⟨by rw[hr.1.length];exact h1,cX.re hgf hr.1 h2,br.re hgf hr.2 h3⟩
 |[],_::_,_,_,_,h,_=>h.elim
 |_::_,[],_,_,_,h,_=>h.elim
theorem aE.re(hgf:∀k,D k->g (f k)=k):∀{r q:U AV}{vs:U Value},mS D f r q->aE P β w I r vs->aE P (λ j=>β (g j)) w I q vs
 |[],[],[],_,_=>by simp[aE]
 |x::xs,y::ys,v::vs,hr,h=>by
  simp only[aE]at h ⊢;exact⟨hr.1.2 _ _ _ _ _ (VR.rn hgf x v hr.1.1 h.1),aE.re hgf hr.2 h.2⟩
 |[],_::_,_,h,_=>h.elim
 |_::_,[],_,h,_=>h.elim
 |[],[],_::_,_,h=>by simp[aE]at h
 |_::_,_::_,[],_,h=>by simp[aE]at h
theorem cp.re(hgf:∀k,D k->g (f k)=k):∀{rs qs:U (List AV)}{es:U MapEntry},ij D f rs qs->cp P β w I rs es->cp P (λ j=>β (g j)) w I qs es
 |[],[],[],_,_=>trivial
 |r::rs,q::qs,_::es,hr,⟨h1,h2⟩=>⟨aE.re hgf hr.1 h1,cp.re hgf hr.2 h2⟩
 |[],_::_,_,h,_=>h.elim
 |_::_,[],_,h,_=>h.elim
 |[],[],_::_,_,h=>h.elim
 |_::_,_::_,[],_,h=>h.elim
theorem ij.length:∀{rs qs:U (List AV)},ij D f rs qs->qs.length=rs.length
 |[],[],_=>rfl
 |_::xs,_::ys,h=>by simp[ij.length h.2]
 |[],_::_,h=>h.elim
 |_::_,[],h=>h.elim
theorem Rel.re{s s':St}(hgf:∀k,D k->g (f k)=k)(hg:∀j,j<1000->g j=j)(hr:Rel P w0 O0 N β I s a w)(hok:∀t,s.ok t=none\/s'.env t= .undef)(hok':∀t,s'.ok t=none)
 (hE:∀t,s'.env t= .undef\/((∀ k∈refs (s.env t),D k)/\li (gb f (s.env t)) (s'.env t)))
 (hO:∀j o',s'.obj j=some o'->∃k o,s.obj k=some o/\D k/\f k=j/\o'.sz=o.sz/\ij D f o.rows o'.rows):Rel P w0 O0 N (λ j=>β (g j)) I s' a w:=by
 refine⟨hr.defers,hr.size,λt=>?_,?_⟩
 .have h1:=hr.env t;rw[hok' t];rcases hok t with hk |h
  rotate_left
  .rw[h];simp[eK,VR]
  rw[hk]at h1;rcases hE t with h |⟨h2,h3⟩
  .rw[h];simp[eK,VR]
  .exact h3 _ _ _ _ _ (VR.rn hgf _ _ h2 h1)
 .have hm:=hr.mem;constructor
  .intro j o' hj;obtain⟨k,o,h1,h2,rfl,h4,h5⟩:=hO j o' hj;have⟨B,hB,sB⟩:=hm.cE k o h1;refine⟨B,by simp only[hgf k h2];exact hB,?_⟩;cases B with
   |none=>
    simp only[OR]at sB ⊢;rw[sB]at h5;cases ho:o'.rows with
    |nil=>rfl
    |cons=>rw[ho]at h5;exact h5.elim
   | «at» b sz n=>
    obtain⟨g1,c,e,g2,g3,g4⟩:=sB;exact⟨by rw[g1,h4],c,e,g2,g3,br.re hgf h5 g4⟩
   |mp b=>
    obtain⟨es,cl,g1,gl,g2,g3⟩:=sB;have hl:=h5.length;exact⟨es,cl,g1,by omega,λe=>cp.re hgf h5 (g2 (by omega)),g3⟩
  .intro j j' o o' B B' b h1 h2 h3 h4 h5 h6;obtain⟨k,q,i1,i2,rfl,_⟩:=hO j o h1;obtain⟨k',q',i1',i2',rfl,_⟩:=hO j' o' h2;simp only[hgf k i2,hgf k' i2']at h3 h4;rw[hm.gz k k' q q' B B' b i1 i1' h3 h4 h5 h6]
  .intro j o B b h1 h2;obtain⟨k,q,i1,i2,rfl,_⟩:=hO j o h1;simp only[hgf k i2]at h2;exact hm.ownB k q B b i1 h2
  .exact hm.lt
  .exact hm.up
  .exact hm.keep
  .exact hm.le
  .exact hm.os
  .exact hm.tape
  .exact hm.output
  .intro j B hj;show β (g j)=some B;rw[hg j (O0.lt j B hj)];exact hm.anch j B hj
  .exact hm.vars
end
section
variable {X:SX}
theorem adL{D:Nat->Prop}(f:Nat->Nat):∀r:U (DV X),(∀ k∈aP r,D k)->mS D f (bO r) (bO (JY f r))
 |[],_=>trivial
 |x::xs,h=>⟨⟨λ k hk=>h k (by rw[iT]at hk;simp[aP,hk]),by rw[Aa];exact li.refl _⟩,adL f xs λk hk=>h k (by simp[aP,hk])⟩
theorem Jy{D:Nat->Prop}(f:Nat->Nat)(o:bm X)(h:∀k∈d6 o,D k):(bH (oT f o)).sz=(bH o).sz/\ij D f (bH o).rows (bH (oT f o)).rows:=by
 cases o with
 |cells sz rows=>
  refine⟨rfl,?_⟩;simp only[bH,oT,map_map];simp only[d6]at h
  induction rows with
  |nil=>trivial
  |cons r rs ih=>
   refine⟨adL f r λk hk=>h k (by simp[hk]),ih λk hk=>h k ?_⟩;simp only[aF,flatten_cons,aZ];exact .inr hk
 |ea c l=>
  refine⟨rfl,?_⟩;simp only[bH,oT];generalize l.map (CT.row X.toSE c)=rows;have hrow:∀r:U Tree,mS D f (r.map AV.t) (r.map AV.t):=by
   intro r
   induction r with
   |nil=>trivial
   |cons y ys ih=>exact⟨⟨by simp[refs],li.refl _⟩,ih⟩
  induction rows with
  |nil=>trivial
  |cons r rs ih=>exact⟨hrow r,ih⟩
 |map kc vc l=>
  refine⟨rfl,?_⟩;simp only[bH,oT];clear h
  induction l with
  |nil=>trivial
  |cons p ps ih=>exact⟨⟨⟨by simp[zZ],by rw[V6];exact li.refl _⟩,⟨by simp[zZ],by rw[V6];exact li.refl _⟩,trivial⟩,ih⟩
structure Low(s:df X):Prop where
 le:s.nx<=1000000
 ge:1000<=s.nx
 env:∀t,∀k∈bk (eQ s.env t),k<s.nx
 obj:∀k o,gE s.obj k=some o->k<s.nx/\∀j∈d6 o,j<s.nx
theorem Wo{o:bm X}{r:U AV}{x:AV}(hr:r∈(bH o).rows)(hx:x∈r):∀j∈refs x,j∈d6 o:=by
 intro j hj;cases o with
 |cells sz rows=>
  simp only[bH,mem_map]at hr;obtain⟨q,hq,rfl⟩:=hr;rw[nR,mem_map]at hx;obtain⟨d,hd,rfl⟩:=hx;simp only[d6,List.mem_flatten,mem_map];refine⟨_,⟨q,hq,rfl⟩,?_⟩;have:∀l:U (DV X),d∈l->j∈aP l:=by
   intro l
   induction l with
   |nil=>intro h;simp at h
   |cons y ys ih=>intro h;rcases aN.1 h with rfl |h
                  .simp only[aP,aZ];left;rwa [iT]at hj
                  .simp only[aP,aZ];exact .inr (ih h)
  exact this q hd
 |ea c l=>
  simp only[bH,aI,mem_map]at hr;obtain⟨q,_,rfl⟩:=hr;simp only[mem_map]at hx;obtain⟨t,_,rfl⟩:=hx;simp[refs]at hj
 |map kc vc l=>
  simp only[bH,mem_map]at hr;obtain⟨q,_,rfl⟩:=hr;simp only[aN,fD,or_false]at hx;rcases hx with rfl |rfl<;>simp[zZ]at hj
theorem Low.old{s:df X}(h:Low s):tE s.st:=by
 have hle:=h.le;constructor
 .intro t k hk;have:=h.env t k (by rw[<- iT];exact hk);omega
 .intro k o hk;simp only[df.st,dI]at hk;obtain⟨o',h1,rfl⟩:=hk;have⟨h2,h3⟩:=h.obj k o' h1;refine⟨by omega,λr hr x hx j hj=>?_⟩;have:=h3 j (Wo hr hx j hj);omega
end
section
variable {X:SX} {A:Type}
def pd(e b:U (Nat×DV X))(t:Nat):DV X:=match lk e t with |some x=>x |none=>eQ b t
def xa(o b:U (Nat×Option (bm X)))(k:Nat):J (bm X):=match lk o k with |some x=>x |none=>gE b k
def zJ(dst:J Tmp)(dv:DV X)(e:U (Nat×DV X)):U (Nat×DV X):=match dst with |some t=>(t,dv)::e |none=>e
def Wp:DV X->DV X
 | .skip=> .undef
 |x=>x
def KG(e:U (Nat×DV X)):Operand->Bool
 | .tmp t=>match lk e t with |some .skip=>false |_=>true
 |_=>true
def Rz(e b:U (Nat×DV X))(o:Op):Bool:=
 match o with
 | .pick c x y=>KG e c&&((KG e x&&KG e y) || match YM (pd e b) c with | .c .bool t=>bif t then KG e x else KG e y |_=>false)
 |o=>o.operands.toList.all (KG e)
abbrev D4:=List (Nat×List Nat×List Nat)
section
variable (Γ:FuncId->Option (b7 X)) (fz:List Nat) (T:eb) (am:TypeId->Option (CT X.ι)) (al:Array Oper) (b:df X)
def yN(k:U (Nat×DV X)->U (Nat×Option (bm X))->D4->J A):U Nat->U (Nat×DV X)->U (Nat×Option (bm X))->D4->J A
 |[],e,o,ot=>k e o ot
 |i::r,e,o,ot=>(al[i]?).bind λop=>match op.guard with
  |none=>bif Rz e b.env op.op then DB Γ fz T am i op.op (YM (pd e b.env)) (xa o b.obj) λdv upd rd wr=>yN k r (zJ op.dst (Wp dv) e) (upd++o) ((i,rd,wr)::ot)else none
  |some (j,p)=>((al[j]?).bind (·.dst)).bind λt=>match pd e b.env t with
   | .c .bool v=>
    bif v then(bif p then(bif Rz ((t,.c .bool true)::e) b.env op.op then DB Γ fz T am i op.op (YM (pd ((t,.c .bool true)::e) b.env)) (xa o b.obj) λdv upd rd wr=>yN k r (zJ op.dst (Wp dv) ((t,.c .bool true)::e)) (upd++o) ((i,rd,wr)::ot)else none)
     else yN k r (zJ op.dst .skip ((t,.c .bool true)::e)) o ((i,[],[])::ot))
    else(bif p then yN k r (zJ op.dst .skip ((t,.c .bool false)::e)) o ((i,[],[])::ot)
     else(bif Rz ((t,.c .bool false)::e) b.env op.op then DB Γ fz T am i op.op (YM (pd ((t,.c .bool false)::e) b.env)) (xa o b.obj) λdv upd rd wr=>yN k r (zJ op.dst (Wp dv) ((t,.c .bool false)::e)) (upd++o) ((i,rd,wr)::ot)else none))
   | .skip=>bif(lk e t).isSome then yN k r (zJ op.dst .skip e) o ((i,[],[])::ot)else none
   |_=>none
end
def iF(b:df X)(e:U (Nat×DV X))(o:U (Nat×Option (bm X))):St:=⟨λ t=>den (pd e b.env t),λk=>(xa o b.obj k).map bH,λt=>match lk e t with |some .skip=>some false |_=>none⟩
theorem ajl(x:DV X):den (Wp x)=den x:=by cases x<;>rfl
theorem ak5(b:df X)(e:U (Nat×DV X))(o:U (Nat×Option (bm X)))(dst:J Tmp)(dv:DV X)(upd:U (Nat×Option (bm X)))(obs:U Prop):
 (iF b e o).app dst (⟨den dv,iE upd,obs⟩,none)=iF b (zJ dst (Wp dv) e) (upd++o):=by
 simp only[iF,St.app,St.mk.injEq];refine⟨?_,?_,?_⟩
 .funext t;cases dst with
  |none=>simp[AU,zJ]
  |some d=>
   simp only[AU,zJ,pd,lk,aA];by_cases h:d=t<;>simp[h,ajl]
 .funext j
  induction upd with
  |nil=>rfl
  |cons p u ih=>
   obtain⟨q,x⟩:=p;simp only[iE,aF,cO,cons_append,xa,lk]at ih ⊢;by_cases h:j=q
   .simp[h]
   .rw[aR h,aR (Ne.symm h)];exact ih
 .funext t;cases dst with
  |none=>simp[AU,zJ]
  |some d=>
   simp only[AU,zJ,lk,aA];by_cases h:d=t
   .simp only[h,if_true];cases dv<;>rfl
   .simp only[aR h]
theorem ajm(b:df X)(e:U (Nat×DV X))(o:U (Nat×Option (bm X)))(dst:J Tmp):(iF b e o).app dst (⟨.undef,[],[]⟩,some false)=iF b (zJ dst .skip e) o:=by
 simp only[iF,St.app,St.mk.injEq];refine⟨?_,rfl,?_⟩
 .funext t;cases dst with
  |none=>simp[AU,zJ]
  |some d=>
   simp only[AU,zJ,pd,lk,aA];by_cases h:d=t<;>simp[h,den]
 .funext t;cases dst with
  |none=>simp[AU,zJ]
  |some d=>
   simp only[AU,zJ,lk,aA];by_cases h:d=t<;>simp[h]
theorem adM(b:df X)(e:U (Nat×DV X))(o:U (Nat×Option (bm X))):lp (iF b e o).env=λx=>den (YM (pd e b.env) x):=by funext x;exact(Vw _ x).symm
theorem Cz{b:df X}{e:U (Nat×DV X)}{o:U (Nat×Option (bm X))}{x:Operand}(h:KG e x=true):xq (iF b e o).ok x=[]:=by
 cases x with
 |tmp t=>
  simp only[KG]at h;simp only[xq,iF];cases ht:lk e t with
  |none=>rfl
  |some d=>rw[ht]at h;cases d<;>first |rfl |cases h
 |_=>rfl
theorem ajn{b:df X}{e:U (Nat×DV X)}{o:U (Nat×Option (bm X))}{P:Program}{T:eb}{i:Nat}{op:Oper}{cx:jj}{get:Nat->J aT}{ab:Out}(hok:Rz e b.env op.op=true)
 (h:jF P T i op cx (lp (iF b e o).env) get=some ab):∀p∈needs (iF b e o).env (iF b e o).ok op.op,p:=by
 obtain⟨dst,op,ty,ao,after,guard⟩:=op;unfold needs;split
 .rename_i c x y heq;simp only at heq;subst heq;simp only[Rz,aL,Bool.or_eq_true]at hok;obtain⟨hc,hxy⟩:=hok;have hb:∃t,lp (iF b e o).env c= .t (.sc (.bool t)):=by
   have h0:(∃ n,cx= .ext n)\/(∃ ae fr q,cx= .xn ae fr q)\/qc T i ⟨dst,.pick c x y,ty,ao,after,guard⟩ cx (lp (iF b e o).env) get=some ab:=(by cases cx<;>first |exact .inl ⟨_,rfl⟩ |exact .inr (.inl ⟨_,_,_,rfl⟩) |exact .inr (.inr h));rcases h0 with ⟨n,rfl⟩ |⟨ae,fr,q,rfl⟩ |h0
   .simp[jF,tq,J0,sZ]at h
   .simp[jF,GY,afN]at h
   .simp only[qc]at h0;split at h0
    .rename_i t ht;exact⟨t,ht⟩
    .cases h0
  obtain⟨t,ht⟩:=hb;rw[ht];simp only[Cz hc,bQ];rcases hxy with ⟨hx,hy⟩ |hxy
  .simp[Cz hx,Cz hy]
  .split at hxy
   .rename_i t' ht';have e1:lp (iF b e o).env c= .t (.sc (.bool t')):=(by rw[adM];simp only[ht'];rfl);rw[e1]at ht;injection ht with ht;injection ht with ht;injection ht with ht;subst ht;cases t' with
    |true=>
     simp only[aj]at hxy;simp[Cz hxy]
    |false=>
     simp only[ak]at hxy;simp[Cz hxy]
   .cases hxy
 .rename_i o' hne;intro p hp;have hall:∀x∈op.operands.toList,KG e x=true:=by
   have:Rz e b.env op=op.operands.toList.all (KG e):=(by cases op<;>first |rfl |exact(hne _ _ _ rfl).elim);rw[this]at hok;exact all_eq_true.1 hok
  simp only[List.mem_flatMap]at hp;obtain⟨x,hx,hp⟩:=hp;rw[Cz (hall x hx)]at hp;simp at hp
theorem ak6{a b:U Prop}(h:∀p∈a,p)(h':jw b):jw (a++b):=qX _ (gT h (MH b h'))
variable {Γ:FuncId->Option (b7 X)} {fz:List Nat} {T:eb} {am:TypeId->Option (CT X.ι)} {al:Array Oper} {b:df X} {P:Program}
theorem ajo(hΓ:sL P Γ){i:Nat}{op:Oper}{e:U (Nat×DV X)}{o:U (Nat×Option (bm X))}{k:KK X A}{r:A}(hop:al[i]? =some op)(hw:want al op (iF b e o).env (iF b e o).ok=some true)(hok:Rz e b.env op.op=true)
 (h:DB Γ fz T am i op.op (YM (pd e b.env)) (xa o b.obj) k=some r):
 ∃(a:mT)(dv:DV X)(upd:U (Nat×Option (bm X))),a.sym=false/\k dv upd a.rd a.wr=some r/\∀(c8:Nat->mT)(K:St->Prop),c8 i=a->K (iF b (zJ op.dst (Wp dv) e) (upd++o))->xt P T al c8 i K (iF b e o):=by
 have⟨cx,rd,wr,dv,upd,ab,h1,h2,h3,h4,h5,h6⟩:=agn hΓ h;refine⟨⟨cx,rd,wr,false⟩,dv,upd,rfl,h6,λc8 K ha hK=>?_⟩;have h1':jF P T i op cx (lp (iF b e o).env) (dK rd (iF b e o).obj)=some ab:=by rw[adM];exact h1
 refine⟨op,(⟨ab.v,ab.upd,needs (iF b e o).env (iF b e o).ok op.op++ab.obs⟩,none),hop,?_,?_,?_⟩
 .unfold opAt;simp only[hop,af,hw,ha,h1'];rw[aY];rw[all_eq_true];intro p hp;rw[h4]at hp;simp only[iE,mem_map]at hp;obtain⟨q,hq,rfl⟩:=hp;rcases h5 q hq with h |h
  .simp[h,Vk.2 (.inl rfl:io (cJ i) (cJ i))]
  .simp[h]
 .exact ak6 (ajn hok h1') h2
 .rw[h3,h4,ak5];exact hK
theorem step_skip{i:Nat}{op:Oper}{e:U (Nat×DV X)}{o:U (Nat×Option (bm X))}(hop:al[i]? =some op)(hw:want al op (iF b e o).env (iF b e o).ok=some false)
 (c8:Nat->mT) (K:St->Prop) (ha:c8 i=⟨.none,[],[],false⟩) (hK:K (iF b (zJ op.dst .skip e) o)):xt P T al c8 i K (iF b e o):=by
 refine⟨op,(⟨.undef,[],[]⟩,some false),hop,?_,trivial,?_⟩
 .unfold opAt;simp only[hop,af,hw,ha]
 .rw[ajm];exact hK
theorem agp{e:U (Nat×DV X)}{o:U (Nat×Option (bm X))}{t:Nat}{v:Bool}(h:pd e b.env t= .c .bool v):iF b ((t,.c .bool v)::e) o=iF b e o:=by
 simp only[iF,St.mk.injEq,true_and];refine⟨?_,?_⟩
 .funext s;by_cases hs:t=s
  .subst hs;rw[h];simp[pd,lk]
  .simp[pd,lk,hs]
 .funext s;by_cases hs:t=s
  .subst hs;simp only[lk,if_true];unfold pd at h;cases ht:lk e t with
   |none=>rfl
   |some d=>rw[ht]at h;simp only at h;subst h;rfl
  .simp[lk,hs]
def JZ(tr:U (Nat×mT)):D4:=tr.map λp=>(p.1,p.2.rd,p.2.wr)
def RA(al:Array Oper)(t:Nat):Prop:=∃(j:Nat)(op:Oper),al[j]? =some op/\op.dst=some t
theorem adN{dst:J Tmp}{dv:DV X}{e:U (Nat×DV X)}{p:Nat×DV X}(h:p∈zJ dst dv e):p∈e\/dst=some p.1:=by
 cases dst with
 |none=>exact .inl h
 |some t=>
  simp only[zJ,aN]at h;rcases h with rfl |h
  .exact .inr rfl
  .exact .inl h
theorem D5(hΓ:sL P Γ){k:U (Nat×DV X)->U (Nat×Option (bm X))->D4->J A}{r:A}:∀(l:U Nat)(e:U (Nat×DV X))(o:U (Nat×Option (bm X)))(ot:D4),yN Γ fz T am al b k l e o ot=some r->
 ∃(tr:U (Nat×mT))(e':U (Nat×DV X))(o':U (Nat×Option (bm X))),tr.map (·.1)=l/\k e' o' ((JZ tr).reverse++ot)=some r/\(∀ p∈e',p∈e\/RA al p.1)/\
  ∀c8:Nat->mT,(∀ p∈tr,c8 p.1=p.2)->Sl P T al c8 (λ σ=>σ=iF b e' o') l (iF b e o)
 |[],e,o,ot,h=>⟨[],e,o,rfl,h,λ_ hp=> .inl hp,λ_ _=>rfl⟩
 |i::l,e,o,ot,h=>by
  simp only[yN]at h;have⟨op,hop,h⟩:=ai.1 h
  have exec:∀e:U (Nat×DV X),want al op (iF b e o).env (iF b e o).ok=some true->
   (bif Rz e b.env op.op then DB Γ fz T am i op.op (YM (pd e b.env)) (xa o b.obj) λdv upd rd wr=>yN Γ fz T am al b k l (zJ op.dst (Wp dv) e) (upd++o) ((i,rd,wr)::ot)else none)=some r->
   ∃(tr:U (Nat×mT)) (e':U (Nat×DV X)) (o':U (Nat×Option (bm X))),tr.map (·.1)=i::l/\k e' o' ((JZ tr).reverse++ot)=some r/\(∀ p∈e',p∈e\/RA al p.1)/\
    ∀c8:Nat->mT,(∀ p∈tr,c8 p.1=p.2)->Sl P T al c8 (λ σ=>σ=iF b e' o') (i::l) (iF b e o):=by
   intro e hw h;have⟨hok,h⟩:=eu h;have⟨a,dv,upd,_,h1,h2⟩:=ajo hΓ hop hw hok h;obtain⟨tr,e',o',g1,g2,g4,g3⟩:=D5 hΓ l _ _ _ h1;refine⟨(i,a)::tr,e',o',by simp[g1],?_,λp hp=>(g4 p hp).elim (λ hp=>(adN hp).elim .inl λhd=> .inr ⟨i,op,hop,hd⟩) .inr,λc8 ha=>?_⟩
   .simpa[JZ]using g2
   .exact h2 c8 _ (ha (i,a) (by simp)) (g3 c8 λp hp=>ha p (by simp[hp]))
  have skip:∀e:U (Nat×DV X),want al op (iF b e o).env (iF b e o).ok=some false->yN Γ fz T am al b k l (zJ op.dst .skip e) o ((i,[],[])::ot)=some r->
   ∃(tr:U (Nat×mT)) (e':U (Nat×DV X)) (o':U (Nat×Option (bm X))),tr.map (·.1)=i::l/\k e' o' ((JZ tr).reverse++ot)=some r/\(∀ p∈e',p∈e\/RA al p.1)/\
    ∀c8:Nat->mT,(∀ p∈tr,c8 p.1=p.2)->Sl P T al c8 (λ σ=>σ=iF b e' o') (i::l) (iF b e o):=by
   intro e hw h;obtain⟨tr,e',o',g1,g2,g4,g3⟩:=D5 hΓ l _ _ _ h;refine⟨(i,⟨.none,[],[],false⟩)::tr,e',o',by simp[g1],?_,λp hp=>(g4 p hp).elim (λ hp=>(adN hp).elim .inl λhd=> .inr ⟨i,op,hop,hd⟩) .inr,λc8 ha=>?_⟩
   .simpa[JZ]using g2
   .exact step_skip hop hw c8 _ (ha (i,_) (by simp)) (g3 c8 λp hp=>ha p (by simp[hp]))
  split at h
  .rename_i hg;exact exec e (by simp[want,hg]) h
  .rename_i j p hg;rw[ai]at h;obtain⟨t,ht,h⟩:=h;split at h
   .rename_i v hv;have hw:∀e:U (Nat×DV X),pd e b.env t= .c .bool v->want al op (iF b e o).env (iF b e o).ok=some (v==p):=by
     intro e he;simp only[want,hg,ht];have h0:(iF b e o).ok t=none:=by
      simp only[iF];unfold pd at he;cases hq:lk e t with
      |none=>rfl
      |some d=>rw[hq]at he;simp only at he;subst he;rfl
     have h1:(iF b e o).env t= .t (.sc (.bool v)):=(by simp only[iF,he];rfl);rw[h0,h1]
    have hk:=agp (b:=b) (o:=o) hv;have hv':pd ((t,.c .bool v)::e) b.env t= .c .bool v:=(by simp[pd,lk]);have htd:RA al t:=by
     have⟨oj,h1,h2⟩:=ai.1 ht;exact⟨j,oj,h1,h2⟩
    have wide:(∃ (tr:U (Nat×mT)) (e':U (Nat×DV X)) (o':U (Nat×Option (bm X))),tr.map (·.1)=i::l/\k e' o' ((JZ tr).reverse++ot)=some r/\(∀ p∈e',p∈((t,.c .bool v)::e:U (Nat×DV X))\/RA al p.1)/\
     ∀c8:Nat->mT,(∀ p∈tr,c8 p.1=p.2)->Sl P T al c8 (λ σ=>σ=iF b e' o') (i::l) (iF b ((t,.c .bool v)::e) o))->
     ∃(tr:U (Nat×mT)) (e':U (Nat×DV X)) (o':U (Nat×Option (bm X))),tr.map (·.1)=i::l/\k e' o' ((JZ tr).reverse++ot)=some r/\(∀ p∈e',p∈e\/RA al p.1)/\
     ∀c8:Nat->mT,(∀ p∈tr,c8 p.1=p.2)->Sl P T al c8 (λ σ=>σ=iF b e' o') (i::l) (iF b e o):=by
     rintro⟨tr,e',o',g1,g2,g4,g3⟩;refine⟨tr,e',o',g1,g2,λq hq=>?_,hk ▸ g3⟩;rcases g4 q hq with h |h
     .rcases aN.1 h with rfl |h
      .exact .inr htd
      .exact .inl h
     .exact .inr h
    apply wide;cases v with
    |true=>
     simp only[aj]at h;cases p with
     |true=>exact exec _ (hw _ hv') h
     |false=>exact skip _ (hw _ hv') h
    |false=>
     simp only[ak]at h;cases p with
     |true=>exact skip _ (hw _ hv') h
     |false=>exact exec _ (hw _ hv') h
   .rename_i hv;have⟨hsome,h⟩:=eu h;refine skip e ?_ h;simp only[want,hg,ht];have h1:(iF b e o).env t= .undef:=(by simp only[iF,hv];rfl);cases hq:lk e t with
    |some d=>
     have h0:(iF b e o).ok t=some false:=by
      unfold pd at hv;rw[hq]at hv;simp only at hv;subst hv;simp only[iF,hq]
     rw[h0,h1]
    |none=>rw[hq]at hsome;cases hsome
   .cases h
end
section
variable {X:SX} {A:Type}
def fN(nx k:Nat):Nat:=if k<1000000 then k else nx+(k -1000000)
def gN(nx j:Nat):Nat:=if j<nx then j else 1000000+(j -nx)
def Ha(nx sz k:Nat):Bool:=decide (k<nx) || (decide (1000000<=k)&&decide (k<1000000+sz))
def okE(nx sz:Nat)(e:U (Nat×DV X)):Bool:=e.all λp=>(bk p.2).all (Ha nx sz)
def okO(nx sz:Nat)(o:U (Nat×Option (bm X))):Bool:=o.all λp=>Ha nx sz p.1&&match p.2 with |some x=>(d6 x).all (Ha nx sz) |none=>true
def Mp(ot:D4):Nat->mT:=λi=>match lk ot i with |some p=>⟨.none,p.1,p.2,false⟩ |none=>⟨.none,[],[],false⟩
def Fk(tr:U (Nat×mT)):Nat->mT:=λi=>match lk tr i with |some a=>a |none=>⟨.none,[],[],false⟩
def Kd:DV X->DV X
 | .skip=> .undef
 |x=>x
theorem ak8(x:DV X):den (Kd x)=den x:=by cases x<;>rfl
theorem aak(x:DV X):bk (Kd x)=bk x:=by cases x<;>rfl
def fin(s:df X)(e:U (Nat×DV X))(o:U (Nat×Option (bm X)))(sz:Nat):df X:=
 ⟨e.map (λ p=>(p.1,Kd (nw (fN s.nx) p.2)))++s.env,o.map (λ p=>(fN s.nx p.1,p.2.map (oT (fN s.nx))))++s.obj,s.nx+sz,o.map (λ p=>fN s.nx p.1)++s.log⟩
def ak9(N:Nat)(al:Array Oper)(d:Bool)(nx:Nat)(e:U (Nat×DV X))(o:U (Nat×Option (bm X)))(ot:D4):Bool:=
 OF N al&&(!d || N4 al (Mp ot))&&okE nx (64*al.size) e&&okO nx (64*al.size) o&&decide (nx+64*al.size<=1000000)
def X1(Γ:FuncId->J (b7 X))(fz:U Nat)(T:eb)(am:TypeId->J (CT X.ι))(N:Nat)(al:Array Oper)(d:Bool)(s:df X)(k:df X->J A):J A:=
 yN Γ fz T am al s (λ e o ot=>bif ak9 N al d s.nx e o ot then k (fin s e o (64*al.size))else none) (List.range al.size) [] [] []
theorem adO{al:Array Oper}{c8 ua:Nat->mT}(h:∀i,(c8 i).rd=(ua i).rd/\(c8 i).wr=(ua i).wr):N4 al c8=N4 al ua:=by
 have h1:xB c8=xB ua:=by
  funext i j;simp only[xB,(h i).1,(h i).2,(h j).1,(h j).2]
 have h2:∀md,Po md al c8=Po md al ua:=by
  intro md;funext listed i;simp only[Po,h1]
 have h3:∀(md:Region.Mode)(n k:Nat)(listed:Array Bool),lexFrom' md al c8 n k listed=lexFrom' md al ua n k listed:=by
  intro md n
  induction n with
  |zero=>intro k listed;rfl
  |succ n ih=>intro k listed;simp only[lexFrom',h2,ih]
 exact h3 _ _ _ _
theorem CB{α:Type}:∀(a b:U (Nat×α))(k:Nat),lk (a++b) k=match lk a k with |some x=>some x |none=>lk b k
 |[],_,_=>rfl
 |(j,x)::a,b,k=>by
  simp only[cons_append,lk];by_cases h:j=k
  .simp[h]
  .simp only[aR h,CB a b k]
theorem aie{α:Type}:∀{l:U (Nat×α)}{k:Nat},lk l k=none->∀x,(k,x)∉l
 |(j,y)::r,k,h,x=>by
  simp only[lk]at h;split at h
  .cases h
  .rename_i hn;simp only[aN,Prod.mk.injEq,not_or];exact⟨λ e=>hn e.1.symm,aie h x⟩
 |[],_,_,_=>by simp
theorem aoL{tr:U (Nat×mT)}(hn:(tr.map (·.1)).Nodup)(i:Nat):(Mp (JZ tr).reverse i).rd=(Fk tr i).rd/\(Mp (JZ tr).reverse i).wr=(Fk tr i).wr:=by
 have hn':((JZ tr).reverse.map (·.1)).Nodup:=by
  rw[List.map_reverse];have h1:((JZ tr).map (·.1)).Nodup:=by simpa[JZ,Function.comp_def]using hn
  exact List.pairwise_reverse.2 (h1.imp λh=>Ne.symm h)
 unfold Mp Fk;cases h:lk tr i with
 |none=>
  cases h':lk (JZ tr).reverse i with
  |none=>exact⟨rfl,rfl⟩
  |some p=>
   have:=rJ h';simp only[JZ,List.mem_reverse,mem_map]at this;obtain⟨q,hq,he⟩:=this;injection he with e1 e2;subst e1;exact(aie h q.2 hq).elim
 |some a=>
  have h1:=rJ h;have h2:(i,a.rd,a.wr)∈(JZ tr).reverse:=by
   simp only[JZ,List.mem_reverse,mem_map];exact⟨(i,a),h1,rfl⟩
  rw[uX hn' h2];exact⟨rfl,rfl⟩
theorem ala{tr:U (Nat×mT)}(hn:(tr.map (·.1)).Nodup):∀p∈tr,Fk tr p.1=p.2:=by
 rintro⟨i,a⟩ hp;unfold Fk;rw[uX hn hp]
theorem Wq{nx sz k:Nat}(h:Ha nx sz k=true):k<nx\/(1000000<=k/\k<1000000+sz):=by simpa[Ha]using h
theorem TO{nx sz k:Nat}(hle:nx+sz<=1000000)(h:k<nx\/(1000000<=k/\k<1000000+sz)):gN nx (fN nx k)=k:=by
 unfold gN fN;rcases h with h |⟨h1,h2⟩
 .rw[aY (show k<1000000 by omega),aY h]
 .rw[aR (show ¬k<1000000 by omega),aR (by omega)];omega
theorem GB{nx sz k:Nat}(hle:nx+sz<=1000000)(h:k<nx\/(1000000<=k/\k<1000000+sz)):fN nx k<nx+sz:=by
 unfold fN;rcases h with h |⟨h1,h2⟩
 .rw[aY (show k<1000000 by omega)];omega
 .rw[aR (show ¬k<1000000 by omega)];omega
theorem M2{nx k:Nat}(hle:nx<=1000000)(h:k<nx):fN nx k=k:=aY (by omega)
mutual
theorem Ws{f:Nat->Nat}:∀x:DV X,(∀ k∈bk x,f k=k)->nw f x=x
 | .own k _ _,h=>by simp only[nw,h k (by simp[bk])]
 | .ptr k _ _,h=>by simp only[nw,h k (by simp[bk])]
 | .qu k _ _,h=>by simp only[nw,h k (by simp[bk])]
 | .mp k,h=>by simp only[nw,h k (by simp[bk])]
 | .oz k _,h=>by simp only[nw,h k (by simp[bk])]
 | .th k _ _ _ _,h=>by simp only[nw,h k (by simp[bk])]
 | .agg cs,h=>by simp only[nw,Ac cs (by simpa[bk]using h)]
 | .eE cs,h=>by simp only[nw,Ac cs (by simpa[bk]using h)]
 | .fn F first caps,h=>by simp only[nw,Ac first (λ k hk=>h k (by simp[bk,hk])),Ac caps (λ k hk=>h k (by simp[bk,hk]))]
 | .c _ _,_=>rfl
 | .rp _ _ _,_=>rfl
 | .wv _ _ _ _ _,_=>rfl
 | .d8 _ _ _,_=>rfl
 | .raw _,_=>rfl
 | .nil,_=>rfl
 | .ub,_=>rfl
 | .skip,_=>rfl
 | .undef,_=>rfl
theorem Ac{f:Nat->Nat}:∀l:List (DV X),(∀ k∈aP l,f k=k)->JY f l=l
 |[],_=>rfl
 |x::xs,h=>by simp only[JY,Ws x (λ k hk=>h k (by simp[aP,hk])),Ac xs (λ k hk=>h k (by simp[aP,hk]))]
end
mutual
theorem Wt(f:Nat->Nat):∀x:DV X,bk (nw f x)=(bk x).map f
 | .own _ _ _=>rfl
 | .ptr _ _ _=>rfl
 | .qu _ _ _=>rfl
 | .mp _=>rfl
 | .oz _ _=>rfl
 | .th _ _ _ _ _=>rfl
 | .agg cs=>by simp only[nw,bk,yw f cs]
 | .eE cs=>by simp only[nw,bk,yw f cs]
 | .fn F first caps=>by simp only[nw,bk,yw f first,yw f caps,map_append]
 | .c _ _=>rfl
 | .rp _ _ _=>rfl
 | .wv _ _ _ _ _=>rfl
 | .d8 _ _ _=>rfl
 | .raw _=>rfl
 | .nil=>rfl
 | .ub=>rfl
 | .skip=>rfl
 | .undef=>rfl
theorem yw(f:Nat->Nat):∀l:List (DV X),aP (JY f l)=(aP l).map f
 |[]=>rfl
 |x::xs=>by simp only[JY,aP,Wt f x,yw f xs,map_append]
end
theorem adP(f:Nat->Nat)(o:bm X):d6 (oT f o)=(d6 o).map f:=by
 cases o with
 |cells sz rows=>simp only[oT,d6,map_map,List.map_flatten];congr 1;exact map_congr_left λr _=>yw f r
 |ea c l=>rfl
 |map kc vc l=>rfl
theorem alb{α β:Type}(f:α->β):∀(l:U (Nat×α))(k:Nat),lk (l.map λp=>(p.1,f p.2)) k=(lk l k).map f
 |[],_=>rfl
 |(j,x)::r,k=>by
  simp only[aF,lk];by_cases h:j=k
  .simp[h]
  .simp only[aR h,alb f r k]
theorem aii{α β:Type}(f:α->β)(g:Nat->Nat):∀(l:U (Nat×α))(j:Nat),(∀ p∈l,∀q∈l,g p.1=g q.1->p.1=q.1)->
 (∀ y,lk (l.map λp=>(g p.1,f p.2)) j=some y->∃k x,lk l k=some x/\g k=j/\y=f x)/\(lk (l.map λp=>(g p.1,f p.2)) j=none->∀p∈l,g p.1≠j)
 |[],_,_=>⟨λ _ h=>by simp[lk]at h,λ_=>by simp⟩
 |(k0,x0)::r,j,hi=>by
  obtain⟨i1,i2⟩:=aii f g r j (λ p hp q hq=>hi p (by simp[hp]) q (by simp[hq]));simp only[aF,lk];by_cases h:g k0=j
  .rw[aY h];exact⟨λ y hy=>by injection hy with hy;exact⟨k0,x0,by simp,h,hy.symm⟩,λhn=>by cases hn⟩
  .rw[aR h];refine⟨λ y hy=>?_,λhn p hp=>?_⟩
   .have⟨k,x,h1,h2,h3⟩:=i1 y hy;refine⟨k,x,?_,h2,h3⟩;have hne:k0≠k:=λe=>h (by rw[e];exact h2);rw[aR hne];exact h1
   .rcases aN.1 hp with rfl |hp
    .exact h
    .exact i2 hn p hp
structure Ext(ds:Nat->Prop)(s s':df X):Prop where
 env:∀t,¬ds t->eQ s'.env t=eQ s.env t\/eQ s'.env t= .undef
 obj:∃d,s'.log=d++s.log/\∀k,k<s.nx->k∉d->gE s'.obj k=gE s.obj k\/gE s'.obj k=none
 nx:s.nx<=s'.nx
variable {Γ:FuncId->Option (b7 X)} {fz:List Nat} {T:eb} {am:TypeId->Option (CT X.ι)} {P:Program} {N:Nat}
theorem M5(s:df X)(e:U (Nat×DV X))(o:U (Nat×Option (bm X)))(sz t:Nat):eQ (fin s e o sz).env t=match lk e t with |some d=>Kd (nw (fN s.nx) d) |none=>eQ s.env t:=by
 simp only[fin,eQ,CB,alb (λ d=>Kd (nw (fN s.nx) d))];cases lk e t<;>rfl
theorem abG(hT:eY P T)(hm:P.follows .mixedOrders=true)(hΓ:sL P Γ){id:Nat}{al:Array Oper}{d:Bool}{s:df X}{k:df X->J A}{r:A}(hl:Low s)(h:X1 Γ fz T am N al d s k=some r):
 ∃s':df X,k s'=some r/\Low s'/\Ext (RA al) s s'/\Ev P N (.region id al d) (λ e σ=>e= .normal/\σ=s'.st) s.st:=by
 unfold X1 at h;obtain⟨tr,e,o,h1,h2,h3,h4⟩:=D5 hΓ _ _ _ _ h;have⟨h5,h6⟩:=eu h2;simp only[ak9,aL,append_nil]at h5;obtain⟨⟨⟨⟨hd,hlex⟩,hE⟩,hO⟩,hnx⟩:=h5;have hle:s.nx+64*al.size<=1000000:=of_decide_eq_true hnx;have HE:(tr.map (·.1)).Nodup:=by rw[h1];exact List.nodup_range
 have Tb:∀t x,lk e t=some x->∀j∈bk x,j<s.nx\/(1000000<=j/\j<1000000+64*al.size):=by
  intro t x hx j hj;have:=all_eq_true.1 hE _ (rJ hx);exact Wq (all_eq_true.1 this j hj)
 have HP:∀p∈o,(p.1<s.nx\/(1000000<=p.1/\p.1<1000000+64*al.size))/\∀x,p.2=some x->∀j∈d6 x,j<s.nx\/(1000000<=j/\j<1000000+64*al.size):=by
  intro p hp;have:=all_eq_true.1 hO _ hp;simp only[aL]at this;refine⟨Wq this.1,λx hx j hj=>?_⟩;have h2:=this.2;rw[hx]at h2;exact Wq (all_eq_true.1 h2 j hj)
 have hinj:∀p∈o,∀q∈o,fN s.nx p.1=fN s.nx q.1->p.1=q.1:=by
  intro p hp q hq he;have:=congrArg (gN s.nx) he
  rwa [TO hle (HP p hp).1,TO hle (HP q hq).1]at this
 have xi:∀j,(∃ q x,lk o q=some x/\fN s.nx q=j/\gE (fin s e o (64*al.size)).obj j=x.map (oT (fN s.nx)))\/(gE (fin s e o (64*al.size)).obj j=gE s.obj j/\∀p∈o,fN s.nx p.1≠j):=by
  intro j;obtain⟨i1,i2⟩:=aii (λ x:Option (bm X)=>x.map (oT (fN s.nx))) (fN s.nx) o j hinj;simp only[fin,gE,CB];cases hj:lk (o.map λp=>(fN s.nx p.1,p.2.map (oT (fN s.nx)))) j with
  |none=>exact .inr ⟨rfl,i2 hj⟩
  |some y=>
   have⟨q,x,g1,g2,g3⟩:=i1 y hj;exact .inl ⟨q,x,g1,g2,by rw[g3];rfl⟩
 refine⟨fin s e o (64*al.size),h6,?_,?_,?_⟩
 .constructor
  .exact hle
  .have:=hl.ge;show 1000<=s.nx+64*al.size;omega
  .intro t j hj;rw[M5]at hj;cases ht:lk e t with
   |none=>rw[ht]at hj;have:=hl.env t j hj;show j<s.nx+64*al.size;omega
   |some x=>
    rw[ht,aak,Wt]at hj;obtain⟨q,hq,rfl⟩:=mem_map.1 hj;exact GB hle (Tb t x ht q hq)
  .intro j x hx;rcases xi j with ⟨q,y,g1,rfl,g3⟩ |⟨g1,_⟩
   .rw[g3]at hx;rw[dI]at hx;obtain⟨z,rfl,rfl⟩:=hx;obtain⟨k1,k2⟩:=HP _ (rJ g1);refine⟨GB hle k1,λi hi=>?_⟩;rw[adP]at hi;obtain⟨i',hi',rfl⟩:=mem_map.1 hi;exact GB hle (k2 z rfl i' hi')
   .rw[g1]at hx;have⟨k1,k2⟩:=hl.obj j x hx;refine⟨show j<s.nx+64*al.size by omega,λi hi=>?_⟩;have:=k2 i hi;show i<s.nx+64*al.size;omega
 .refine⟨λ t ht=> .inl ?_,⟨o.map (λ p=>fN s.nx p.1),rfl,λj hj hn=>?_⟩,by show s.nx<=s.nx+64*al.size;omega⟩
  .rw[M5];cases hx:lk e t with
   |none=>rfl
   |some x=>
    rcases h3 _ (rJ hx)with h |h
    .simp at h
    .exact(ht h).elim
  .rcases xi j with ⟨q,y,g1,g2,g3⟩ |⟨g1,_⟩
   .exact(hn (mem_map.2 ⟨(q,y),rJ g1,g2⟩)).elim
   .exact .inl g1
 .have hst:iF s [] []=s.st:=rfl;have hex:=h4 (Fk tr) (ala HE);rw[hst]at hex;intro w0 O0 β I a w hr ho;have done:∀(e':Exit)(a':Act)(w':World),(∃ β' I' σ1,Rel P w0 O0 N β' I' σ1 a' w'/\e'= .normal/\σ1=iF s e o)->∃ β' I' σ1,Rel P w0 O0 N β' I' σ1 a' w'/\tE σ1/\e'= .normal/\σ1=(fin s e o (64*al.size)).st:=by
   rintro e' a' w' ⟨β',I',σ1,g1,rfl,rfl⟩;refine⟨_,I',(fin s e o (64*al.size)).st,Rel.re (f:=fN s.nx) (g:=gN s.nx) (D:=λk=>k<s.nx\/(1000000<=k/\k<1000000+64*al.size)) (λ k hk=>TO hle hk) (λ j hj=>by have:=hl.ge;unfold gN;rw[aY (by omega)]) g1 (λ t=>?_) (λ _=>rfl) (λ t=> .inr ?_) (λ j o' hj=>?_),?_,rfl,rfl⟩
   .show(match lk e t with |some .skip=>some false |_=>none)=none\/den (eQ (fin s e o (64*al.size)).env t)= .undef;rw[M5];cases ht:lk e t with
    |none=>exact .inl rfl
    |some d=>cases d<;>first |exact .inl rfl |exact .inr rfl
   .show(∀ k∈refs (den (pd e s.env t)),_)/\li (gb (fN s.nx) (den (pd e s.env t))) (den (eQ (fin s e o (64*al.size)).env t));rw[M5,iT,<- Aa];unfold pd;cases ht:lk e t with
    |none=>
     refine⟨λ q hq=> .inl (hl.env t q hq),?_⟩;rw[Ws _ (λ q hq=>M2 (by omega) (hl.env t q hq))];exact li.refl _
    |some x=>exact⟨Tb t x ht,by simp only[ak8];exact li.refl _⟩
   .simp only[df.st,dI]at hj;obtain⟨x,hx,rfl⟩:=hj;rcases xi j with ⟨q,y,i1,rfl,i3⟩ |⟨i1,i2⟩
    .rw[i3,dI]at hx;obtain⟨z,rfl,rfl⟩:=hx;obtain⟨k1,k2⟩:=HP _ (rJ i1);obtain⟨r1,r2⟩:=Jy (D:=λk=>k<s.nx\/(1000000<=k/\k<1000000+64*al.size)) (fN s.nx) z (λ i hi=>k2 z rfl i hi);refine⟨q,bH z,?_,k1,rfl,r1,r2⟩;simp only[iF,xa,i1,Option.map_some]
    .rw[i1]at hx;have⟨k1,k2⟩:=hl.obj j x hx;have hid:oT (fN s.nx) x=x:=by
      cases x with
      |ea c l=>rfl
      |map kc vc l=>rfl
      |cells sz rows=>
       simp only[oT];congr 1;have:∀q∈rows,JY (fN s.nx) q=q:=λq hq=>Ac q λi hi=>M2 (by omega) (k2 i (by
        simp only[d6,List.mem_flatten,mem_map];exact⟨_,⟨q,hq,rfl⟩,hi⟩))
       rw[map_congr_left this];simp
     obtain⟨r1,r2⟩:=Jy (D:=λk=>k<s.nx\/(1000000<=k/\k<1000000+64*al.size)) (fN s.nx) x (λ i hi=> .inl (k2 i hi));rw[hid]at r1 r2;refine⟨j,bH x,?_,.inl k1,M2 (by omega) k1,r1,r2⟩;simp only[iF,xa];cases hlo:lk o j with
     |none=>simp[hx]
     |some y=>exact(i2 _ (rJ hlo) (M2 (by omega) k1)).elim
   .have hL:Low (fin s e o (64*al.size)):=by
     constructor
     .exact hle
     .have:=hl.ge;show 1000<=s.nx+64*al.size;omega
     .intro t j hj;rw[M5]at hj;cases ht:lk e t with
      |none=>rw[ht]at hj;have:=hl.env t j hj;show j<s.nx+64*al.size;omega
      |some x=>
       rw[ht,aak,Wt]at hj;obtain⟨q,hq,rfl⟩:=mem_map.1 hj;exact GB hle (Tb t x ht q hq)
     .intro j x hx;rcases xi j with ⟨q,y,g1,rfl,g3⟩ |⟨g1,_⟩
      .rw[g3]at hx;rw[dI]at hx;obtain⟨z,rfl,rfl⟩:=hx;obtain⟨k1,k2⟩:=HP _ (rJ g1);refine⟨GB hle k1,λi hi=>?_⟩;rw[adP]at hi;obtain⟨i',hi',rfl⟩:=mem_map.1 hi;exact GB hle (k2 z rfl i' hi')
      .rw[g1]at hx;have⟨k1,k2⟩:=hl.obj j x hx;refine⟨show j<s.nx+64*al.size by omega,λi hi=>?_⟩;have:=k2 i hi;show i<s.nx+64*al.size;omega
    exact hL.old
  cases d with
  |false=>exact wp_mono (ai2 hT hd ho hex hr) done
  |true=>
   refine wp_mono (Vs hT hm hd ?_ ho hex hr) done;rw[<- adO (aoL HE)];simpa using hlex
end
end Go.Gb
namespace Go.Gb
open Go.RowKit
structure Sh(ι:Type) where
 slots:List (Nat×Pt ι)
 cE:List (Nat×OP ι)
 keep:List Nat
 de:List Nat
 nx:Nat
 AM:List (Nat×CT ι)
def Sh.vars{ι:Type}(s:Sh ι):U (CT ι):=gS s.slots++cH s.cE
section
variable {X:SX}
def nz(z:Bool)(k:Nat):DV X:=bif z then .oz k 0 else .own k 0 0
def z7(z:Bool)(s:df X)(t:Nat)(c:CT X.ι):df X:=
 match eQ s.env t with
 | .nil=>if s.nx<1000000 then⟨(t,nz z s.nx)::s.env,(s.nx,some (.ea c []))::s.obj,s.nx+1,s.nx::s.log⟩else s
 |_=>s
def Fi(s:df X)(q j:Nat)(c:CT X.ι):df X:=
 match gE s.obj q with
 |some (.cells sz [row])=>match row[j]? with
  |some .nil=>if s.nx<1000000 then⟨s.env,(q,some (.cells sz [row.set j (.own s.nx 0 0)]))::(s.nx,some (.ea c []))::s.obj,s.nx+1,q::s.nx::s.log⟩else s
  |_=>s
 |_=>s
def PS:U (Nat×CT X.ι)->df X->df X
 |[],s=>s
 |(t,c)::r,s=>PS r (bif Nat.ble 1000000 t then bif Nat.ble 1099511627776 t then z7 true s (t -1099511627776) c else Fi s ((t -1000000)/4096) ((t -1000000)%4096) c else z7 false s t c)
def isU:DV X->Bool
 | .undef | .skip=>true
 |_=>false
def encS(sh:Sh X.ι)(s0:df X)(v:VT (X:=X) sh.vars):df X:=
 let L:=wh sh.vars v
 let n:=(gS sh.slots).length
 let ol:=λk=>(lk (lens sh.cE (L.drop n)) k).getD 0
 ⟨KZ ol sh.slots (L.take n)++sh.keep.map (λ t=>(t,eQ s0.env t)),dn ol sh.cE (L.drop n)++sh.de.map (λ k=>(k,gE s0.obj k)),sh.nx,
  (List.range s0.nx).filter (λ k=>!sh.de.contains k)++s0.log⟩
def okS(sh:Sh X.ι)(ds:U Nat)(s0 s':df X)(m:MA X):Bool:=
 decide (m.nm.map (·.1)++sh.de).Nodup&&decide (m.nm.map (·.2)++sh.de).Nodup&&decide (sh.cE.map (·.1)).Nodup&&m.nm.all (λ q=>(sh.cE.map (·.1)).contains q.2&&decide (q.2<sh.nx)&&(decide (q.1=q.2) || decide (1000<=q.2)))&&
  sh.slots.all (λ p=>ds.contains p.1)&&sh.keep.all (λ t=>!ds.contains t&&!isU (eQ s'.env t)&&(bk (eQ s0.env t)).all λj=>sh.de.contains j || m.nm.contains (j,j))&&
  sh.de.all (λ k=>decide (k<s0.nx)&&!(s'.log.take (s'.log.length -s0.log.length)).contains k&&(gE s'.obj k).isSome&&match gE s0.obj k with |some o=>(d6 o).all λj=>sh.de.contains j || m.nm.contains (j,j) |none=>false)&&
  decide (s0.nx<=sh.nx)&&decide (sh.nx<=1000000)
def Pc{A:Type}(sh:Sh X.ι)(ds:U Nat)(s0 s':df X)(k:VT (X:=X) sh.vars->J A):J A:=
 (Hq (gE s'.obj) (eQ s'.env) sh.slots ⟨[],[],[]⟩).bind λm=>(Cv (gE s'.obj) sh.cE m).bind λm=>bif okS sh ds s0 s' m then(YO sh.vars m.ez).bind λv=>Vz m.i7 (k v)else none
def qj{A:Type}(sh:Sh X.ι)(ds:U Nat)(s0 s':df X)(k:VT (X:=X) sh.vars->J A):J A:=
 bif sh.AM.all (λ p=>bif Nat.ble 1000000 p.1 then !Nat.ble 1099511627776 p.1 || ds.contains (p.1 -1099511627776)else ds.contains p.1)then Pc sh ds s0 (PS sh.AM s') k else none
end
section
variable {X:SX}
theorem aam{d:DV X}{c:CT X.ι}{x:CT.T X.toSE c}(h:JX d c=some x):bk d=[]:=by
 cases d
 case c=>rfl
 case nil=>rfl
 all_goals cases c<;>cases h
theorem RB:∀{ds:U (DV X)}{l:U (CT X.ι)}{h:HL X.toSE l},yH ds l=some h->aP ds=[]
 |[],[],_,_=>rfl
 |d::ds,c::l,h,hr=>by
  simp only[yH]at hr;have⟨x,h1,hr⟩:=ai.1 hr;have⟨g,h2,hr⟩:=ai.1 hr;simp only[aP,aam h1,RB h2,append_nil]
 |[],_::_,_,hr=>by simp[yH]at hr
 |_::_,[],_,hr=>by simp[yH]at hr
theorem ana{d:DV X}{c:CT X.ι}{x:CT.T X.toSE c}(h:dat d c=some x):li (den d) (den (.c c x:DV X))/\bk d=[]:=by
 cases c
 case st i=>
  replace h:DO d i=some x:=h
  cases d
  case agg cs=>
   simp only[DO]at h;have⟨g,h1,h⟩:=ai.1 h;cases h;refine⟨λ P β w I v hv=>?_,by simp only[bk,RB h1]⟩;have h2:=(yI h1 (X.flat i)).1;simp only[den,VR]at hv;obtain⟨vs,rfl,hv⟩:=hv;show VR P β w I (.agg ((X.row i (X.make i g)).map AV.t)) _;have h3:(X.row i (X.make i g)).map AV.t=(bO cs).map Gb.wk:=(by rw[h2];exact congrArg _ (X.gi i g));rw[h3];simp only[VR];exact⟨vs,rfl,aE.wk _ _ hv⟩
  case c a y=>
   replace h:jB a (.st i) y=some x:=h
   rw[(oo h).1];exact⟨li.refl _,rfl⟩
  all_goals cases h
 all_goals
  have h1:=vY h;refine⟨λ P β w I v hv=>?_,aam h⟩;simp only[den];rw[<- h1];exact hv.wk
def gp(m m':MA X):Prop:=(∀ q∈m.nm,q∈m'.nm)/\(∀ c∈m.i7,c∈m'.i7)
theorem gp.refl(m:MA X):gp m m:=⟨λ _ h=>h,λ_ h=>h⟩
theorem gp.trans{a b c:MA X}(h:gp a b)(h':gp b c):gp a c:=⟨λ q hq=>h'.1 q (h.1 q hq),λq hq=>h'.2 q (h.2 q hq)⟩
theorem fA(m:MA X)(k' k:Nat):(addN m k' k).ez=m.ez/\(addN m k' k).i7=m.i7:=by unfold addN;split<;>exact⟨rfl,rfl⟩
theorem nT(m:MA X)(k' k:Nat):(k',k)∈(addN m k' k).nm:=by
 unfold addN;split
 .rename_i h;simpa using h
 .simp
theorem pK(m:MA X)(k' k:Nat):gp m (addN m k' k):=by
 unfold addN;split
 .exact gp.refl m
 .exact⟨λ q hq=>by simp[hq],λ_ h=>h⟩
variable {get:Nat->Option (bm X)}
mutual
theorem aij:∀(p:Pt X.ι)(d:DV X)(m m':MA X),mP get p d m=some m'->gp m m'/\∃an,m'.ez=m.ez++an/\an.length=p.vars.length
 | .v c,d,m,m',h=>by
  simp only[mP]at h;rw[ai]at h;obtain⟨x,h1,h⟩:=h;cases h;exact⟨⟨λ _ h=>h,λ_ h=>h⟩,[⟨c,x⟩],rfl,rfl⟩
 | .o k,d,m,m',h=>by
  simp only[mP]at h;split at h
  .rename_i k' len;have⟨o,h1,h⟩:=ai.1 h;split at h
   .cases h;refine⟨gp.trans (b:=⟨m.nm,m.ez,m.i7++_⟩) ⟨λ _ h=>h,λ_ h=>by simp[h]⟩ (pK _ _ _),[],by rw[(fA _ _ _).1];simp,rfl⟩
   .cases h
  .cases h
 | .oz k,d,m,m',h=>by
  simp only[mP]at h;split at h
  .have⟨o,h1,h⟩:=ai.1 h;split at h
   .cases h;refine⟨gp.trans (b:=⟨m.nm,m.ez,m.i7++_⟩) ⟨λ _ h=>h,λ_ h=>by simp[h]⟩ (pK _ _ _),[],by rw[(fA _ _ _).1];simp,rfl⟩
   .cases h
  .have⟨o,h1,h⟩:=ai.1 h;split at h
   .cases h;refine⟨gp.trans (b:=⟨m.nm,m.ez,m.i7++_⟩) ⟨λ _ h=>h,λ_ h=>by simp[h]⟩ (pK _ _ _),[],by rw[(fA _ _ _).1];simp,rfl⟩
   .cases h
  .cases h
 | .p k,d,m,m',h=>by
  simp only[mP]at h;split at h
  .cases h;exact⟨pK _ _ _,[],by rw[(fA _ _ _).1];simp,rfl⟩
  .cases h
 | .mp k,d,m,m',h=>by
  simp only[mP]at h;split at h
  .cases h;exact⟨pK _ _ _,[],by rw[(fA _ _ _).1];simp,rfl⟩
  .cases h
 | .nil,d,m,m',h=>by
  simp only[mP]at h;split at h
  .cases h;exact⟨gp.refl _,[],by simp,rfl⟩
  .cases h
 | .f F fs cs,d,m,m',h=>by
  simp only[mP]at h;split at h
  .split at h
   .rw[ai]at h;obtain⟨m1,h1,h⟩:=h;obtain⟨a1,n1,b1,c1⟩:=yO fs _ m m1 h1;obtain⟨a2,n2,b2,c2⟩:=yO cs _ m1 m' h;exact⟨a1.trans a2,n1++n2,by rw[b2,b1,aM],by simp[Pt.vars,c1,c2]⟩
   .cases h
  .cases h
 | .od k,d,m,m',h=>by
  simp only[mP]at h;split at h
  .rename_i k' aa len;have⟨o,h1,h⟩:=ai.1 h;split at h
   .cases h;refine⟨gp.trans (b:=⟨m.nm,m.ez++[⟨.int .i64,(aa:Int)⟩],m.i7++_⟩) ⟨λ _ h=>h,λ_ h=>by simp[h]⟩ (pK _ _ _),[⟨.int .i64,(aa:Int)⟩],by rw[(fA _ _ _).1],rfl⟩
   .cases h
  .cases h
 | .a ps,d,m,m',h=>by
  simp only[mP]at h;split at h
  .exact yO ps _ m m' h
  .cases h
theorem yO:∀(ps:List (Pt X.ι))(ds:List (DV X))(m m':MA X),s6 get ps ds m=some m'->gp m m'/\∃an,m'.ez=m.ez++an/\an.length=(cQ ps).length
 |[],[],m,m',h=>by
  simp only[s6,aA]at h;subst h;exact⟨gp.refl _,[],by simp,rfl⟩
 |p::ps,d::ds,m,m',h=>by
  simp only[s6]at h;have⟨m1,h1,h⟩:=ai.1 h;have⟨a1,n1,b1,c1⟩:=aij p d m m1 h1;have⟨a2,n2,b2,c2⟩:=yO ps ds m1 m' h;exact⟨a1.trans a2,n1++n2,by rw[b2,b1,aM],by simp[cQ,c1,c2]⟩
 |[],_::_,m,m',h=>by simp[s6]at h
 |_::_,[],m,m',h=>by simp[s6]at h
end
theorem yP:∀(rs:U (List (Pt X.ι)))(qs:U (List (DV X)))(m m':MA X),Fs get rs qs m=some m'->gp m m'/\∃an,m'.ez=m.ez++an/\an.length=(vZ rs).length
 |[],[],m,m',h=>by
  simp only[Fs,aA]at h;subst h;exact⟨gp.refl _,[],by simp,rfl⟩
 |r::rs,q::qs,m,m',h=>by
  simp only[Fs]at h;have⟨m1,h1,h⟩:=ai.1 h;have⟨a1,n1,b1,c1⟩:=yO r q m m1 h1;have⟨a2,n2,b2,c2⟩:=yP rs qs m1 m' h;exact⟨a1.trans a2,n1++n2,by rw[b2,b1,aM],by simp[vZ,c1,c2]⟩
 |[],_::_,m,m',h=>by simp[Fs]at h
 |_::_,[],m,m',h=>by simp[Fs]at h
section
variable {NM:List (Nat×Nat)} {f:Nat->Nat} {du:Nat->Nat}
def DN(NM:U (Nat×Nat))(j:Nat):Prop:=∃k,(j,k)∈NM
def SN(NM:U (Nat×Nat))(j:Nat):Prop:=∃k,(k,j)∈NM
theorem M6{D:Nat->Prop}{f:Nat->Nat}{P:Program}{β:Nat->J cL}{w:World}{I:Nat->Prop}:∀{a b:U AV}(_:mS D f a b)(u:U Value),aE P β w I (zG f a) u->aE P β w I b u
 |[],[],_,u,hu=>hu
 |[],_::_,hr,_,_=>hr.elim
 |_::_,[],hr,_,_=>hr.elim
 |y::ys,z::zs,hr,[],hu=>by simp[zG,aE]at hu
 |y::ys,z::zs,hr,v::vs,hu=>by
  simp only[zG,aE]at hu ⊢;exact⟨hr.1.2 _ _ _ _ _ hu.1,M6 hr.2 vs hu.2⟩
mutual
theorem adR(hf:∀q∈NM,f q.1=q.2)(ho:∀q∈NM,∀c l,get q.1=some (.ea c l)->du q.2=l.length):∀(p:Pt X.ι)(d:DV X)(m m':MA X),mP get p d m=some m'->(∀ q∈m'.nm,q∈NM)->(∀ c∈m'.i7,c=true)->
 ∃an,m'.ez=m.ez++an/\∃d',(∀ ag,eP du p (an++ag)=(d',ag))/\li (gb f (den d)) (den d')/\(∀ j∈bk d,DN NM j)/\(∀ j∈bk d',SN NM j)
 | .v c,d,m,m',h,_,_=>by
  simp only[mP]at h;rw[ai]at h;obtain⟨x,h1,h⟩:=h;cases h;have⟨h2,h3⟩:=ana h1;refine⟨[⟨c,x⟩],rfl,.c c x,λag=>rfl,?_,by simp[h3],by simp[bk]⟩;rw[<- Aa,Ws d (by simp[h3])];exact h2
 | .o k,d,m,m',h,hn,hc=>by
  simp only[mP]at h;split at h
  .rename_i k' len;rw[ai]at h;obtain⟨o,h1,h⟩:=h;split at h
   .rename_i c l;cases h;have hq:(k',k)∈NM:=hn _ (nT _ _ _);have he:len=l.length:=by
     have:=hc (az len l.length) (by rw[(fA _ _ _).2];simp);simpa[az]using this
    refine⟨[],by rw[(fA _ _ _).1];simp,.own k 0 (du k),λag=>rfl,?_,?_,?_⟩
    .simp only[den,gb];rw[hf _ hq,ho _ hq c l h1,he];exact li.refl _
    .intro j hj;simp only[bk,aQ]at hj;subst hj;exact⟨k,hq⟩
    .intro j hj;simp only[bk,aQ]at hj;subst hj;exact⟨k',hq⟩
   .cases h
  .cases h
 | .oz k,d,m,m',h,hn,hc=>by
  simp only[mP]at h;split at h
  .rename_i k' len;rw[ai]at h;obtain⟨o,h1,h⟩:=h;split at h
   .rename_i c l;cases h;have hq:(k',k)∈NM:=hn _ (nT _ _ _);have he:len≠0/\len=l.length:=by
     have:=hc (!(len==0)&&az len l.length) (by rw[(fA _ _ _).2];simp);simpa[az]using this
    refine⟨[],by rw[(fA _ _ _).1];simp,.oz k (du k),λag=>rfl,?_,λj hj=>?_,λj hj=>?_⟩
    .simp only[den,gb];rw[hf _ hq,ho _ hq c l h1,<- he.2];intro P β w I v hv;simp only[VR]at hv ⊢;exact .inr ⟨he.1,hv.resolve_left λh=>he.1 h.2.2.2⟩
    .simp only[bk,aQ]at hj;subst hj;exact⟨k,hq⟩
    .simp only[bk,aQ]at hj;subst hj;exact⟨k',hq⟩
   .cases h
  .rename_i k' len;rw[ai]at h;obtain⟨o,h1,h⟩:=h;split at h
   .rename_i c l;cases h;have hq:(k',k)∈NM:=hn _ (nT _ _ _);have he:len=l.length:=by
     have:=hc (az len l.length) (by rw[(fA _ _ _).2];simp);simpa[az]using this
    refine⟨[],by rw[(fA _ _ _).1];simp,.oz k (du k),λag=>rfl,?_,λj hj=>?_,λj hj=>?_⟩
    .simp only[den,gb];rw[hf _ hq,ho _ hq c l h1,he];exact li.refl _
    .simp only[bk,aQ]at hj;subst hj;exact⟨k,hq⟩
    .simp only[bk,aQ]at hj;subst hj;exact⟨k',hq⟩
   .cases h
  .cases h
 | .p k,d,m,m',h,hn,hc=>by
  simp only[mP]at h;split at h
  .rename_i k';cases h;have hq:(k',k)∈NM:=hn _ (nT _ _ _);refine⟨[],by rw[(fA _ _ _).1];simp,.ptr k 0 0,λag=>rfl,?_,?_,?_⟩
   .simp only[den,gb];rw[hf _ hq];exact li.refl _
   .intro j hj;simp only[bk,aQ]at hj;subst hj;exact⟨k,hq⟩
   .intro j hj;simp only[bk,aQ]at hj;subst hj;exact⟨k',hq⟩
  .cases h
 | .mp k,d,m,m',h,hn,hc=>by
  simp only[mP]at h;split at h
  .rename_i k';cases h;have hq:(k',k)∈NM:=hn _ (nT _ _ _);refine⟨[],by rw[(fA _ _ _).1];simp,.mp k,λag=>rfl,?_,?_,?_⟩
   .simp only[den,gb];rw[hf _ hq];exact li.refl _
   .intro j hj;simp only[bk,aQ]at hj;subst hj;exact⟨k,hq⟩
   .intro j hj;simp only[bk,aQ]at hj;subst hj;exact⟨k',hq⟩
  .cases h
 | .nil,d,m,m',h,_,_=>by
  simp only[mP]at h;split at h
  .cases h;exact⟨[],by simp,.nil,λag=>rfl,li.refl _,by simp[bk],by simp[bk]⟩
  .cases h
 | .f F fs cs,d,m,m',h,hn,hc=>by
  simp only[mP]at h;split at h
  .rename_i F' first caps
   split at h
   .rename_i e;subst e;rw[ai]at h;obtain⟨m1,h1,h⟩:=h;have hm:=(yO cs _ m1 m' h).1;obtain⟨n1,a1,f',b1,c1,e1,g1⟩:=CF hf ho fs _ m m1 h1 (λ q hq=>hn q (hm.1 q hq)) (λ q hq=>hc q (hm.2 q hq));obtain⟨n2,a2,c',b2,c2,e2,g2⟩:=CF hf ho cs _ m1 m' h hn hc;refine⟨n1++n2,by rw[a2,a1,aM],.fn F f' c',λag=>by simp only[eP,aM,b1,b2],?_,?_,?_⟩
    .intro P β w I v hv;simp only[den,gb,VR]at hv ⊢;obtain⟨us,vs,rfl,hu,hv⟩:=hv;exact⟨us,vs,rfl,M6 c1 _ hu,M6 c2 _ hv⟩
    .intro j hj;simp only[bk,aZ]at hj;exact hj.elim (e1 j) (e2 j)
    .intro j hj;simp only[bk,aZ]at hj;exact hj.elim (g1 j) (g2 j)
   .cases h
  .cases h
 | .od k,d,m,m',h,hn,hc=>by
  simp only[mP]at h;split at h
  .rename_i k' aa len;rw[ai]at h;obtain⟨o,h1,h⟩:=h;split at h
   .rename_i c l;cases h;have hq:(k',k)∈NM:=hn _ (nT _ _ _);have he:aa+len=l.length:=by
     have:=hc (az (aa+len) l.length) (by rw[(fA _ _ _).2];simp);simpa[az]using this
    refine⟨[⟨.int .i64,(aa:Int)⟩],by rw[(fA _ _ _).1],.own k aa (du k -aa),λag=>?_,?_,?_,?_⟩
    .simp only[eP,cons_append,bQ];have:Z0 (X:=X) ⟨.int .i64,(aa:Int)⟩=aa:=by
      simp only[Z0];rw[VL];simp
     rw[this]
    .simp only[den,gb];rw[hf _ hq,ho _ hq c l h1,show l.length -aa=len by omega];exact li.refl _
    .intro j hj;simp only[bk,aQ]at hj;subst hj;exact⟨k,hq⟩
    .intro j hj;simp only[bk,aQ]at hj;subst hj;exact⟨k',hq⟩
   .cases h
  .cases h
 | .a ps,d,m,m',h,hn,hc=>by
  simp only[mP]at h;split at h
  .rename_i ds;have⟨an,h1,ds',h2,h3,h4,h5⟩:=CF hf ho ps ds m m' h hn hc;refine⟨an,h1,.agg ds',λag=>by simp only[eP,h2],?_,by simpa[bk]using h4,by simpa[bk]using h5⟩;intro P β w I v hv;simp only[den,gb,VR]at hv ⊢;obtain⟨vs,rfl,hv⟩:=hv;refine⟨vs,rfl,?_⟩;exact M6 h3 _ hv
  .cases h
theorem CF(hf:∀q∈NM,f q.1=q.2)(ho:∀q∈NM,∀c l,get q.1=some (.ea c l)->du q.2=l.length):∀(ps:List (Pt X.ι))(ds:List (DV X))(m m':MA X),s6 get ps ds m=some m'->(∀ q∈m'.nm,q∈NM)->(∀ c∈m'.i7,c=true)->
 ∃an,m'.ez=m.ez++an/\∃ds',(∀ ag,lh du ps (an++ag)=(ds',ag))/\mS (DN NM) f (bO ds) (bO ds')/\(∀ j∈aP ds,DN NM j)/\(∀ j∈aP ds',SN NM j)
 |[],[],m,m',h,_,_=>by
  simp only[s6,aA]at h;subst h;exact⟨[],by simp,[],λag=>rfl,trivial,by simp[aP],by simp[aP]⟩
 |p::ps,d::ds,m,m',h,hn,hc=>by
  simp only[s6]at h;have⟨m1,h1,h⟩:=ai.1 h;have hm:=(yO ps ds m1 m' h).1;obtain⟨n1,a1,d',b1,c1,e1,g1⟩:=adR hf ho p d m m1 h1 (λ q hq=>hn q (hm.1 q hq)) (λ q hq=>hc q (hm.2 q hq));have⟨n2,a2,ds',b2,c2,e2,g2⟩:=CF hf ho ps ds m1 m' h hn hc;refine⟨n1++n2,by rw[a2,a1,aM],d'::ds',λag=>?_,⟨⟨λ k hk=>e1 k (by rwa [iT]at hk),c1⟩,c2⟩,?_,?_⟩
  .simp only[lh,aM,b1,b2]
  .intro j hj;simp only[aP,aZ]at hj;exact hj.elim (e1 j) (e2 j)
  .intro j hj;simp only[aP,aZ]at hj;exact hj.elim (g1 j) (g2 j)
 |[],_::_,m,m',h,_,_=>by simp[s6]at h
 |_::_,[],m,m',h,_,_=>by simp[s6]at h
end
theorem RD(hf:∀q∈NM,f q.1=q.2)(ho:∀q∈NM,∀c l,get q.1=some (.ea c l)->du q.2=l.length):∀(rs:U (List (Pt X.ι)))(qs:U (List (DV X)))(m m':MA X),Fs get rs qs m=some m'->(∀ q∈m'.nm,q∈NM)->(∀ c∈m'.i7,c=true)->
 ∃an,m'.ez=m.ez++an/\∃EE,(∀ ag,wm du rs (an++ag)=(EE,ag))/\ij (DN NM) f (qs.map bO) (EE.map bO)/\(∀ j∈(qs.map aP).flatten,DN NM j)/\(∀ j∈(EE.map aP).flatten,SN NM j)
 |[],[],m,m',h,_,_=>by
  simp only[Fs,aA]at h;subst h;exact⟨[],by simp,[],λag=>rfl,trivial,by simp,by simp⟩
 |r::rs,q::qs,m,m',h,hn,hc=>by
  simp only[Fs]at h;have⟨m1,h1,h⟩:=ai.1 h;have hm:=(yP rs qs m1 m' h).1;obtain⟨n1,a1,d',b1,c1,e1,g1⟩:=CF hf ho r q m m1 h1 (λ q hq=>hn q (hm.1 q hq)) (λ q hq=>hc q (hm.2 q hq));have⟨n2,a2,ds',b2,c2,e2,g2⟩:=RD hf ho rs qs m1 m' h hn hc;refine⟨n1++n2,by rw[a2,a1,aM],d'::ds',λag=>?_,⟨c1,c2⟩,?_,?_⟩
  .simp only[wm,aM,b1,b2]
  .intro j hj;simp only[aF,flatten_cons,aZ]at hj;exact hj.elim (e1 j) (e2 j)
  .intro j hj;simp only[aF,flatten_cons,aZ]at hj;exact hj.elim (g1 j) (g2 j)
 |[],_::_,m,m',h,_,_=>by simp[Fs]at h
 |_::_,[],m,m',h,_,_=>by simp[Fs]at h
end
end
section
variable {X:SX} {get:Nat->Option (bm X)} {env:Nat->DV X}
theorem Hw:∀(sl:U (Nat×Pt X.ι))(m m':MA X),Hq get env sl m=some m'->gp m m'/\∃an,m'.ez=m.ez++an/\an.length=(gS sl).length
 |[],m,m',h=>by
  simp only[Hq,aA]at h;subst h;exact⟨gp.refl _,[],by simp,rfl⟩
 |(t,p)::r,m,m',h=>by
  simp only[Hq]at h;rw[ai]at h;obtain⟨m1,h1,h⟩:=h;obtain⟨a1,n1,b1,c1⟩:=aij p _ m m1 h1;have⟨a2,n2,b2,c2⟩:=Hw r m1 m' h;exact⟨a1.trans a2,n1++n2,by rw[b2,b1,aM],by simp[gS,c1,c2]⟩
theorem l5:∀(os:U (Nat×OP X.ι))(m m':MA X),Cv get os m=some m'->gp m m'/\∃an,m'.ez=m.ez++an/\an.length=(cH os).length
 |[],m,m',h=>by
  simp only[Cv,aA]at h;subst h;exact⟨gp.refl _,[],by simp,rfl⟩
 |(k,op)::r,m,m',h=>by
  simp only[Cv]at h;rw[ai]at h;obtain⟨o,h1,h⟩:=h;split at h
  .rename_i c c' l;rw[ai]at h;obtain⟨l',h2,h⟩:=h;obtain⟨a2,n2,b2,c2⟩:=l5 r _ m' h;refine⟨gp.trans (gp.trans (b:=⟨m.nm,m.ez++[⟨.sl c,l'⟩],m.i7⟩) ⟨λ _ h=>h,λ_ h=>h⟩ (pK _ _ _)) a2,[⟨.sl c,l'⟩]++n2,?_,by simp[cH,c2]⟩;rw[b2,(fA _ _ _).1,aM]
  .rename_i kc vc tR tG l;rw[ai]at h;obtain⟨l',h2,h⟩:=h;obtain⟨a2,n2,b2,c2⟩:=l5 r _ m' h;refine⟨gp.trans (gp.trans (b:=⟨m.nm,m.ez++[⟨.mp kc vc,l'⟩],m.i7⟩) ⟨λ _ h=>h,λ_ h=>h⟩ (pK _ _ _)) a2,[⟨.mp kc vc,l'⟩]++n2,?_,by simp[cH,c2]⟩;rw[b2,(fA _ _ _).1,aM]
  .rename_i sz rows sz' rows';split at h
   .rw[ai]at h;obtain⟨m1,h2,h⟩:=h;obtain⟨a1,n1,b1,c1⟩:=yP rows _ _ m1 h2;have⟨a2,n2,b2,c2⟩:=l5 r m1 m' h;refine⟨((pK m _ _).trans a1).trans a2,n1++n2,?_,by simp[cH,c1,c2]⟩;rw[b2,b1,(fA _ _ _).1,aM]
   .cases h
  .cases h
variable {NM:List (Nat×Nat)} {f:Nat->Nat} {du:Nat->Nat}
theorem D6:∀(os:U (Nat×OP X.ι))(m m':MA X),Cv get os m=some m'->(∀ q∈m'.nm,q∈NM)->∃an,m'.ez=m.ez++an/\∀ag,∀k∈os.map (·.1),∃k' o,(k',k)∈NM/\get k'=some o/\∀c l,o= .ea c l->(k,List.length l)∈lens os (an++ag)
 |[],m,m',h,_=>by
  simp only[Cv,aA]at h;subst h;exact⟨[],by simp,λag k hk=>by simp at hk⟩
 |(k,op)::r,m,m',h,hn=>by
  simp only[Cv]at h;rw[ai]at h;obtain⟨o,h1,h⟩:=h;split at h
  .rename_i c c' l;rw[ai]at h;obtain⟨l',h2,h⟩:=h;have hm:=(l5 r _ m' h).1;obtain⟨n2,b2,c2⟩:=D6 r _ m' h hn;refine⟨[⟨.sl c,l'⟩]++n2,by rw[b2,(fA _ _ _).1,aM],λag j hj=>?_⟩;simp only[aF,aN]at hj;simp only[cons_append,bQ,lens];by_cases hjk:j=k
   .subst hjk;refine⟨_,_,hn _ (hm.1 _ (nT _ _ _)),h1,λc2 l2 he=>?_⟩;injection he with e1 e2;subst e1;have e2:=eq_of_heq e2;subst e2;have:=congrArg List.length (ji h2).2;simp only[length_map]at this;rw[this];exact List.mem_cons_self
   .rcases hj with rfl |hj
    .exact(hjk rfl).elim
    .have⟨k',o',g1,g2,g3⟩:=c2 ag j hj;exact⟨k',o',g1,g2,λc l he=>eG _ (g3 c l he)⟩
  .rename_i kc vc tR tG l;rw[ai]at h;obtain⟨l',h2,h⟩:=h;have hm:=(l5 r _ m' h).1;obtain⟨n2,b2,c2⟩:=D6 r _ m' h hn;refine⟨[⟨.mp kc vc,l'⟩]++n2,by rw[b2,(fA _ _ _).1,aM],λag j hj=>?_⟩;simp only[aF,aN]at hj;simp only[cons_append,bQ,lens,List.drop_succ_cons,List.drop_zero];by_cases hjk:j=k
   .subst hjk;exact⟨_,_,hn _ (hm.1 _ (nT _ _ _)),h1,λc2 l2 he=>by cases he⟩
   .rcases hj with rfl |hj
    .exact(hjk rfl).elim
    .exact c2 ag j hj
  .rename_i sz rows sz' rows';split at h
   .have⟨m1,h2,h⟩:=ai.1 h;obtain⟨a1,n1,b1,c1⟩:=yP rows _ _ m1 h2;have hm:=(l5 r _ m' h).1;obtain⟨n2,b2,c2⟩:=D6 r _ m' h hn;refine⟨n1++n2,by rw[b2,b1,(fA _ _ _).1,aM],λag j hj=>?_⟩;simp only[aF,aN]at hj;have hd:(n1++n2++ag).drop (vZ rows).length=n2++ag:=(by rw[<- c1,aM,List.drop_left]);simp only[lens,hd];by_cases hjk:j=k
    .subst hjk;exact⟨_,_,hn _ (hm.1 _ (a1.1 _ (nT _ _ _))),h1,λc2 l2 he=>by cases he⟩
    .rcases hj with rfl |hj
     .exact(hjk rfl).elim
     .exact c2 ag j hj
   .cases h
  .cases h
theorem Jz:∀(os:U (Nat×OP X.ι))(L:U (DC X)),((lens os L).map (·.1)).Sublist (os.map (·.1))
 |[],_=>by simp[lens]
 |(k,.l c)::r,L=>by
  simp only[lens];split
  .exact(Jz r _).cons_cons _
  .exact List.nil_sublist _
 |(k,.m kc vc)::r,L=>by
  simp only[lens];exact(Jz r _).cons _
 |(k,.c sz rows)::r,L=>by
  simp only[lens];exact(Jz r _).cons _
theorem M7(hf:∀q∈NM,f q.1=q.2)(ho:∀q∈NM,∀c l,get q.1=some (.ea c l)->du q.2=l.length):∀(sl:U (Nat×Pt X.ι))(m m':MA X),Hq get env sl m=some m'->(∀ q∈m'.nm,q∈NM)->(∀ c∈m'.i7,c=true)->
 ∃an,m'.ez=m.ez++an/\∃es,(∀ ag,KZ du sl (an++ag)=es)/\(∀ p∈es,p.1∈sl.map (·.1)/\li (gb f (den (env p.1))) (den p.2)/\(∀ j∈bk (env p.1),DN NM j)/\(∀ j∈bk p.2,SN NM j))
 |[],m,m',h,_,_=>by
  simp only[Hq,aA]at h;subst h;exact⟨[],by simp,[],λag=>rfl,by simp⟩
 |(t,p)::r,m,m',h,hn,hc=>by
  simp only[Hq]at h;have⟨m1,h1,h⟩:=ai.1 h;have hm:=(Hw r m1 m' h).1;obtain⟨n1,a1,d',b1,c1,e1,g1⟩:=adR hf ho p _ m m1 h1 (λ q hq=>hn q (hm.1 q hq)) (λ q hq=>hc q (hm.2 q hq));have⟨n2,a2,es,b2,c2⟩:=M7 hf ho r m1 m' h hn hc;refine⟨n1++n2,by rw[a2,a1,aM],(t,d')::es,λag=>by simp only[KZ,aM,b1,b2],λq hq=>?_⟩;rcases aN.1 hq with rfl |hq
  .exact⟨by simp,c1,e1,g1⟩
  .have⟨i1,i2⟩:=c2 q hq;exact⟨by simp only[aF,aN];exact .inr i1,i2⟩
theorem aan{D:Nat->Prop}(f:Nat->Nat):∀rows:U (List Tree),ij D f (aI rows) (aI rows)
 |[]=>trivial
 |r::rs=>by
  refine⟨?_,aan f rs⟩
  induction r with
  |nil=>trivial
  |cons y ys ih=>exact⟨⟨by simp[refs],li.refl _⟩,ih⟩
theorem aao{a b c d:CT X.ι}{l:U (CT.T X.toSE a×CT.T X.toSE b)}{l':U (CT.T X.toSE c×CT.T X.toSE d)}(h:jB (.mp a b) (.mp c d) l=some l'):bH (.map c d l':bm X)=bH (.map a b l):=by
 have⟨e,h⟩:=rM h;injection e with e1 e2;subst e1;subst e2;subst h;rfl
theorem aap{D:Nat->Prop}(f:Nat->Nat){kc vc:CT X.ι}:∀l:U (CT.T X.toSE kc×CT.T X.toSE vc),ij D f (bH (.map kc vc l:bm X)).rows (bH (.map kc vc l:bm X)).rows
 |[]=>trivial
 |p::ps=>⟨⟨⟨by simp[zZ],by rw[V6];exact li.refl _⟩,⟨by simp[zZ],by rw[V6];exact li.refl _⟩,trivial⟩,aap f ps⟩
theorem Ad(hf:∀q∈NM,f q.1=q.2)(ho:∀q∈NM,∀c l,get q.1=some (.ea c l)->du q.2=l.length):∀(os:U (Nat×OP X.ι))(m m':MA X),Cv get os m=some m'->(∀ q∈m'.nm,q∈NM)->(∀ c∈m'.i7,c=true)->
 ∃an,m'.ez=m.ez++an/\∃xs,(∀ ag,dn du os (an++ag)=xs)/\(∀ p∈xs,p.1∈os.map (·.1)/\∃k' o o',p.2=some o'/\(k',p.1)∈NM/\get k'=some o/\(bH o').sz=(bH o).sz/\ij (DN NM) f (bH o).rows (bH o').rows/\(∀ j∈d6 o',SN NM j))
 |[],m,m',h,_,_=>by
  simp only[Cv,aA]at h;subst h;exact⟨[],by simp,[],λag=>rfl,by simp⟩
 |(k,op)::r,m,m',h,hn,hc=>by
  simp only[Cv]at h;rw[ai]at h;obtain⟨o,h1,h⟩:=h;split at h
  .rename_i c c' l;rw[ai]at h;obtain⟨l',h2,h⟩:=h;have hm:=(l5 r _ m' h).1;obtain⟨n2,a2,xs,b2,c2⟩:=Ad hf ho r _ m' h hn hc;refine⟨[⟨.sl c,l'⟩]++n2,by rw[a2,(fA _ _ _).1,aM],(k,some (.ea c l'))::xs,λag=>by simp only[cons_append,bQ,dn,b2],λq hq=>?_⟩;rcases aN.1 hq with rfl |hq
   .refine⟨by simp,_,_,_,rfl,hn _ (hm.1 _ (nT _ _ _)),h1,?_,?_,by simp[d6]⟩
    .simp only[bH,(ji h2).1]
    .simp only[bH,(ji h2).2];exact aan f _
   .have⟨i1,i2⟩:=c2 q hq;exact⟨by simp only[aF,aN];exact .inr i1,i2⟩
  .rename_i kc vc tR tG l;rw[ai]at h;obtain⟨l',h2,h⟩:=h;have hm:=(l5 r _ m' h).1;obtain⟨n2,a2,xs,b2,c2⟩:=Ad hf ho r _ m' h hn hc;refine⟨[⟨.mp kc vc,l'⟩]++n2,by rw[a2,(fA _ _ _).1,aM],(k,some (.map kc vc l'))::xs,λag=>by simp only[cons_append,bQ,dn,b2],λq hq=>?_⟩;rcases aN.1 hq with rfl |hq
   .refine⟨by simp,_,_,_,rfl,hn _ (hm.1 _ (nT _ _ _)),h1,?_,?_,by simp[d6]⟩
    .rw[aao h2]
    .rw[aao h2];exact aap f _
   .have⟨i1,i2⟩:=c2 q hq;exact⟨by simp only[aF,aN];exact .inr i1,i2⟩
  .rename_i sz rows sz' rows';split at h
   .rename_i hsz;have⟨m1,h2,h⟩:=ai.1 h;have hm1:=(yP rows _ _ m1 h2).1;have hm:=(l5 r _ m' h).1;obtain⟨n1,a1,qs,b1,c1,e1,g1⟩:=RD hf ho rows _ _ m1 h2 (λ q hq=>hn q (hm.1 q hq)) (λ q hq=>hc q (hm.2 q hq));obtain⟨n2,a2,xs,b2,c2⟩:=Ad hf ho r _ m' h hn hc;refine⟨n1++n2,by rw[a2,a1,(fA _ _ _).1,aM],(k,some (.cells sz qs))::xs,λag=>by simp only[aM,dn,b1,b2],λq hq=>?_⟩;rcases aN.1 hq with rfl |hq
    .exact⟨by simp,_,_,_,rfl,hn _ (hm.1 _ (hm1.1 _ (nT _ _ _))),h1,hsz,c1,g1⟩
    .have⟨i1,i2⟩:=c2 q hq;exact⟨by simp only[aF,aN];exact .inr i1,i2⟩
   .cases h
  .cases h
theorem ajr{d:DV X}(h:isU d=false)(h':d= .undef):False:=by subst h';cases h
theorem abI{A:Type}{sh:Sh X.ι}{ds:U Nat}{s0 s':df X}{k:VT (X:=X) sh.vars->J A}{r:A}(hl0:Low s0)(hx:Ext (· ∈ds) s0 s')(h:Pc sh ds s0 s' k=some r):
 ∃v,k v=some r/\Low (encS sh s0 v)/\Ext (· ∈ds) s0 (encS sh s0 v)/\∀(P:Program) (w0:World) (O0:j9) (N:Nat) (β:Nat->J cL) (I:Nat->Prop) (a:Act) (w:World),Rel P w0 O0 N β I s'.st a w->∃ β',Rel P w0 O0 N β' I (encS sh s0 v).st a w:=by
 unfold Pc at h;have⟨m1,h1,h⟩:=ai.1 h;have⟨m,h2,h⟩:=ai.1 h;have⟨h3,h⟩:=eu h;have⟨v,h4,h⟩:=ai.1 h;have⟨h5,h6⟩:=pJ h;simp only[okS,aL,aV]at h3;obtain⟨⟨⟨⟨⟨⟨⟨⟨n1,n2⟩,n3⟩,n4⟩,n5⟩,n6⟩,n7⟩,n8⟩,n9⟩:=h3;have hm2:=(l5 _ _ _ h2).1;have vn:=VK h4;obtain⟨_,nA,dA,lA⟩:=Hw _ _ _ h1;simp only[bQ]at dA;have Se:(m.nm.map (·.1)).Nodup:=(List.nodup_append.1 n1).1;have Sa:(m.nm.map (·.2)).Nodup:=(List.nodup_append.1 n2).1;have hsw:((m.nm.map λq=>(q.2,q.1)).map (·.1)).Nodup:=by rw[map_map];exact Sa
 generalize hf':(λ j=>match lk m.nm j with |some q=>q |none=>j:Nat->Nat)=f;generalize hg':(λ j=>match lk (m.nm.map λq=>(q.2,q.1)) j with |some q=>q |none=>j:Nat->Nat)=g;have hf:∀q∈m.nm,f q.1=q.2:=by
  rintro⟨p,q⟩ hq;rw[<- hf'];simp only[uX Se hq]
 have hg:∀q∈m.nm,g q.2=q.1:=by
  rintro⟨p,q⟩ hq;rw[<- hg'];have:(q,p)∈m.nm.map λq=>(q.2,q.1):=mem_map.2 ⟨(p,q),hq,rfl⟩;simp only[uX hsw this]
 have m9:∀j∈sh.de,f j=j:=by
  intro j hj;rw[<- hf'];cases hh:lk m.nm j with
  |none=>simp[hh]
  |some q=>exact((List.nodup_append.1 n1).2.2 j (mem_map.2 ⟨(j,q),rJ hh,rfl⟩) j hj rfl).elim
 have HG:∀j∈sh.de,g j=j:=by
  intro j hj;rw[<- hg'];cases hh:lk (m.nm.map λq=>(q.2,q.1)) j with
  |none=>simp[hh]
  |some q=>
   have h1:=rJ hh;simp only[mem_map]at h1;obtain⟨z,hz,e⟩:=h1;injection e with e1 e2;exact((List.nodup_append.1 n2).2.2 j (mem_map.2 ⟨z,hz,e1⟩) j hj rfl).elim
 have hg0:∀j,j<1000->g j=j:=by
  intro j hj;rw[<- hg'];cases hh:lk (m.nm.map λq=>(q.2,q.1)) j with
  |none=>simp[hh]
  |some q=>
   have h1:=rJ hh;simp only[mem_map]at h1;obtain⟨z,hz,e⟩:=h1;injection e with e1 e2;have:=all_eq_true.1 n4 z hz;simp only[aL,Bool.or_eq_true,aV]at this;simp only[hh];omega
 have hgf:∀j,(DN m.nm j\/j∈sh.de)->g (f j)=j:=by
  rintro j (⟨q,hq⟩ |hj)
  .rw[hf _ hq];exact hg _ hq
  .rw[m9 j hj];exact HG j hj
 obtain⟨nB,dB,lB⟩:=D6 (NM:=m.nm) _ _ _ h2 (λ q hq=>hq);have hL:m.ez=nA++nB:=by rw[dB,dA]
 have hdrop:(wh sh.vars v).drop (gS sh.slots).length=nB:=by rw[vn,hL,<- lA,List.drop_left]
 have htake:(wh sh.vars v).take (gS sh.slots).length=nA:=by rw[vn,hL,<- lA,List.take_left]
 generalize hol:(λ k=>(lk (lens sh.cE nB) k).getD 0:Nat->Nat)=du;have ho:∀q∈m.nm,∀c l,gE s'.obj q.1=some (.ea c l)->du q.2=l.length:=by
  rintro⟨p,q⟩ hq c l hl;have hqk:=all_eq_true.1 n4 _ hq;simp only[aL]at hqk;obtain⟨p',o,g1,g2,g3⟩:=lB [] q (by simpa using hqk.1.1);have:p'=p:=by
   have e1:=hg _ g1;have e2:=hg _ hq;simp only at e1 e2;rw[<- e1,e2]
  subst this;simp only at hl;rw[hl]at g2;injection g2 with g2;have h3:=g3 c l g2.symm;rw[append_nil]at h3;rw[<- hol];have hk:=(Jz sh.cE nB).nodup n3;simp only[uX hk h3,Option.getD_some]
 obtain⟨P4,It,es,eA,pA⟩:=M7 (NM:=m.nm) (f:=f) (du:=du) hf ho _ _ _ h1 (λ q hq=>hm2.1 q hq) (λ c hc=>h5 c (hm2.2 c hc));obtain⟨P3,Up,xs,eB,pB⟩:=Ad (NM:=m.nm) (f:=f) (du:=du) hf ho _ _ _ h2 (λ q hq=>hq) h5;have T6:P4=nA:=by simp only[bQ]at It;rw[<- It,dA]
 have T5:P3=nB:=List.append_cancel_left (Up.symm.trans dB);subst T6 T5;have In:=eA [];have If:=eB [];rw[append_nil]at In If;have hS:encS sh s0 v=⟨es++sh.keep.map (λ t=>(t,eQ s0.env t)),xs++sh.de.map (λ k=>(k,gE s0.obj k)),sh.nx,(List.range s0.nx).filter (λ k=>!sh.de.contains k)++s0.log⟩:=by simp only[encS,hdrop,htake,hol,In,If]
 have hsn:∀j,SN m.nm j->j<sh.nx:=by
  rintro j ⟨p,hp⟩;have:=all_eq_true.1 n4 _ hp;simp only[aL,aV]at this;exact this.1.2
 have kp:∀j,(sh.de.contains j || m.nm.contains (j,j))=true->j∈sh.de\/(j,j)∈m.nm:=by
  intro j hj;simpa using hj
 have hfp:∀j,j∈sh.de\/(j,j)∈m.nm->f j=j:=λj hj=>hj.elim (m9 j) (λ h=>hf (j,j) h);have hdp:∀j,j∈sh.de\/(j,j)∈m.nm->DN m.nm j\/j∈sh.de:=λj hj=>hj.elim .inr (λ h=> .inl ⟨j,h⟩);have hko:∀j∈sh.de,j<s0.nx/\(∃ o,gE s0.obj j=some o/\gE s'.obj j=some o/\∀i∈d6 o,i∈sh.de\/(i,i)∈m.nm):=by
  intro j hj;have:=all_eq_true.1 n7 _ hj;simp only[aL,aV,Bool.not_eq_true']at this;obtain⟨⟨⟨a1,a2⟩,a3⟩,a4⟩:=this;refine⟨a1,?_⟩;cases ho0:gE s0.obj j with
  |none=>rw[ho0]at a4;cases a4
  |some o=>
   rw[ho0]at a4;refine⟨o,rfl,?_,λi hi=>kp i (all_eq_true.1 a4 i hi)⟩;obtain⟨d,hd,hd2⟩:=hx.obj;have hnd:j∉d:=by
    have e:s'.log.take (s'.log.length -s0.log.length)=d:=(by rw[hd,dM,Nat.add_sub_cancel,List.take_left]);rw[e]at a2;simpa using a2
   rcases hd2 j a1 hnd with h |h
   .rw[h,ho0]
   .rw[h]at a3;cases a3
 have hke:∀t∈sh.keep,t∉ds/\eQ s'.env t=eQ s0.env t/\∀j∈bk (eQ s0.env t),j∈sh.de\/(j,j)∈m.nm:=by
  intro t ht;have:=all_eq_true.1 n6 _ ht;simp only[aL,Bool.not_eq_true']at this;obtain⟨⟨a1,a2⟩,a3⟩:=this;have a1':t∉ds:=by simpa using a1
  refine⟨a1',?_,λj hj=>kp j (all_eq_true.1 a3 j hj)⟩;rcases hx.env t a1' with h |h
  .exact h
  .exact(ajr a2 h).elim
 have hks:∀q∈es,q.1∈ds:=by
  intro q hq;have h1:=(pA q hq).1;obtain⟨z,hz,e⟩:=mem_map.1 h1;have:=all_eq_true.1 n5 _ hz;rw[<- e];simpa using this
 have hkeep:∀t,lk (sh.keep.map λt=>(t,eQ s0.env t)) t=if t∈sh.keep then some (eQ s0.env t)else none:=by
  intro t
  induction sh.keep with
  |nil=>simp[lk]
  |cons q qs ih=>
   simp only[aF,lk,ih,aN];by_cases e:q=t
   .subst e;simp
   .rw[aR e];simp[Ne.symm e]
 have BC:∀t,lk (sh.de.map λt=>(t,gE s0.obj t)) t=if t∈sh.de then some (gE s0.obj t)else none:=by
  intro t
  induction sh.de with
  |nil=>simp[lk]
  |cons q qs ih=>
   simp only[aF,lk,ih,aN];by_cases e:q=t
   .subst e;simp
   .rw[aR e];simp[Ne.symm e]
 have ra:∀t,(∃ d,(t,d)∈es/\eQ (encS sh s0 v).env t=d)\/(t∈sh.keep/\eQ (encS sh s0 v).env t=eQ s0.env t)\/eQ (encS sh s0 v).env t= .undef:=by
  intro t;have e1:eQ (encS sh s0 v).env t=(match lk es t with |some d=>some d |none=>if t∈sh.keep then some (eQ s0.env t)else none).getD .undef:=by
   rw[hS];show(lk (es++sh.keep.map (λ t=>(t,eQ s0.env t))) t).getD .undef=_;rw[CB,hkeep t];cases lk es t<;>rfl
  rw[e1];cases he:lk es t with
  |some d=>exact .inl ⟨d,rJ he,rfl⟩
  |none=>
   by_cases ht:t∈sh.keep
   .simp only[aY ht];exact .inr (.inl ⟨ht,rfl⟩)
   .simp only[aR ht];exact .inr (.inr rfl)
 have gA:∀j o,gE (encS sh s0 v).obj j=some o->(∃ k' o1,(k',j)∈m.nm/\gE s'.obj k'=some o1/\(bH o).sz=(bH o1).sz/\ij (DN m.nm) f (bH o1).rows (bH o).rows/\(∀ i∈d6 o,SN m.nm i))\/(j∈sh.de/\gE s0.obj j=some o):=by
  intro j o hjo;have e1:gE (encS sh s0 v).obj j=(match lk xs j with |some d=>some d |none=>if j∈sh.de then some (gE s0.obj j)else none).join:=by
   rw[hS];show(lk (xs++sh.de.map (λ k=>(k,gE s0.obj k))) j).join=_;rw[CB,BC j];cases lk xs j<;>rfl
  rw[e1]at hjo;cases he:lk xs j with
  |some x=>
   rw[he]at hjo;obtain⟨_,k',o1,o',b1,b2,b3,b4,b5,b6⟩:=pB _ (rJ he);simp only at b1 b2 hjo;subst b1;simp only[Option.join_some,aA]at hjo;subst hjo;exact .inl ⟨k',o1,b2,b3,b4,b5,b6⟩
  |none=>
   rw[he]at hjo;by_cases hj:j∈sh.de
   .simp only[aY hj,Option.join_some]at hjo;exact .inr ⟨hj,hjo⟩
   .simp[aR hj]at hjo
 have hnx:s0.nx<=sh.nx:=n8;have hkx:∀j,j∈sh.de\/(j,j)∈m.nm->j<sh.nx:=λj hj=>hj.elim (λ hj=>Nat.lt_of_lt_of_le (hko j hj).1 hnx) (λ h=>hsn j ⟨j,h⟩);have hRW:∀{r q:U AV},mS (DN m.nm) f r q->mS (λ j=>DN m.nm j\/j∈sh.de) f r q:=by
  intro r
  induction r with
  |nil=>intro q h;cases q with
   |nil=>trivial
   |cons=>exact h.elim
  |cons x xs ih=>intro q h;cases q with
   |nil=>exact h.elim
   |cons y ys=>exact⟨⟨λ k hk=> .inl (h.1.1 k hk),h.1.2⟩,ih h.2⟩
 have S4:∀{r q:U (List AV)},ij (DN m.nm) f r q->ij (λ j=>DN m.nm j\/j∈sh.de) f r q:=by
  intro r
  induction r with
  |nil=>intro q h;cases q with
   |nil=>trivial
   |cons=>exact h.elim
  |cons x xs ih=>intro q h;cases q with
   |nil=>exact h.elim
   |cons y ys=>exact⟨hRW h.1,ih h.2⟩
 refine⟨v,h6,?_,?_,?_⟩
 .constructor
  .rw[hS];exact n9
  .rw[hS];exact Nat.le_trans hl0.ge n8
  .intro t j hj;have A4:(encS sh s0 v).nx=sh.nx:=(by rw[hS]);rw[A4];rcases ra t with ⟨d,h1,h2⟩ |⟨h1,h2⟩ |h2
   .rw[h2]at hj;exact hsn j ((pA _ h1).2.2.2 j hj)
   .rw[h2]at hj;exact hkx j ((hke t h1).2.2 j hj)
   .rw[h2]at hj;simp[bk]at hj
  .intro j o hjo;have A4:(encS sh s0 v).nx=sh.nx:=(by rw[hS]);rw[A4];rcases gA j o hjo with ⟨k',o1,b1,b2,b3,b4,b5⟩ |⟨b1,b2⟩
   .exact⟨hsn j ⟨k',b1⟩,λi hi=>hsn i (b5 i hi)⟩
   .have⟨c1,o',c2,c3,c4⟩:=hko j b1;rw[b2]at c2;cases c2;exact⟨hkx j (.inl b1),λi hi=>hkx i (c4 i hi)⟩
 .refine⟨λ t ht=>?_,⟨(List.range s0.nx).filter (λ k=>!sh.de.contains k),by rw[hS],λj hj hn=>?_⟩,by rw[hS];exact hnx⟩
  .rcases ra t with ⟨d,h1,h2⟩ |⟨h1,h2⟩ |h2
   .exact(ht (hks _ h1)).elim
   .exact .inl h2
   .exact .inr h2
  .have hjk:j∈sh.de:=(by simpa[hj]using hn);cases hjo:gE (encS sh s0 v).obj j with
   |none=>exact .inr rfl
   |some o=>
    rcases gA j o hjo with ⟨k',o1,b1,_⟩ |⟨b1,b2⟩
    .exact((List.nodup_append.1 n2).2.2 j (mem_map.2 ⟨(k',j),b1,rfl⟩) j hjk rfl).elim
    .exact .inl b2.symm
 .intro P w0 O0 N β I a w hr;refine⟨_,Rel.re (f:=f) (g:=g) (D:=λj=>DN m.nm j\/j∈sh.de) hgf hg0 hr (λ _=> .inl rfl) (λ _=>rfl) (λ t=>?_) (λ j o' hj=>?_)⟩
  .show den (eQ (encS sh s0 v).env t)= .undef\/((∀ k∈refs (den (eQ s'.env t)),_)/\li (gb f (den (eQ s'.env t))) (den (eQ (encS sh s0 v).env t)));rcases ra t with ⟨d,h1,h2⟩ |⟨h1,h2⟩ |h2
   .right;rw[h2];obtain⟨_,b1,b2,_⟩:=pA _ h1;exact⟨λ k hk=> .inl (b2 k (by rwa [iT]at hk)),b1⟩
   .right;have⟨_,b1,b2⟩:=hke t h1;rw[h2,b1];refine⟨λ k hk=>hdp k (b2 k (by rwa [iT]at hk)),?_⟩;rw[<- Aa,Ws _ (λ k hk=>hfp k (b2 k hk))];exact li.refl _
   .left;rw[h2];rfl
  .simp only[df.st,dI]at hj;obtain⟨o,hjo,rfl⟩:=hj;rcases gA j o hjo with ⟨k',o1,b1,b2,b3,b4,b5⟩ |⟨b1,b2⟩
   .exact⟨k',bH o1,by simp[df.st,b2],.inl ⟨j,b1⟩,hf _ b1,b3,S4 b4⟩
   .have⟨c1,o',c2,c3,c4⟩:=hko j b1;rw[b2]at c2;cases c2;have hid:oT f o=o:=by
     cases o with
     |ea c l=>rfl
     |map kc vc l=>rfl
     |cells sz rows=>
      simp only[oT];congr 1;have:∀q∈rows,JY f q=q:=λq hq=>Ac q λi hi=>hfp i (c4 i (by
       simp only[d6,List.mem_flatten,mem_map];exact⟨_,⟨q,hq,rfl⟩,hi⟩))
      rw[map_congr_left this];simp
    obtain⟨r1,r2⟩:=Jy (D:=λj=>DN m.nm j\/j∈sh.de) f o (λ i hi=>hdp i (c4 i hi));rw[hid]at r1 r2;exact⟨j,bH o,by simp[df.st,c3],.inr b1,m9 j b1,r1,r2⟩
theorem Ext.trans{ds:Nat->Prop}{a b c:df X}(h:Ext ds a b)(h':Ext ds b c):Ext ds a c:=by
 refine⟨λ t ht=>?_,?_,Nat.le_trans h.nx h'.nx⟩
 .rcases h'.env t ht with h1 |h1
  .rcases h.env t ht with h2 |h2
   .exact .inl (h1.trans h2)
   .exact .inr (h1.trans h2)
  .exact .inr h1
 .obtain⟨d,h1,h2⟩:=h.obj;obtain⟨d',h3,h4⟩:=h'.obj;refine⟨d'++d,by rw[h3,h1,aM],λk hk hn=>?_⟩;simp only[aZ,not_or]at hn;rcases h4 k (Nat.lt_of_lt_of_le hk h.nx) hn.1 with h5 |h5
  .rcases h2 k hk hn.2 with h6 |h6
   .exact .inl (h5.trans h6)
   .exact .inr (h5.trans h6)
  .exact .inr h5
theorem Ext.refl(ds:Nat->Prop)(s:df X):Ext ds s s:=⟨λ _ _=> .inl rfl,⟨[],by simp,λ_ _ _=> .inl rfl⟩,aC _⟩
def Says(s s':df X):Prop:=∀(P:Program) (w0:World) (O0:j9) (N:Nat) (β:Nat->J cL) (I:Nat->Prop) (a:Act) (w:World),Rel P w0 O0 N β I s.st a w->∃ β',Rel P w0 O0 N β' I s'.st a w
theorem Low.room{s:df X}{P:Program}{w0:World}{O0:j9}{N:Nat}{β:Nat->J cL}{I:Nat->Prop}{a:Act}{w:World}(hl:Low s)(hr:Rel P w0 O0 N β I s.st a w):∃ β2,β2 s.nx=none/\Rel P w0 O0 N β2 I s.st a w:=by
 have hr1:=hr.restrict hl.old
 have hr2:=Rel.re (f:=id) (g:=λj=>if j<s.nx then j else 1000000) (D:=(· <s.nx)) (s':=s.st) (λ k hk=>aY hk) (λ j hj=>aY (by have:=hl.ge;omega)) hr1 (λ _=> .inl rfl) (λ _=>rfl)
  (λ q=> .inr ⟨λ k hk=>hl.env q k (by rw[<- iT];exact hk),by
   show li (gb id (den (eQ s.env q))) (den (eQ s.env q));rw[<- Aa,Ws (f:=id) _ (λ _ _=>rfl)];exact li.refl _⟩)
  (λ j o' hj=>by
   simp only[df.st,dI]at hj;obtain⟨x,hx,rfl⟩:=hj;have⟨h1,h2⟩:=hl.obj j x hx;have⟨r1,r2⟩:=Jy (D:=(· <s.nx)) id x h2;have hid:oT id x=x:=by
    cases x with
    |ea c l=>rfl
    |map kc vc l=>rfl
    |cells sz rows=>
     simp only[oT];congr 1;have:∀q∈rows,JY id q=q:=λq _=>Ac (f:=id) q λ_ _=>rfl;rw[map_congr_left this];simp
   rw[hid]at r1 r2;exact⟨j,bH x,by simp[df.st,hx],h1,rfl,r1,r2⟩)
 exact⟨_,by simp,hr2⟩
theorem anb(z:Bool)(k:Nat):bk (nz (X:=X) z k)=[k]:=by cases z<;>rfl
theorem Wu{ds:U Nat}{z:Bool}{s:df X}{t:Nat}{c:CT X.ι}(hl:Low s)(ht:t∈ds):Low (z7 z s t c)/\Ext (· ∈ds) s (z7 z s t c)/\Says s (z7 z s t c):=by
 unfold z7;split
 .rename_i hn;split
  .rename_i hlt;have he:∀q,eQ ((t,nz z s.nx)::s.env) q=if t=q then nz z s.nx else eQ s.env q:=λq=>by
    simp only[eQ,lk];by_cases e:t=q<;>simp[e]
   have hO:∀q,gE ((s.nx,some (.ea c []))::s.obj) q=if s.nx=q then some (.ea c [])else gE s.obj q:=λq=>by
    simp only[gE,lk];by_cases e:s.nx=q<;>simp[e]
   refine⟨⟨by show s.nx+1<=1000000;omega,by have:=hl.ge;show 1000<=s.nx+1;omega,λq k hk=>?_,λk o ho=>?_⟩,⟨λ q hq=>?_,⟨[s.nx],rfl,λk hk hnk=>?_⟩,by show s.nx<=s.nx+1;omega⟩,λP w0 O0 N β I a w hr=>?_⟩
   .rw[he]at hk;split at hk
    .simp only[anb,aQ]at hk;subst hk;show s.nx<s.nx+1;omega
    .have:=hl.env q k hk;show k<s.nx+1;omega
   .rw[hO]at ho;split at ho
    .rename_i e;cases ho;subst e;exact⟨by show s.nx<s.nx+1;omega,by simp[d6]⟩
    .have⟨h1,h2⟩:=hl.obj k o ho;exact⟨by show k<s.nx+1;omega,λj hj=>by have:=h2 j hj;show j<s.nx+1;omega⟩
   .left;rw[he,aR];intro e;subst e;exact hq ht
   .left;rw[hO,aR (by omega)]
   .have⟨β2,E0,hr2⟩:=hl.room hr;have⟨hS,hM⟩:=Mem.pw (i:=s.nx) (o:=bH (.ea c []:bm X)) hr2.mem E0 rfl;refine⟨ins β2 s.nx .none,hr2.defers,hr2.size,λq=>?_,?_⟩
    .have h1:=hr2.env q;show eK P _ w I (den (eQ ((t,nz z s.nx)::s.env) q)) none _;rw[he];by_cases e:t=q
     .subst e;rw[aY rfl];have h2:VR P _ w I (den (eQ s.env t)) (a.tmps.getD t undef):=h1;rw[hn]at h2;simp only[den,VR]at h2;cases z with
      |false=>simp only[eK,nz,ak,den,VR];exact .inl ⟨by simp[ins],h2,trivial,trivial⟩
      |true=>simp only[eK,nz,aj,den,VR];exact .inl ⟨trivial,h2⟩
     .rw[aR e];exact eK.mono hS.ext hS.same hS.inc h1
    .have e:(λ k=>(gE ((s.nx,some (.ea c []))::s.obj) k).map bH)=cO s.st.obj [(s.nx,some (bH (.ea c []:bm X)))]:=by
      funext q;simp only[cO,df.st];rw[hO];by_cases e:s.nx=q
      .simp[e]
      .rw[aR e,aR (Ne.symm e)]
     show Mem P w0 O0 _ I (λ k=>(gE ((s.nx,some (.ea c []))::s.obj) k).map bH) w;rw[e];exact hM
  .exact⟨hl,Ext.refl _ s,λ_ _ _ _ β _ _ _ h=>⟨β,h⟩⟩
 .exact⟨hl,Ext.refl _ s,λ_ _ _ _ β _ _ _ h=>⟨β,h⟩⟩
theorem Wv(y:DV X):∀(l:U (DV X))(j i:Nat),i∈aP (l.set j y)->i∈aP l\/i∈bk y
 |[],_,_,h=> .inl (by simpa using h)
 |x::l,0,i,h=>by
  simp only[List.set,aP,aZ]at h ⊢;rcases h with h |h
  .exact .inr h
  .exact .inl (.inr h)
 |x::l,j+1,i,h=>by
  simp only[List.set,aP,aZ]at h ⊢;rcases h with h |h
  .exact .inl (.inl h)
  .rcases Wv y l j i h with h |h
   .exact .inl (.inr h)
   .exact .inr h
theorem aE.set{P:Program}{β:Nat->J cL}{w:World}{I:Nat->Prop}{y:AV}:∀(xs:U AV)(vs:U Value)(j:Nat),(∀ x v,xs[j]? =some x->VR P β w I x v->VR P β w I y v)->aE P β w I xs vs->aE P β w I (xs.set j y) vs
 |[],vs,_,_,h=>by simpa using h
 |x::xs,[],_,_,h=>by simp[aE]at h
 |x::xs,v::vs,0,hy,h=>by simp only[aE,List.set]at h ⊢;exact⟨hy x v rfl h.1,h.2⟩
 |x::xs,v::vs,j+1,hy,h=>by simp only[aE,List.set]at h ⊢;exact⟨h.1,aE.set xs vs j (λ x v e=>hy x v (by simpa using e)) h.2⟩
theorem OR.set1{P:Program}{β:Nat->J cL}{w:World}{I:Nat->Prop}{sz:Nat}{row:U AV}{j:Nat}{y:AV}{B:cL}(hy:∀x v,row[j]? =some x->VR P β w I x v->VR P β w I y v)(h:OR P β w I ⟨sz,[row]⟩ B):OR P β w I ⟨sz,[row.set j y]⟩ B:=by
 cases B with
 |none=>simp[OR]at h
 | «at» b s n=>
  obtain⟨h1,c,e,h2,h3,h4⟩:=h;refine⟨h1,c,e,h2,h3,?_⟩;simp only[br,List.length_set]at h4 ⊢;refine⟨h4.1,?_,trivial⟩;rw[jA]at h4 ⊢;intro i x hx;rw[List.getElem?_set]at hx;split at hx
  .rename_i e;subst e;split at hx
   .cases hx;rename_i hlt;obtain⟨v,g1,g2,g3⟩:=h4.2.1 j _ (dL hlt);exact⟨v,g1,hy _ v (dL hlt) g2,g3⟩
   .cases hx
  .exact h4.2.1 i x hx
 |mp b=>
  obtain⟨es,cl,h1,hle,h2,h3⟩:=h;refine⟨es,cl,h1,hle,λe=>?_,h3⟩;have:=h2 e
  match hes:es.toList,this with
  |[e1],this=>simp only[cp]at this ⊢;exact⟨aE.set _ _ j hy this.1,trivial⟩
  |[],this=>simp[cp]at this
  |_::_::_,this=>simp[cp]at this
theorem adS(y:DV X):∀(l:U (DV X))(j:Nat),bO (l.set j y)=(bO l).set j (den y)
 |[],_=>by simp[bO]
 |x::l,0=>by simp[bO]
 |x::l,j+1=>by simp[bO,adS y l j]
theorem agr{ds:U Nat}{s:df X}{q j:Nat}{c:CT X.ι}(hl:Low s):Low (Fi s q j c)/\Ext (· ∈ds) s (Fi s q j c)/\Says s (Fi s q j c):=by
 unfold Fi;split
 .rename_i sz row hq;split
  .rename_i hn;split
   .rename_i hlt;have hqn:q<s.nx:=(hl.obj q _ hq).1;have hrefs:∀k∈aP row,k<s.nx:=λk hk=>(hl.obj q _ hq).2 k (by simpa[d6]using hk);have hO:∀k,gE ((q,some (.cells sz [row.set j (.own s.nx 0 0)]))::(s.nx,some (.ea c []))::s.obj) k=if q=k then some (.cells sz [row.set j (.own s.nx 0 0)])else if s.nx=k then some (.ea c [])else gE s.obj k:=λk=>by
     simp only[gE,lk];by_cases e:q=k
     .simp[e]
     .by_cases e':s.nx=k<;>simp[e,e']
    refine⟨⟨by show s.nx+1<=1000000;omega,by have:=hl.ge;show 1000<=s.nx+1;omega,λk i hk=>by have:=hl.env k i hk;show i<s.nx+1;omega,λk o ho=>?_⟩,⟨λ _ _=> .inl rfl,⟨[q,s.nx],rfl,λk hk hnk=>?_⟩,by show s.nx<=s.nx+1;omega⟩,λP w0 O0 N β I a w hr=>?_⟩
    .rw[hO]at ho;split at ho
     .rename_i e;cases ho;subst e;refine⟨by show q<s.nx+1;omega,λi hi=>?_⟩;show i<s.nx+1;simp only[d6,aF,map_nil,flatten_cons,List.flatten_nil,append_nil]at hi;rcases Wv _ _ _ _ hi with h1 |h1
      .have:=hrefs i h1;omega
      .simp only[bk,aQ]at h1;omega
     .split at ho
      .rename_i e;cases ho;subst e;exact⟨by show s.nx<s.nx+1;omega,by simp[d6]⟩
      .have⟨h1,h2⟩:=hl.obj k o ho;exact⟨by show k<s.nx+1;omega,λi hi=>by have:=h2 i hi;show i<s.nx+1;omega⟩
    .left;simp only[aN,fD,or_false,not_or]at hnk;rw[hO,aR (Ne.symm hnk.1),aR (Ne.symm hnk.2)]
    .have⟨β2,E0,hr2⟩:=hl.room hr;have⟨hS,hM⟩:=Mem.pw (i:=s.nx) (o:=bH (.ea c []:bm X)) hr2.mem E0 rfl;refine⟨ins β2 s.nx .none,hr2.defers,hr2.size,λk=>eK.mono hS.ext hS.same hS.inc (hr2.env k),?_⟩;refine hM.weak λk o' ho=>?_;simp only[df.st]at ho;rw[hO]at ho;by_cases e:q=k
     .subst e;rw[aY rfl,Option.map_some]at ho;cases ho;refine⟨bH (.cells sz [row]),by simp only[cO];rw[aR (by omega)];simp[df.st,hq],λB _ hB=>?_⟩;simp only[bH,aF,map_nil,adS]at hB ⊢;refine OR.set1 (λ x v hx hv=>?_) hB;rw[nR,List.getElem?_map,hn]at hx;cases hx;simp only[den,VR]at hv ⊢;exact .inl ⟨by simp[ins],hv,trivial,trivial⟩
     .rw[aR e]at ho;refine⟨o',?_,λ_ _ h=>h⟩;simp only[cO];by_cases e':s.nx=k
      .subst e';rw[aY rfl]at ho ⊢;simpa using ho
      .rw[aR e']at ho;rw[aR (Ne.symm e')];exact ho
   .exact⟨hl,Ext.refl _ s,λ_ _ _ _ β _ _ _ h=>⟨β,h⟩⟩
  .exact⟨hl,Ext.refl _ s,λ_ _ _ _ β _ _ _ h=>⟨β,h⟩⟩
 .exact⟨hl,Ext.refl _ s,λ_ _ _ _ β _ _ _ h=>⟨β,h⟩⟩
theorem M8{ds:U Nat}:∀(l:U (Nat×CT X.ι)){s:df X},Low s->(∀ p∈l,(bif Nat.ble 1000000 p.1 then !Nat.ble 1099511627776 p.1 || ds.contains (p.1 -1099511627776)else ds.contains p.1)=true)->Low (PS l s)/\Ext (· ∈ds) s (PS l s)/\Says s (PS l s)
 |[],s,hl,_=>⟨hl,Ext.refl _ s,λ_ _ _ _ β _ _ _ h=>⟨β,h⟩⟩
 |(t,c)::r,s,hl,hd=>by
  generalize hs:(bif Nat.ble 1000000 t then bif Nat.ble 1099511627776 t then z7 true s (t -1099511627776) c else Fi s ((t -1000000)/4096) ((t -1000000)%4096) c else z7 false s t c)=s1;have h0:Low s1/\Ext (· ∈ds) s s1/\Says s s1:=by
   have hd0:=hd (t,c) (by simp);simp only at hd0;subst hs;cases hb:Nat.ble 1000000 t with
   |true=>
    rw[hb]at hd0;cases hb2:Nat.ble 1099511627776 t with
    |true=>rw[hb2]at hd0;exact Wu hl (by simpa using hd0)
    |false=>exact agr hl
   |false=>rw[hb]at hd0;exact Wu hl (by simpa using hd0)
  obtain⟨h1,h2,h3⟩:=h0;simp only[PS,hs];obtain⟨g1,g2,g3⟩:=M8 r h1 (λ p hp=>hd p (by simp[hp]));refine⟨g1,h2.trans g2,λP w0 O0 N β I a w hr=>?_⟩;have⟨β',hr'⟩:=h3 P w0 O0 N β I a w hr;exact g3 P w0 O0 N β' I a w hr'
theorem kZ{A:Type}{sh:Sh X.ι}{ds:U Nat}{s0 s':df X}{k:VT (X:=X) sh.vars->J A}{r:A}(hl0:Low s0)(hl':Low s')(hx:Ext (· ∈ds) s0 s')(h:qj sh ds s0 s' k=some r):
 ∃v,k v=some r/\Low (encS sh s0 v)/\Ext (· ∈ds) s0 (encS sh s0 v)/\Says s' (encS sh s0 v):=by
 unfold qj at h;have⟨h1,h2⟩:=eu h;obtain⟨g1,g2,g3⟩:=M8 (ds:=ds) sh.AM hl' (λ p hp=>all_eq_true.1 h1 p hp);have⟨v,i1,i2,i3,i4⟩:=abI hl0 (hx.trans g2) h2;refine⟨v,i1,i2,i3,λP w0 O0 N β I a w hr=>?_⟩;have⟨β',hr'⟩:=g3 P w0 O0 N β I a w hr;exact i4 P w0 O0 N β' I a w hr'
end
def gI:Code->U Nat
 | .region _ al _=>al.toList.filterMap (·.dst)
 | .seq a b=>gI a++gI b
 | .cond _ a b=>gI a++gI b
 | .block _ b=>gI b
 | .loop b=>gI b
 |_=>[]
section
variable {X:SX}
section
variable {P:Program} {N:Nat}
def KH{A:Type}(ds:U Nat)(s:df X)(k:Exit->df X->J A)(r:A)(e:Exit)(σ:St):Prop:=∃s',Low s'/\Ext (· ∈ds) s s'/\σ=s'.st/\k e s'=some r
theorem aik{c:Code}{Q Q':Exit->St->Prop}{σ:St}(h:Ev P N c Q σ)(ht:∀e σ,Q e σ->∀w0 O0 β I a w,Rel P w0 O0 N β I σ a w->∃ β' σ',Rel P w0 O0 N β' I σ' a w/\tE σ'/\Q' e σ'):Ev P N c Q' σ:=by
 intro w0 O0 β I a w hr ho;refine wp_mono (h w0 O0 β I a w hr ho) ?_;rintro e a' w' ⟨β',I',σ',h1,_,h3⟩;have⟨β2,σ2,g1,g2,g3⟩:=ht e σ' h3 w0 O0 β' I' a' w' h1;exact⟨β2,I',σ2,g1,g2,g3⟩
end
end
inductive Hn(ι:Type) where
 |z
 |f (l:List Nat)
 |s (a b:Hn ι)
 |b (a:Hn ι)
 |j (sh:Sh ι) (a:Hn ι)
 |jx (sh:Sh ι) (a:Hn ι)
 |l (head:Sh ι) (id:Nat) (ab:Sh ι) (a:Hn ι)
 |lx (head:Sh ι) (id:Nat) (ab:Sh ι) (a:Hn ι)
 |rg (head:Sh ι) (a:Hn ι)
 |un (a r:Hn ι)
def Hn.fz{ι:Type}:Hn ι->U Nat
 | .f is=>is
 |_=>[]
def Hn.fst{ι:Type}:Hn ι->Hn ι
 | .s a _=>a
 |_=> .z
def Hn.snd{ι:Type}:Hn ι->Hn ι
 | .s _ y=>y
 |_=> .z
def Hn.sub{ι:Type}:Hn ι->Hn ι
 | .b a=>a
 |_=> .z
def iter{V O:Type}(step:V->J (V⊕O)):Nat->V->J O
 | 0,_=>none
 |n+1,v=>(step v).bind λr=>match r with
  | .inl v=>iter step n v
  | .inr o=>some o
def Ly{X:SX}{A:Type}(body:Hn X.ι->df X->(Exit->df X->J A)->J A):Hn X.ι->df X->(Exit->df X->J A)->J A
 | .un a r,s,k=>body a s λe s'=>match e with
  | .normal=>Ly body r s' k
  |e=>k e s'
 |_,_,_=>none
def dw{W A:Type}(o:J (W⊕A))(f:W->J A):J A:=o.bind λr=>match r with
 | .inl w=>f w
 | .inr a=>some a
noncomputable def both{A:Type}(x y:J A):J A:=open Classical in if x=y then x else none
theorem ajs{A:Type}{x y:J A}{r:A}(h:both x y=some r):x=some r/\y=some r:=by
 unfold both at h;split at h
 .rename_i e;exact⟨h,e ▸ h⟩
 .cases h
theorem ajt{A:Type}(x:J A):both x x=x:=by simp[both]
section
variable {X:SX}
def Gk(ds:U Nat)(s:df X)(h:Hn X.ι){A:Type}(k:Exit->df X->J A)(body:(B:Type)->Hn X.ι->(Exit->df X->J B)->J B):J A:=
 match h with
 | .j sh h'=>(body (VT (X:=X) sh.vars) h' λe s'=>match e with
  | .normal=>qj sh ds s s' some
  |_=>none).bind λv=>k .normal (encS sh s v)
 | .jx sh h'=>dw (body (VT (X:=X) sh.vars⊕A) h' λe s'=>match e with
  | .normal=>qj sh ds s s' λv=>some (.inl v)
  |e=>(k e s').map .inr) λv=>k .normal (encS sh s v)
 |h=>body A h k
variable (Γ:FuncId->Option (b7 X)) (T:eb) (am:TypeId->Option (CT X.ι)) (N n:Nat)
noncomputable def run:Code->(A:Type)->Hn X.ι->df X->(Exit->df X->J A)->J A
 | .skip,_,_,s,k=>k .normal s
 | .region id al d,A,h,s,k=>Gk (gI (.region id al d)) s h k λ_ h k=>X1 Γ h.fz T am N al d s (k .normal)
 | .seq x y,A,h,s,k=>Gk (gI (.seq x y)) s h k λB h k=>run x B h.fst s λe s'=>match e with
  | .normal=>run y B h.snd s' k
  |e=>k e s'
 | .cond c x y,A,h,s,k=>Gk (gI (.cond c x y)) s h k λB h k=>match YM (eQ s.env) c with
  | .c .bool v=>bif v then run x B h.fst s k else run y B h.snd s k
  | .ub=>both (run x B h.fst s k) (run y B h.snd s k)
  |_=>none
 | .block id b,A,h,s,k=>Gk (gI (.block id b)) s h k λB h k=>run b B h.sub s λe s'=>match e with
  | .exit j=>if j=id then k .normal s' else k (.exit j) s'
  |e=>k e s'
 | .loop b,A,h,s,k=>match h with
  | .l hd id ab h'=>qj hd (gI b) s s λv0=>(iter (λ v=>run b (VT (X:=X) hd.vars⊕VT (X:=X) ab.vars) h' (encS hd s v) λe s'=>match e with
   | .normal=>qj hd (gI b) s s' λv=>some (.inl v)
   | .exit j=>if j=id then qj ab (gI b) s s' λw=>some (.inr w)else none
   |_=>none) n v0).bind λw=>k (.exit id) (encS ab s w)
  | .lx hd id ab h'=>qj hd (gI b) s s λv0=>dw (iter (λ v=>run b (VT (X:=X) hd.vars⊕(VT (X:=X) ab.vars⊕A)) h' (encS hd s v) λe s'=>match e with
   | .normal=>qj hd (gI b) s s' λv=>some (.inl v)
   | .exit j=>if j=id then qj ab (gI b) s s' λw=>some (.inr (.inl w))else(k (.exit j) s').map λa=> .inr (.inr a)
   |e=>(k e s').map λa=> .inr (.inr a)) n v0) λw=>k (.exit id) (encS ab s w)
  | .un a r=>Ly (λ h s k=>run b A h s k) (.un a r) s k
  |_=>none
 | .exit id,_,_,s,k=>k (.exit id) s
 | .ret,_,_,s,k=>k .ret s
 | .label _,_,_,s,k=>k .normal s
 |_,_,_,_,_=>none
section
variable {Γ:FuncId->Option (b7 X)} {T:eb} {am:TypeId->Option (CT X.ι)} {N n:Nat} {P:Program}
theorem Ext.wide{ds ds':Nat->Prop}{a b:df X}(h:Ext ds a b)(hd:∀t,ds t->ds' t):Ext ds' a b:=⟨λ t ht=>h.env t λhh=>ht (hd t hh),h.obj,h.nx⟩
theorem map_inr{α β:Type}{o:J β}{r:α⊕β}(h:o.map Sum.inr=some r):∃b,o=some b/\r= .inr b:=by
 cases o with
 |none=>cases h
 |some b=>injection h with h;exact⟨b,rfl,h.symm⟩
theorem D7{c:Code}{s:df X}{h:Hn X.ι}{A:Type}{k:Exit->df X->J A}{r:A}{body:(B:Type)->Hn X.ι->(Exit->df X->J B)->J B}(hl:Low s)
 (hb:∀(B:Type)(h:Hn X.ι)(k:Exit->df X->J B)(r:B),body B h k=some r->Ev P N c (KH (gI c) s k r) s.st) (hr:Gk (gI c) s h k body=some r):Ev P N c (KH (gI c) s k r) s.st:=by
 unfold Gk at hr;split at hr
 .rename_i sh h';rw[ai]at hr;obtain⟨v,h1,hr⟩:=hr;refine aik (hb _ _ _ _ h1) ?_;rintro e σ ⟨s',g1,g2,rfl,g4⟩ w0 O0 β I a w hrel;cases e<;>simp only[reduceCtorEq]at g4;have⟨v',i1,i2,i3,i4⟩:=kZ hl g1 g2 g4;cases i1;have⟨β',i5⟩:=i4 P w0 O0 N β I a w hrel;exact⟨β',_,i5,i2.old,_,i2,i3,rfl,hr⟩
 .rename_i sh h';unfold dw at hr;have⟨v,h1,hr⟩:=ai.1 hr;refine aik (hb _ _ _ _ h1) ?_;rintro e σ ⟨s',g1,g2,rfl,g4⟩ w0 O0 β I a w hrel;have other:(k e s').map Sum.inr=some v->∃ β' σ',Rel P w0 O0 N β' I σ' a w/\tE σ'/\KH (gI c) s k r e σ':=by
   intro hm;obtain⟨b,hk,rfl⟩:=map_inr hm;cases hr;exact⟨β,_,hrel,g1.old,s',g1,g2,rfl,hk⟩
  cases e with
  |normal=>
   simp only at g4;have⟨v',i1,i2,i3,i4⟩:=kZ hl g1 g2 g4;cases i1;have⟨β',i5⟩:=i4 P w0 O0 N β I a w hrel;exact⟨β',_,i5,i2.old,_,i2,i3,rfl,hr⟩
  |_=>exact other g4
 .exact hb _ _ _ _ hr
theorem aju{id:Nat}{al:Array Oper}{d:Bool}{t:Nat}(h:RA al t):t∈gI (.region id al d):=by
 obtain⟨j,op,h1,h2⟩:=h;simp only[gI,List.mem_filterMap];exact⟨op,by rw[<- Array.getElem?_toList]at h1;exact dh h1,h2⟩
theorem Ww{b:Code}{s:df X}{hd:Sh X.ι}{O:Type}{step:VT (X:=X) hd.vars->J (VT (X:=X) hd.vars⊕O)}{kb:Exit->df X->J (VT (X:=X) hd.vars⊕O)}{Q:Exit->St->Prop}(hl:Low s)
 (hkn:∀s',kb .normal s'=qj hd (gI b) s s' λv=>some (.inl v))
 (hstep:∀v r,Low (encS hd s v)->step v=some r->Ev P N b (KH (gI b) (encS hd s v) kb r) (encS hd s v).st)
 {o:O} (hQ:∀e s',e≠ .normal->Low s'->Ext (· ∈gI b) s s'->kb e s'=some (.inr o)->∀w0 O0 β I a w,Rel P w0 O0 N β I s'.st a w->∃ β' σ',Rel P w0 O0 N β' I σ' a w/\tE σ'/\Q e σ')
 (hno:∀e s' v,e≠ .normal->kb e s'=some (.inl v)->False) (n:Nat) (v0:VT (X:=X) hd.vars) (h:iter step n v0=some o) (hl0:Low (encS hd s v0)) (hx0:Ext (· ∈gI b) s (encS hd s v0)):Ev P N (.loop b) Q (encS hd s v0).st:=by
 intro w0 O0 β I a w hr ho;refine ZQ (λ n a w=>∃ β I v,Rel P w0 O0 N β I (encS hd s v).st a w/\iter step n v=some o/\Low (encS hd s v)/\Ext (· ∈gI b) s (encS hd s v)) (λ a w ⟨_,_,v,_,h,_⟩=>by cases h) ?_ n a w ⟨β,I,v0,hr,h,hl0,hx0⟩;rintro n a w ⟨β,I,v,hr,hi,hlv,hxv⟩;simp only[iter]at hi;have⟨r,h1,hi⟩:=ai.1 hi;refine wp_mono (hstep v r hlv h1 w0 O0 β I a w hr hlv.old) ?_;rintro e a' w' ⟨β',I',σ',g1,_,s',g2,g3,rfl,g4⟩;have hxs:=hxv.trans g3;by_cases he:e= .normal
 .subst he;rw[hkn]at g4;have⟨v',i1,i2,i3,i4⟩:=kZ hl g2 hxs g4;cases i1;have⟨β2,i5⟩:=i4 P w0 O0 N β' I' a' w' g1;exact⟨β2,I',v',i5,hi,i2,i3⟩
 .cases r with
  |inl v'=>exact(hno e s' v' he g4).elim
  |inr o'=>
   cases hi;have⟨β2,σ2,i1,i2,i3⟩:=hQ e s' he g2 hxs g4 w0 O0 β' I' a' w' g1;cases e with
   |normal=>exact(he rfl).elim
   |_=>exact⟨β2,I',σ2,i1,i2,i3⟩
theorem Wx{A:Type}{sh:Sh X.ι}{ds:U Nat}{s0 s':df X}{k:VT (X:=X) sh.vars->J A}{r:A}(h:qj sh ds s0 s' k=some r):∃v,k v=some r:=by
 unfold qj at h;have⟨_,h⟩:=eu h;unfold Pc at h;have⟨m1,h1,h⟩:=ai.1 h;have⟨m,h2,h⟩:=ai.1 h;have⟨h3,h⟩:=eu h;have⟨v,h4,h⟩:=ai.1 h;exact⟨v,(pJ h).2⟩
theorem adT{α β γ:Type}{o:J γ}{r:α⊕(β⊕γ)}(h:o.map (λ a=>Sum.inr (Sum.inr a))=some r):∃b,o=some b/\r= .inr (.inr b):=by
 cases o with
 |none=>cases h
 |some b=>injection h with h;exact⟨b,rfl,h.symm⟩
def Hn.len{ι:Type}:Hn ι->Nat
 | .un _ r=>r.len+1
 |_=>0
theorem ajv{b:Code}{A:Type}{body:Hn X.ι->df X->(Exit->df X->J A)->J A}{s0:df X}{k:Exit->df X->J A}{r:A}
 (hb:∀(h:Hn X.ι)(s:df X)(k:Exit->df X->J A)(r:A),Low s->body h s k=some r->Ev P N b (KH (gI b) s k r) s.st)
 {h:Hn X.ι} (hl:Low s0) (hr:Ly body h s0 k=some r):Ev P N (.loop b) (KH (gI (.loop b)) s0 k r) s0.st:=by
 refine amW (λ n σ=>∃(h:Hn X.ι)(s:df X),σ=s.st/\h.len=n/\Low s/\Ext (· ∈gI b) s0 s/\Ly body h s k=some r) ?_ ?_ h.len ⟨h,s0,rfl,rfl,hl,Ext.refl _ s0,hr⟩
 .rintro σ ⟨h,s,_,h1,_,_,h2⟩;cases h<;>first |cases h2 |cases h1
 .rintro n σ ⟨h,s,rfl,h1,h2,h3,h4⟩;cases h<;>try cases h4
  rename_i a q;simp only[Hn.len,Nat.add_right_cancel_iff]at h1;refine(hb a s _ r h2 h4).mono ?_;rintro e σ ⟨s',g1,g2,rfl,g4⟩;have hx:=h3.trans g2;cases e with
  |normal=>exact⟨q,s',rfl,h1,g1,hx,g4⟩
  |_=>exact⟨s',g1,hx,rfl,g4⟩
theorem kN(hT:eY P T)(hm:P.follows .mixedOrders=true)(hΓ:sL P Γ):∀(c:Code)(A:Type)(h:Hn X.ι)(s:df X)(k:Exit->df X->J A)(r:A),Low s->run Γ T am N n c A h s k=some r->Ev P N c (KH (gI c) s k r) s.st
 | .skip,A,h,s,k,r,hl,hr=>amT ⟨s,hl,Ext.refl _ s,rfl,hr⟩
 | .exit id,A,h,s,k,r,hl,hr=>amU ⟨s,hl,Ext.refl _ s,rfl,hr⟩
 | .ret,A,h,s,k,r,hl,hr=>aoy ⟨s,hl,Ext.refl _ s,rfl,hr⟩
 | .label l,A,h,s,k,r,hl,hr=>akL ⟨s,hl,Ext.refl _ s,rfl,hr⟩
 | .region id al d,A,h,s,k,r,hl,hr=>by
  refine D7 hl (λ B h k r hb=>?_) hr;have⟨s',g1,g2,g3,g4⟩:=abG (id:=id) hT hm hΓ hl hb;exact g4.mono λe σ ⟨he,hσ⟩=>⟨s',g2,g3.wide λt ht=>aju ht,hσ,by rw[he];exact g1⟩
 | .seq x y,A,h,s,k,r,hl,hr=>by
  refine D7 hl (λ B h k r hb=>?_) hr;refine aoz ((kN hT hm hΓ x B _ s _ r hl hb).mono ?_);rintro e σ ⟨s',g1,g2,rfl,g4⟩;have wide:Ext (· ∈gI (.seq x y)) s s':=g2.wide λt ht=>by simp[gI,ht]
  cases e with
  |normal=>
   exact(kN hT hm hΓ y B _ s' k r g1 g4).mono λe σ ⟨s2,i1,i2,i3,i4⟩=>⟨s2,i1,wide.trans (i2.wide λt ht=>by simp[gI,ht]),i3,i4⟩
  |_=>exact⟨s',g1,wide,rfl,g4⟩
 | .cond c x y,A,h,s,k,r,hl,hr=>by
  refine D7 hl (λ B h k r hb=>?_) hr;split at hb
  .rename_i v hv;refine amV v (λ _ _=>rfl) ?_ ?_
   .have:=Vw (eQ s.env) c;rw[hv]at this;exact this.symm
   .cases v with
    |true=>exact(kN hT hm hΓ x B _ s k r hl hb).mono λe σ ⟨s2,i1,i2,i3,i4⟩=>⟨s2,i1,i2.wide λt ht=>by simp[gI,ht],i3,i4⟩
    |false=>exact(kN hT hm hΓ y B _ s k r hl hb).mono λe σ ⟨s2,i1,i2,i3,i4⟩=>⟨s2,i1,i2.wide λt ht=>by simp[gI,ht],i3,i4⟩
  .rename_i hv;have⟨hb1,hb2⟩:=ajs hb;refine afT (λ _ _=>rfl) ?_ ?_ ?_
   .have:=Vw (eQ s.env) c;rw[hv]at this;exact this.symm
   .exact(kN hT hm hΓ x B _ s k r hl hb1).mono λe σ ⟨s2,i1,i2,i3,i4⟩=>⟨s2,i1,i2.wide λt ht=>by simp[gI,ht],i3,i4⟩
   .exact(kN hT hm hΓ y B _ s k r hl hb2).mono λe σ ⟨s2,i1,i2,i3,i4⟩=>⟨s2,i1,i2.wide λt ht=>by simp[gI,ht],i3,i4⟩
  .cases hb
 | .block id b,A,h,s,k,r,hl,hr=>by
  refine D7 hl (λ B h k r hb=>?_) hr;refine akM ((kN hT hm hΓ b B _ s _ r hl hb).mono ?_);rintro e σ ⟨s',g1,g2,rfl,g4⟩;cases e with
  |exit j=>
   simp only[afS];simp only at g4;split
   .rw[aY ‹_›]at g4;exact⟨s',g1,g2,rfl,g4⟩
   .rw[aR ‹_›]at g4;exact⟨s',g1,g2,rfl,g4⟩
  |_=>exact⟨s',g1,g2,rfl,g4⟩
 | .loop b,A,h,s,k,r,hl,hr=>by
  simp only[run]at hr;split at hr
  .rename_i hd id ab h';obtain⟨v0,h1,h2,h3,h4⟩:=kZ hl hl (Ext.refl _ s) hr;rw[ai]at h1;obtain⟨w,h5,h6⟩:=h1;intro w0 O0 β I a ww hrel ho;have⟨β',hrel'⟩:=h4 P w0 O0 N β I a ww hrel;refine Ww (Q:=KH (gI (.loop b)) s k r) hl (λ s'=>rfl) (λ v r hlv hs=>kN hT hm hΓ b _ h' (encS hd s v) _ r hlv hs) (λ e s' he hls hxs hk=>?_) (λ e s' v he hk=>?_) n v0 h5 h2 h3 w0 O0 β' I a ww hrel' h2.old
   .cases e with
    |exit j=>
     simp only at hk;split at hk
     .rename_i hj;subst hj;have⟨w',i1,i2,i3,i4⟩:=kZ hl hls hxs hk;injection i1 with i1;cases i1;intro w0 O0 β I a ww hrel;have⟨β',hrel'⟩:=i4 P w0 O0 N β I a ww hrel;exact⟨β',_,hrel',i2.old,_,i2,i3,rfl,h6⟩
     .cases hk
    |normal=>exact(he rfl).elim
    |_=>cases hk
   .cases e with
    |exit j=>
     simp only at hk;split at hk
     .have⟨w',i1⟩:=Wx hk;injection i1 with i1;cases i1
     .cases hk
    |normal=>exact he rfl
    |_=>cases hk
  .rename_i hd id ab h';obtain⟨v0,h1,h2,h3,h4⟩:=kZ hl hl (Ext.refl _ s) hr;unfold dw at h1;rw[ai]at h1;obtain⟨w,h5,h6⟩:=h1;intro w0 O0 β I a ww hrel ho;have⟨β',hrel'⟩:=h4 P w0 O0 N β I a ww hrel;refine Ww (Q:=KH (gI (.loop b)) s k r) hl (λ s'=>rfl) (λ v r hlv hs=>kN hT hm hΓ b _ h' (encS hd s v) _ r hlv hs) (λ e s' he hls hxs hk=>?_) (λ e s' v he hk=>?_) n v0 h5 h2 h3 w0 O0 β' I a ww hrel' h2.old
   .intro w0 O0 β I a ww hrel;have other:(k e s').map (λ a=>Sum.inr (Sum.inr a))=some (Sum.inr w:VT (X:=X) hd.vars⊕(VT (X:=X) ab.vars⊕A))->∃ β' σ',Rel P w0 O0 N β' I σ' a ww/\tE σ'/\KH (gI (.loop b)) s k r e σ':=by
     intro hm;have⟨q,hq,hr⟩:=adT hm;cases hr;cases h6;exact⟨β,_,hrel,hls.old,s',hls,hxs,rfl,hq⟩
    cases e with
    |exit j=>
     simp only at hk;split at hk
     .rename_i hj;subst hj;have⟨w',i1,i2,i3,i4⟩:=kZ hl hls hxs hk;injection i1 with i1;cases i1;have⟨β',hrel'⟩:=i4 P w0 O0 N β I a ww hrel;exact⟨β',_,hrel',i2.old,_,i2,i3,rfl,h6⟩
     .exact other hk
    |normal=>exact(he rfl).elim
    |_=>exact other hk
   .have other:(k e s').map (λ a=>Sum.inr (Sum.inr a))=some (Sum.inl v:VT (X:=X) hd.vars⊕(VT (X:=X) ab.vars⊕A))->False:=by
     intro hm;have⟨q,hq,hr⟩:=adT hm;cases hr
    cases e with
    |exit j=>
     simp only at hk;split at hk
     .have⟨w',i1⟩:=Wx hk;injection i1 with i1;cases i1
     .exact other hk
    |normal=>exact he rfl
    |_=>exact other hk
  .exact ajv (body:=λh s k=>run Γ T am N n b A h s k) (λ h s k r hl h1=>kN hT hm hΓ b A h s k r hl h1) hl hr
  .cases hr
 | .rangeFunc ..,_,_,_,_,_,_,hr=>by cases hr
 | .scope _,_,_,_,_,_,_,hr=>by cases hr
 | .goto _,_,_,_,_,_,_,hr=>by cases hr
 | .refuse _,_,_,_,_,_,_,hr=>by cases hr
end
end
section
variable {X:SX}
def jH:Nat->(l:U (AT X.ι))->iM X l->U (DV X)
 |_,[],_=>[]
 |n,.d c::l,a=> .c c a.1::jH n l a.2
 |n,.ref c::l,a=> .rp c a.1 0::jH n l a.2
 |n,.d8 as r::l,a=> .d8 as r a.1::jH n l a.2
 |n,.mut _::l,a=> .own n 0 (List.length a.1)::jH (n+1) l a.2
 |n,.iS _::l,a=> .ptr n 0 0::jH (n+1) l a.2
 |n,.nil::l,a=> .nil::jH n l a.2
def Bb:(l:U (AT X.ι))->iM X l->U (bm X)
 |[],_=>[]
 | .mut c::l,a=> .ea c a.1::Bb l a.2
 | .iS c::l,a=> .cells (CT.sz X c) [uY c a.1]::Bb l a.2
 | .d _::l,a=>Bb l a.2
 | .ref _::l,a=>Bb l a.2
 | .d8 _ _::l,a=>Bb l a.2
 | .nil::l,a=>Bb l a.2
theorem sG:∀(n:Nat)(l:U (AT X.ι))(a:iM X l),bO (jH n l a)=dP n l a
 |_,[],_=>rfl
 |n,.d c::l,a=>by simp only[jH,bO,den,dP,sG n l a.2]
 |n,.ref c::l,a=>by simp only[jH,bO,den,dP,sG n l a.2]
 |n,.d8 as r::l,a=>by simp only[jH,bO,dP,sG n l a.2]
 |n,.mut c::l,a=>by simp only[jH,bO,den,dP,sG (n+1) l a.2]
 |n,.iS c::l,a=>by simp only[jH,bO,den,dP,sG (n+1) l a.2]
 |n,.nil::l,a=>by simp only[jH,bO,den,dP,sG n l a.2]
theorem wB:∀(l:U (AT X.ι))(a:iM X l),(Bb l a).map bH=(qg l a).map gO
 |[],_=>rfl
 | .d _::l,a=>wB l a.2
 | .ref _::l,a=>wB l a.2
 | .d8 _ _::l,a=>wB l a.2
 | .nil::l,a=>wB l a.2
 | .mut c::l,a=>by simp only[Bb,qg,aF,wB l a.2];rfl
 | .iS c::l,a=>by simp only[Bb,qg,aF,wB l a.2,bH,gO,rO,aI,map_nil,oO]
theorem oQ:∀(n:Nat)(l:U (AT X.ι))(a:iM X l),∀k∈aP (jH n l a),k<n+qi l
 |_,[],_,k,hk=>by simp[jH,aP]at hk
 |n,.d c::l,a,k,hk=>by
  have:=oQ n l a.2 k (by simpa[jH,aP,bk]using hk);simpa[qi,AT.im]using this
 |n,.ref c::l,a,k,hk=>by
  have:=oQ n l a.2 k (by simpa[jH,aP,bk]using hk);simpa[qi,AT.im]using this
 |n,.d8 as r::l,a,k,hk=>by
  have:=oQ n l a.2 k (by simpa[jH,aP,bk]using hk);simpa[qi,AT.im]using this
 |n,.nil::l,a,k,hk=>by
  have:=oQ n l a.2 k (by simpa[jH,aP,bk]using hk);simpa[qi,AT.im]using this
 |n,.mut c::l,a,k,hk=>by
  simp only[jH,aP,bk,List.singleton_append,aN]at hk;simp only[qi,AT.im,if_true];rcases hk with rfl |hk
  .omega
  .have:=oQ (n+1) l a.2 k hk;omega
 |n,.iS c::l,a,k,hk=>by
  simp only[jH,aP,bk,List.singleton_append,aN]at hk;simp only[qi,AT.im,if_true];rcases hk with rfl |hk
  .omega
  .have:=oQ (n+1) l a.2 k hk;omega
theorem lg:∀(n:Nat)(l:U (AT X.ι))(a:iM X l),(dP n l a).length=l.length
 |_,[],_=>rfl
 |n,.d c::l,a=>by simp only[dP,bJ,lg n l a.2]
 |n,.ref c::l,a=>by simp only[dP,bJ,lg n l a.2]
 |n,.d8 as r::l,a=>by simp only[dP,bJ,lg n l a.2]
 |n,.mut c::l,a=>by simp only[dP,bJ,lg (n+1) l a.2]
 |n,.iS c::l,a=>by simp only[dP,bJ,lg (n+1) l a.2]
 |n,.nil::l,a=>by simp only[dP,bJ,lg n l a.2]
theorem lq:∀(l:U (AT X.ι))(a:iM X l),(qg l a).length=qi l
 |[],_=>rfl
 | .d _::l,a=>by simpa[qi,AT.im,qg]using lq l a.2
 | .ref _::l,a=>by simpa[qi,AT.im,qg]using lq l a.2
 | .d8 _ _::l,a=>by simpa[qi,AT.im,qg]using lq l a.2
 | .nil::l,a=>by simpa[qi,AT.im,qg]using lq l a.2
 | .mut _::l,a=>by simp only[qg,bJ,lq l a.2,qi,AT.im,if_true];omega
 | .iS _::l,a=>by simp only[qg,bJ,lq l a.2,qi,AT.im,if_true];omega
def xc(l:U (AT X.ι))(a:iM X l):df X:=⟨(List.range l.length).zip (jH 0 l a),(List.range (Bb l a).length).zip ((Bb l a).map some),1000,[]⟩
theorem ail(l:U (AT X.ι))(a:iM X l)(k:Nat):gE (xc l a).obj k=(Bb l a)[k]? :=by
 have h:(List.range (Bb l a).length).zip ((Bb l a).map some)=(List.range ((Bb l a).map some).length).zip ((Bb l a).map some):=by rw[length_map]
 simp only[xc,gE];rw[h,AZ,List.getElem?_map];cases (Bb l a)[k]?<;>rfl
theorem aoM(l:U (AT X.ι))(a:iM X l):(xc l a).st=ry.st ⟨(List.range (wo l a).length).zip (wo l a),(List.range ((qg l a).map gO).length).zip ((qg l a).map gO)⟩:=by
 have ho:∀k,((gE (xc l a).obj k).map bH)=lk ((List.range ((qg l a).map gO).length).zip ((qg l a).map gO)) k:=by
  intro k;rw[AZ,ail,<- wB,List.getElem?_map]
 simp only[df.st,ry.st,St.mk.injEq,and_true];refine⟨?_,funext ho⟩;funext t;simp only[xc];rw[lg,wo,<- sG];generalize jH 0 l a=ds;have:∀(ks:U Nat)(ds:U (DV X)),den (eQ (ks.zip ds) t)=(lk (ks.zip (bO ds)) t).getD .undef:=by
  intro ks
  induction ks with
  |nil=>intro ds;rfl
  |cons k ks ih=>
   intro ds;cases ds with
   |nil=>rfl
   |cons d ds=>
    simp only[List.zip_cons_cons,eQ,lk,bO];by_cases h:k=t
    .simp[h]
    .simp only[aR h];exact ih ds
 exact this _ _
theorem ane(l:U (AT X.ι))(a:iM X l)(hm:qi l<=1000):Low (xc l a):=by
 refine⟨by show 1000<=1000000;decide,aC _,λt k hk=>?_,λk o ho=>?_⟩
 .have h0:=oQ 0 l a;simp only[xc]at hk;generalize jH 0 l a=ds at hk h0;have:∀(ks:U Nat)(ds:U (DV X)),(∀ k∈aP ds,k<0+qi l)->∀k∈bk (eQ (ks.zip ds) t),k<1000:=by
   intro ks
   induction ks with
   |nil=>intro ds _ k hk;simp[eQ,lk,bk]at hk
   |cons k ks ih=>
    intro ds h j hj;cases ds with
    |nil=>simp[eQ,lk,bk]at hj
    |cons d ds=>
     simp only[List.zip_cons_cons,eQ,lk]at hj;by_cases e:k=t
     .simp only[aY e,Option.getD_some]at hj;have:=h j (by simp[aP,hj]);omega
     .simp only[aR e]at hj;exact ih ds (λ k hk=>h k (by simp[aP,hk])) j hj
  exact this _ _ h0 k hk
 .rw[ail]at ho;have hl:(Bb l a).length=qi l:=by rw[<- lq l a];simpa using congrArg List.length (wB l a)
  refine⟨by have:=(dG.1 ho).1;show k<1000;omega,λj hj=>?_⟩;have hz:∀(l:U (AT X.ι))(a:iM X l),∀o∈Bb l a,d6 o=[]:=by
   intro l
   induction l with
   |nil=>intro a o ho;simp[Bb]at ho
   |cons q l ih=>
    intro a o ho;cases q<;>simp only[Bb,aN]at ho
    case «mut» c=>rcases ho with rfl |ho;rfl;exact ih _ o ho
    case iS c=>
     rcases ho with rfl |ho
     .have h1:aP (uY c a.1)=[]:=by
       rw[<- ig,oO];generalize CT.row X.toSE c a.1=r
       induction r with
       |nil=>rfl
       |cons y ys ih=>simp only[aF,eT,refs,ih,bQ]
      simp[d6,h1]
     .exact ih _ o ho
    all_goals exact ih _ o ho
  rw[hz l a o (dh ho)]at hj;cases hj
variable (T:eb)
def Fc(s:df X):ResultVar->J (DV X)
 | .tmp t=>some (eQ s.env t)
 | .cell a t=>(T t).bind λti=>match eQ s.env a with
  | .ptr kk row aa=>(gE s.obj kk).bind λo=>match o with
   | .cells _ rows=>(rows[row]?).bind λr=>G9 ti.agg ti.size ((r.drop aa).take ti.size)
   |_=>none
  |_=>none
def Wy(s:df X):U ResultVar->J (List (DV X))
 |[]=>some []
 |r::rs=>(Fc T s r).bind λv=>(Wy s rs).bind λvs=>some (v::vs)
theorem alc{s:df X}{r:ResultVar}{d:DV X}(h:Fc T s r=some d):Pq T s.st r=some (den d):=by
 cases r with
 |tmp t=>simp only[Fc,aA]at h;subst h;rfl
 |cell a t=>
  simp only[Fc]at h;rw[ai]at h;obtain⟨ti,h1,h⟩:=h;split at h
  .rename_i kk row aa hp;rw[ai]at h;obtain⟨o,h2,h⟩:=h;split at h
   .rename_i sz rows;have⟨q,h3,h⟩:=ai.1 h;have h4:=Cr h;rw[kg]at h4
    show(match Us T t (den (eQ s.env a)) (λ k=>(gE s.obj k).map bH)with
     |some ⟨v,[],[]⟩=>some v
     |_=>none)=some (den d)
    simp only[Us,Ku,h1,af,hp,den,h2,Option.map_some,bH,List.getElem?_map,h3,h4,pv]
   .cases h
  .cases h
def YU{A:Type}(s:df X):U ResultVar->(List (DV X)->J A)->J A
 |[],k=>k []
 | .tmp t::rs,k=>YU s rs λvs=>k (eQ s.env t::vs)
 | .cell a t::rs,k=>(T t).bind λti=>match eQ s.env a with
  | .ptr kk row aa=>(gE s.obj kk).bind λo=>match o with
   | .cells _ rows=>(rows[row]?).bind λr=>(G9 ti.agg ti.size ((r.drop aa).take ti.size)).bind λv=>YU s rs λvs=>k (v::vs)
   |_=>none
  |_=>none
theorem JA{A:Type}{s:df X}:∀{rs:U ResultVar}{k:U (DV X)->J A}{r:A},YU T s rs k=some r->∃ds,Wy T s rs=some ds/\k ds=some r
 |[],k,r,h=>⟨[],rfl,h⟩
 | .tmp t::rs,k,r,h=>by
  have⟨ds,h1,h2⟩:=JA (rs:=rs) h;exact⟨_,by simp only[Wy,Fc,h1,af],h2⟩
 | .cell a t::rs,k,r,h=>by
  simp only[YU]at h;rw[ai]at h;obtain⟨ti,h1,h⟩:=h;split at h
  .rename_i kk row aa hp;have⟨o,h2,h⟩:=ai.1 h;split at h
   .have⟨q,h3,h⟩:=ai.1 h;have⟨v,h4,h⟩:=ai.1 h;have⟨ds,h5,h6⟩:=JA (rs:=rs) h;exact⟨_,by simp only[Wy,Fc,h1,hp,h2,h3,h4,h5,af],h6⟩
   .cases h
  .cases h
theorem PU{s:df X}:∀{rs:U ResultVar}{ds:U (DV X)},Wy T s rs=some ds->ny T s.st rs=some (bO ds)
 |[],ds,h=>by simp only[Wy,aA]at h;subst h;rfl
 |r::rs,ds,h=>by
  simp only[Wy]at h;have⟨d,h1,h⟩:=ai.1 h;have⟨ds',h2,h⟩:=ai.1 h;cases h;simp only[ny,alc T h1,PU h2,af,bO]
def PV:U (RT X.ι)->U (DV X)->J Nat
 | .mu _::l,ds=>PV l ds
 | .mr _::l,ds=>PV l ds
 | .mv::l,ds=>PV l ds
 | .fresh _::l,d::ds=>match d with
  | .own k _ _=>some k
  |_=>PV l ds
 | .d _::l,_::ds=>PV l ds
 | .whole _::l,_::ds=>PV l ds
 |_,_=>none
def ym:U (RT X.ι)->U (DV X)->U (Nat×Nat)
 | .mu _::l,ds=>ym l ds
 | .mr _::l,ds=>ym l ds
 | .mv::l,ds=>ym l ds
 | .whole j::l,d::ds=>match d with
  | .own _ _ len=>(j,len)::ym l ds
  |_=>ym l ds
 | .d _::l,_::ds=>ym l ds
 | .fresh _::l,_::ds=>ym l ds
 |_,_=>[]
def wC:Nat->U (RT X.ι)->U Nat
 |_,[]=>[]
 |n,.mu _::l=>n::wC (n+1) l
 |n,.mr _::l=>n::wC (n+1) l
 |n,.mv::l=>wC (n+1) l
 |n,_::l=>wC n l
def sg:Nat->U (RT X.ι)->U Nat
 |_,[]=>[]
 |n,.mu _::l=>n::sg (n+1) l
 |n,.mr _::l=>sg (n+1) l
 |n,.mv::l=>sg (n+1) l
 |n,_::l=>sg n l
def Ln(bad:U Nat)(ks:U Nat):Bool:=ks.all λk=>!bad.contains k
def abJ(get:Nat->J (bm X))(row:U (DV X))(c:CT X.ι):J (CT.T X.toSE c×List Bool):=
 match c with
 | .st i=>(wT get row (X.cR i)).bind λh=>some (X.make i h.1,h.2)
 |c=>match row with
  |[d]=>Ru get d c
  |_=>none
def Hy(get:Nat->J (bm X))(c:CT X.ι):U (List (DV X))->J (List (CT.T X.toSE c)×List Bool)
 |[]=>some ([],[])
 |r::rs=>(abJ get r c).bind λx=>(Hy get c rs).bind λy=>some (x.1::y.1,x.2++y.2)
def M9(get:Nat->J (bm X))(bad rk:U Nat)(fk:J Nat)(wl:U (Nat×Nat))(n:Nat):(q:RT X.ι)->U (DV X)->J ((RT.T X q×List Bool)×List (DV X))
 | .d c,d::ds=>if Ln bad (bk d)then(Fq get d c).bind λx=>some (x,ds)else none
 | .fresh e,d::ds=>match d with
  | .nil=>some (([],[]),ds)
  | .own k 0 len=>if fk=some k then(get k).bind λo=>match o with
   | .ea b l=>(jB (.sl b) (.sl e) l).bind λ(l:List (CT.T X.toSE e))=>some ((sub l 0 len,[az (sub l 0 len).length len]),ds)
   | .cells sz rows=>if sz=CT.sz X e/\Ln bad (rows.map aP).flatten=true then(Hy get e rows).bind λx=>some ((x.1,az len (List.length x.1)::x.2),ds)else none
   | .map _ _ _=>none
   else none
  |_=>none
 | .whole j,d::ds=>match d with
  | .own k 0 len=>if k=j/\rk.contains j=true then(lk wl j).bind λej=>some (((),[az len ej]),ds)else none
  |_=>none
 | .mu c,ds=>(get n).bind λo=>match o with
  | .ea b l=>(jB (.sl b) (.sl c) l).bind λ(l:List (CT.T X.toSE c))=>match lk wl n with
   |some len=>some ((sub l 0 len,[az (sub l 0 len).length len]),ds)
   |none=>some ((l,[]),ds)
  |_=>none
 | .mr c,ds=>(get n).bind λo=>match o with
  | .cells sz [row]=>if sz=CT.sz X c/\Ln bad (aP row)=true then(abJ get row c).bind λx=>some (x,ds)else none
  |_=>none
 | .mv,ds=>some (((),[]),ds)
 |_,[]=>none
def Na(get:Nat->J (bm X))(bad rk:U Nat)(fk:J Nat)(wl:U (Nat×Nat)):Nat->(l:U (RT X.ι))->(ds:U (DV X))->J (sU X l×List Bool)
 |_,[],ds=>match ds with
  |[]=>some ((),[])
  |_=>none
 |n,[q],ds=>(M9 get bad rk fk wl n q ds).bind λp=>match p.2 with
  |[]=>some p.1
  |_=>none
 |n,q::q'::l,ds=>(M9 get bad rk fk wl n q ds).bind λp=>(Na get bad rk fk wl (if q.out then n+1 else n) (q'::l) p.2).bind λy=>some ((p.1.1,y.1),p.1.2++y.2)
def Pa(s:df X)(l:U (RT X.ι))(ds:U (DV X)):J (sU X l×List Bool):=
 if Ln (wC 0 l) (PV l ds).toList then Na (gE s.obj) (wC 0 l++(PV l ds).toList) (sg 0 l) (PV l ds) (ym l ds) 0 l ds else none
def apn(rs:U ResultVar)(l:U (RT X.ι)):Exit->df X->J (sU X l)
 | .normal,s=>YU T s rs λds=>(Pa s l ds).bind λx=>Vz x.2 (some x.1)
 | .ret,s=>YU T s rs λds=>(Pa s l ds).bind λx=>Vz x.2 (some x.1)
 |_,_=>none
def exit(A:Type)(k:df X->J A):Exit->df X->J A
 | .normal,s=>k s
 | .ret,s=>k s
 |_,_=>none
variable {T}
section
variable {get:Nat->Option (bm X)} {fk:Option Nat} {os':List (Option eZ)} {bad:List Nat}
theorem D8{ks:U Nat}(h:Ln bad ks=true):∀j∈ks,j∉bad:=λj hj=>by simpa using all_eq_true.1 h j hj
theorem PW(hbad:∀j,j∉bad->fk≠some j/\¬kept os' j){d:DV X}{c:CT X.ι}{x:CT.T X.toSE c×List Bool}(hc:c.one=true)(h:Ru get d c=some x)(hb:∀b∈x.2,b=true)(m9:∀j∈bk d,j∉bad):∃t,CT.tv X.toSE c x.1= .s t/\Pp (fq get) fk os' (den d) t:=by
 obtain⟨t,h1,h2⟩:=row_one hc x.1;refine⟨t,h2,?_⟩;have hbase:∀y,JX d c=some y->y=x.1->Pp (fq get) fk os' (den d) t:=by
  intro y hy he;subst he;have h3:=vY hy;rw[h2]at h3;have h4:=abt hc hy;unfold JX at hy;split at hy
  .rw[(oo hy).1];simp only[den,h2,TV.av,Pp]
  .simp only[den,Gb.wk,TV.av,AV.t.injEq]at h3;simp only[den,Pp];exact h3.symm
  .simp only[den,Gb.wk,TV.av,AV.t.injEq]at h3;simp only[den,Pp];exact h3.symm
  .cases hy
 unfold Ru at h;split at h
 .rename_i kk aa len e;rw[ai]at h;obtain⟨o,h3,h⟩:=h;split at h
  .rename_i b l0;rw[ai]at h;obtain⟨l,h4,h⟩:=h;cases h;have h5:(sub l aa len).length=len:=(by simpa[az]using hb (az (sub l aa len).length len) (by simp));have⟨h6,h7⟩:=ji h4;obtain⟨hf1,hf2⟩:=hbad kk (m9 kk (by simp[bk]));simp only[den,Pp];refine⟨hf1,hf2,bH (.ea b l0),(sub l aa len).map (CT.row X.toSE e),by simp[fq,h3],?_,by simpa using h5,?_⟩
   .simp only[bH,h7];simp[aI,sub,map_take]
   .simpa[CT.row]using h1.symm
  .cases h
 .rename_i kk aa len;rw[ai]at h;obtain⟨o,h3,h⟩:=h;split at h
  .rename_i b l0;cases h;have h5:(sub l0 aa len).length=len:=(by simpa[az]using hb (az (sub l0 aa len).length len) (by simp));obtain⟨hf1,hf2⟩:=hbad kk (m9 kk (by simp[bk]));simp only[den,Pp];refine⟨hf1,hf2,bH (.ea b l0),(sub l0 aa len).map (CT.row X.toSE b),by simp[fq,h3],?_,by simpa using h5,?_⟩
   .simp only[bH];simp[aI,sub,map_take,map_drop]
   .simpa[CT.row]using h1.symm
  .cases h
 .rename_i kk len e;rw[ai]at h;obtain⟨o,h3,h⟩:=h;split at h
  .rename_i b l0;have⟨l,h4,h⟩:=ai.1 h;cases h;have h5:(sub l 0 len).length=len:=(by simpa[az]using hb (az (sub l 0 len).length len) (by simp));have⟨h6,h7⟩:=ji h4;obtain⟨hf1,hf2⟩:=hbad kk (m9 kk (by simp[bk]));simp only[den,Pp];refine⟨hf1,hf2,bH (.ea b l0),(sub l 0 len).map (CT.row X.toSE e),by simp[fq,h3],?_,by simpa using h5,?_⟩
   .simp only[bH,h7];simp[aI,sub,map_take,map_drop]
   .simpa[CT.row]using h1.symm
  .cases h
 .have⟨y,h3,h⟩:=ai.1 h;injection h with h;exact hbase y h3 (by rw[<- h])
theorem K5(hbad:∀j,j∉bad->fk≠some j/\¬kept os' j):∀{ds:U (DV X)}{l:U (CT X.ι)}{h:HL X.toSE l×List Bool},wT get ds l=some h->(∀ b∈h.2,b=true)->l.all CT.one=true->(∀ j∈aP ds,j∉bad)->k9 (fq get) fk os' (bO ds) (HL.row X.toSE l h.1)
 |[],[],h,_,_,_,_=>trivial
 |d::ds,c::l,h,hr,hb,ha,m9=>by
  simp only[wT]at hr;have⟨x,h1,hr⟩:=ai.1 hr;have⟨g,h2,hr⟩:=ai.1 hr;cases hr;simp only[all_cons,aL]at ha;obtain⟨t,i1,i2⟩:=PW hbad ha.1 h1 (λ b hb'=>hb b (by simp[hb'])) (λ j hj=>m9 j (by simp[aP,hj]));have i3:=K5 hbad h2 (λ b hb'=>hb b (by simp[hb'])) ha.2 (λ j hj=>m9 j (by simp[aP,hj]));obtain⟨t',j1,j2⟩:=row_one ha.1 x.1;rw[i1]at j2;cases j2;show k9 (fq get) fk os' (den d::bO ds) (CT.row X.toSE c x.1++HL.row X.toSE l g.1);rw[j1];exact⟨i2,i3⟩
 |[],_::_,_,hr,_,_,_=>by simp[wT]at hr
 |_::_,[],_,hr,_,_,_=>by simp[wT]at hr
theorem RF(hbad:∀j,j∉bad->fk≠some j/\¬kept os' j){row:U (DV X)}{c:CT X.ι}{x:CT.T X.toSE c×List Bool}(h:abJ get row c=some x)(hb:∀b∈x.2,b=true)(m9:∀j∈aP row,j∉bad):k9 (fq get) fk os' (bO row) (CT.row X.toSE c x.1):=by
 cases c
 case st i=>
  replace h:(wT get row (X.cR i)).bind (λ h=>some (X.make i h.1,h.2))=some x:=h
  have⟨g,h1,h⟩:=ai.1 h;cases h;have:=K5 hbad h1 hb (X.flat i) m9;show k9 (fq get) fk os' (bO row) (X.row i (X.make i g.1));rw[X.gi];exact this
 all_goals
  match row,h,m9 with
  |[d],h,m9=>
   obtain⟨t,i1,i2⟩:=PW (fk:=fk) hbad rfl h hb (λ j hj=>m9 j (by simp[aP,hj]));obtain⟨t',j1,j2⟩:=row_one rfl x.1;rw[i1]at j2;cases j2;rw[j1];exact⟨i2,trivial⟩
  |[],h,_=>cases h
  |_::_::_,h,_=>cases h
theorem Nb(hbad:∀j,j∉bad->fk≠some j/\¬kept os' j){c:CT X.ι}:∀{rows:U (List (DV X))}{x:U (CT.T X.toSE c)×List Bool},Hy get c rows=some x->(∀ b∈x.2,b=true)->(∀ j∈(rows.map aP).flatten,j∉bad)->en (fq get) fk os' (rows.map bO) (x.1.map (CT.row X.toSE c))/\rows.length=List.length x.1
 |[],x,h,_,_=>by simp only[Hy,aA]at h;subst h;exact⟨trivial,rfl⟩
 |r::rs,x,h,hb,m9=>by
  simp only[Hy]at h;have⟨y,h1,h⟩:=ai.1 h;have⟨z,h2,h⟩:=ai.1 h;cases h;have i1:=RF hbad h1 (λ b hb'=>hb b (by simp[hb'])) (λ j hj=>m9 j (by simp[hj]));obtain⟨i2,i3⟩:=Nb hbad h2 (λ b hb'=>hb b (by simp[hb'])) (λ j hj=>m9 j (by simp only[aF,flatten_cons,aZ];exact .inr hj));exact⟨⟨i1,i2⟩,by simp[i3]⟩
theorem ald{x:AV}{t:Tree}(h:Pp (fq get) fk os' x t):F0 (fq get) fk os' x (.d (.s t)):=by cases x<;>first |exact h |exact h.elim
theorem D9(sz:CT X.ι)(l:U (CT.T X.toSE sz)):en (fq get) fk os' (aI (l.map (CT.row X.toSE sz))) (l.map (CT.row X.toSE sz)):=by
 generalize l.map (CT.row X.toSE sz)=rows
 induction rows with
 |nil=>trivial
 |cons r rs ih=>
  refine⟨?_,ih⟩;show k9 (fq get) fk os' (r.map AV.t) r
  induction r with
  |nil=>trivial
  |cons y ys ih2=>exact⟨rfl,ih2⟩
theorem ale(hbad:∀j,j∉bad->fk≠some j/\¬kept os' j){c:CT X.ι}{d:DV X}{x:CT.T X.toSE c×List Bool}(h:Fq get d c=some x)(m9:∀j∈bk d,j∉bad)(hb:∀b∈x.2,b=true):F0 (fq get) fk os' (den d) (.d (CT.tv X.toSE c x.1)):=by
 cases c
 case st i=>
  replace h:Z4 get d i=some x:=h
  cases d
  case agg cs=>
   simp only[Z4]at h;have⟨g,h1,h⟩:=ai.1 h;cases h;have:=K5 (fk:=fk) hbad h1 hb (X.flat i) (by simpa[bk]using m9);show k9 (fq get) fk os' (bO cs) (X.row i (X.make i g.1));rw[X.gi];exact this
  case c a y=>
   simp only[Z4]at h;have⟨z,h1,h⟩:=ai.1 h;cases h;rw[(oo h1).1];show k9 (fq get) fk os' ((X.row i z).map AV.t) (X.row i z);generalize X.row i z=l
   induction l with
   |nil=>trivial
   |cons y ys ih=>exact⟨rfl,ih⟩
  all_goals cases h
 all_goals
  have⟨t,i1,i2⟩:=PW (fk:=fk) hbad rfl h hb m9;rw[i1];exact ald i2
theorem Wz{rk:U Nat}{wl:U (Nat×Nat)}{ns:U Nat}{n:Nat}(hbad:∀j,j∉bad->fk≠some j/\¬kept os' j)(q7:∀k,fk=some k->¬kept os' k)(hns:∀j ej,j∈rk->lk wl j=some ej->ns.getD j 0=ej)(hmu:∀j∈rk,kept os' j){q:RT X.ι}{ds:U (DV X)}{p:(RT.T X q×List Bool)×List (DV X)}(h:M9 get bad rk fk wl n q ds=some p)(hb:∀b∈p.1.2,b=true):
 (∀ cs,nj (fq get) fk os' (bO p.2) cs->nj (fq get) fk os' (bO ds) (VO ns q p.1.1++cs))/\
 (∀ t,qh q p.1.1=[some t]->∃o,get n=some o/\(bH o).sz=t.1/\en (fq get) fk os' ((bH o).rows.take t.2.length) t.2)/\
 (∀ ej c,q= .mu c->lk wl n=some ej->YP q p.1.1=[ej]):=by
 cases q
 case d c=>
  cases ds with
  |nil=>simp[M9]at h
  |cons d ds=>
   simp only[M9]at h;split at h
   .rename_i hnb;rw[ai]at h;obtain⟨x,h1,h⟩:=h;cases h;exact⟨λ cs hcs=>⟨ale hbad h1 (D8 hnb) hb,hcs⟩,λt ht=>by simp[qh]at ht,λ_ _ h=>by cases h⟩
   .cases h
 case fresh e=>
  cases ds with
  |nil=>simp[M9]at h
  |cons d ds=>
   refine⟨λ cs hcs=>?_,λt ht=>by simp[qh]at ht,λ_ _ h=>by cases h⟩;simp only[M9]at h;split at h
   .cases h;exact⟨rfl,hcs⟩
   .rename_i k len;split at h
    .rename_i m9;rw[ai]at h;obtain⟨o,h1,h⟩:=h;split at h
     .rename_i b l0;rw[ai]at h;obtain⟨l,h2,h⟩:=h;cases h;have⟨h3,h4⟩:=ji h2;have h5:(sub l 0 len).length=len:=(by simpa[az]using hb (az (sub l 0 len).length len) (by simp));refine⟨⟨m9,q7 k m9,rfl,bH (.ea b l0),by simp[fq,h1],by simp only[bH];exact h3,?_,by simpa using h5⟩,hcs⟩;have e1:(bH (.ea b l0)).rows.take len=aI ((sub l 0 len).map (CT.row X.toSE e)):=by
       simp only[bH,h4];simp[aI,sub,map_take]
      rw[e1];exact D9 e _
     .rename_i sz rows;split at h
      .rename_i hc;rw[ai]at h;obtain⟨x,h2,h⟩:=h;cases h;obtain⟨i1,i2⟩:=Nb (fk:=fk) hbad h2 (λ b hb'=>hb b (by simp[hb'])) (D8 hc.2);have h5:len=List.length x.1:=(by simpa[az]using hb (az len (List.length x.1)) (by simp));refine⟨⟨m9,q7 k m9,rfl,bH (.cells sz rows),by simp[fq,h1],hc.1,?_,by simpa using h5.symm⟩,hcs⟩;simp only[bH];rw[List.take_of_length_le (by simp;omega)];exact i1
      .cases h
     .cases h
    .cases h
   .cases h
 case whole j=>
  cases ds with
  |nil=>simp[M9]at h
  |cons d ds=>
   refine⟨λ cs hcs=>?_,λt ht=>by simp[qh]at ht,λ_ _ h=>by cases h⟩;simp only[M9]at h;split at h
   .rename_i k len;split at h
    .rename_i hc;obtain⟨rfl,hm⟩:=hc;rw[ai]at h;obtain⟨ej,h1,h⟩:=h;cases h;have h5:len=ej:=(by simpa[az]using hb (az len ej) (by simp));have hm:k∈rk:=(by simpa using hm);refine⟨⟨rfl,rfl,?_,hmu k hm⟩,hcs⟩;rw[h5];exact hns k ej hm h1
    .cases h
   .cases h
 case mu c=>
  simp only[M9]at h;rw[ai]at h;obtain⟨o,h1,h⟩:=h;split at h
  .rename_i b l0;rw[ai]at h;obtain⟨l,h2,h⟩:=h;have⟨h3,h4⟩:=ji h2;split at h
   .rename_i len hl;cases h;have h5:(sub l 0 len).length=len:=(by simpa[az]using hb (az (sub l 0 len).length len) (by simp));refine⟨λ cs hcs=>hcs,λt ht=>?_,λej c' _ hl'=>?_⟩
    .simp only[qh,List.cons.injEq,aA,and_true]at ht;subst ht;refine⟨_,h1,by simp only[bH,rO];exact h3,?_⟩;have e1:(bH (.ea b l0)).rows.take (rO c (sub l 0 len)).2.length=aI (rO c (sub l 0 len)).2:=by
      simp only[bH,h4,rO,length_map,h5];simp[aI,sub,map_take]
     rw[e1];exact D9 c _
    .rw[hl]at hl';injection hl' with hl';subst hl';simp only[YP,h5]
   .rename_i hl;cases h;refine⟨λ cs hcs=>hcs,λt ht=>?_,λej c' _ hl'=>by rw[hl]at hl';cases hl'⟩;simp only[qh,List.cons.injEq,aA,and_true]at ht;subst ht;refine⟨_,h1,by simp only[bH,rO];exact h3,?_⟩;have e1:(bH (.ea b l0)).rows.take (rO c l).2.length=aI (rO c l).2:=by
     simp only[bH,h4,rO];rw[List.take_of_length_le (by simp[aI])]
    rw[e1];exact D9 c _
  .cases h
 case mr c=>
  simp only[M9]at h;rw[ai]at h;obtain⟨o,h1,h⟩:=h;split at h
  .rename_i sz row;split at h
   .rename_i hc;have⟨x,h2,h⟩:=ai.1 h;cases h;refine⟨λ cs hcs=>hcs,λt ht=>?_,λ_ _ h=>by cases h⟩;simp only[qh,List.cons.injEq,aA,and_true]at ht;subst ht;refine⟨_,h1,by simp only[bH,rO];exact hc.1,?_⟩;exact⟨RF hbad h2 hb (D8 hc.2),trivial⟩
   .cases h
  .cases h
 case mv=>
  simp only[M9,aA]at h;subst h;exact⟨λ cs hcs=>hcs,λt ht=>by simp[qh]at ht,λ_ _ h=>by cases h⟩
theorem Hz{q:RT X.ι}{x:RT.T X q}:(qh q x).length=(if q.out then 1 else 0)/\(YP q x).length=(if q.out then 1 else 0):=by cases q<;>exact⟨rfl,rfl⟩
theorem HV{n j:Nat}{q:RT X.ι}{l:U (RT X.ι)}:j∈sg n (q::l)->(j=n/\∃c,q= .mu c)\/j∈sg (if q.out then n+1 else n) l:=by
 cases q<;>simp only[sg,RT.out,if_true,Bool.false_eq_true,if_false,aN]
 case mu c=>exact λh=>h.imp (λ h=>⟨h,c,rfl⟩) id
 all_goals exact .inr
theorem XX{j:Nat}:∀{l:U (RT X.ι)}{n:Nat},j∈sg n l->n<=j
 |[],n,h=>by simp[sg]at h
 |q::l,n,h=>by
  rcases HV h with ⟨rfl,_⟩ |h
  .exact aC _
  .have:=XX h;split at this<;>omega
theorem adV:∀{l:U (RT X.ι)}{x:sU X l}{n j:Nat},j∈sg n l->∃p,(nS l x)[j -n]? =some (some p)
 |[],x,n,j,h=>by simp[sg]at h
 |[q],x,n,j,h=>by
  rcases HV h with ⟨rfl,c,rfl⟩ |h
  .exact⟨_,by simp only[Nat.sub_self];rfl⟩
  .simp[sg]at h
 |q::q'::l,x,n,j,h=>by
  rcases HV h with ⟨rfl,c,rfl⟩ |h
  .exact⟨_,by simp only[Nat.sub_self];rfl⟩
  .have⟨p,hp⟩:=adV (l:=q'::l) (x:=x.2) h;have hge:=XX h;refine⟨p,?_⟩;show(qh q x.1++nS (q'::l) x.2)[j -n]? =_;have hl:=(Hz (q:=q) (x:=x.1)).1;split at hl
   .rename_i e;rw[aY e]at hp hge;rw[jE (by omega),hl,show j -n -1=j -(n+1)by omega];exact hp
   .rename_i e;rw[aR e]at hp hge;rw[jE (by omega),hl,Nat.sub_zero];exact hp
theorem CG:∀{l:U (RT X.ι)}{x:sU X l}{n j:Nat}{p:eZ},(nS l x)[j]? =some (some p)->n+j∈wC n l
 |[],x,n,j,p,h=>by simp[nS]at h
 |[q],x,n,j,p,h=>by
  have h:(qh q x)[j]? =some (some p):=h;cases q<;>simp only[qh,List.getElem?_nil,reduceCtorEq]at h
  case mu c=>cases j<;>simp at h<;>simp[wC]
  case mr c=>cases j<;>simp at h<;>simp[wC]
  case mv=>cases j<;>simp at h
 |q::q'::l,x,n,j,p,h=>by
  have h:(qh q x.1++nS (q'::l) x.2)[j]? =some (some p):=h;cases q
  case mu c=>
   cases j with
   |zero=>simp[wC]
   |succ j=>
    have:=CG (l:=q'::l) (x:=x.2) (n:=n+1) (by simpa[qh]using h);simp only[wC,aN];right;rw[show n+(j+1)=n+1+j by omega];exact this
  case mr c=>
   cases j with
   |zero=>simp[wC]
   |succ j=>
    have:=CG (l:=q'::l) (x:=x.2) (n:=n+1) (by simpa[qh]using h);simp only[wC,aN];right;rw[show n+(j+1)=n+1+j by omega];exact this
  case mv=>
   cases j with
   |zero=>simp[qh]at h
   |succ j=>
    have:=CG (l:=q'::l) (x:=x.2) (n:=n+1) (by simpa[qh]using h);simp only[wC];rw[show n+(j+1)=n+1+j by omega];exact this
  all_goals
   simp only[wC];exact CG (l:=q'::l) (x:=x.2) (by simpa[qh]using h)
theorem adW{rk:U Nat}{wl:U (Nat×Nat)}{n:Nat}{q:RT X.ι}{ds:U (DV X)}{p:(RT.T X q×List Bool)×List (DV X)}(h:M9 get bad rk fk wl n q ds=some p)(hb:∀b∈p.1.2,b=true):∀ej c,q= .mu c->lk wl n=some ej->YP q p.1.1=[ej]:=by
 rintro ej c rfl hl;simp only[M9]at h;rw[ai]at h;obtain⟨o,h1,h⟩:=h;split at h
 .rename_i b l0;have⟨l,h2,h⟩:=ai.1 h;rw[hl]at h;cases h;have h5:(sub l 0 ej).length=ej:=by simpa[az]using hb (az (sub l 0 ej).length ej) (by simp)
  simp only[YP,h5]
 .cases h
theorem K6{rk:U Nat}{wl:U (Nat×Nat)}:∀{n:Nat}{l:U (RT X.ι)}{ds:U (DV X)}{x:sU X l×List Bool},Na get bad rk fk wl n l ds=some x->(∀ b∈x.2,b=true)->∀j ej,n+j∈sg n l->lk wl (n+j)=some ej->(xv l x.1).getD j 0=ej
 |n,[],ds,x,h,hb,j,ej,hm,_=>by simp[sg]at hm
 |n,[q],ds,x,h,hb,j,ej,hm,hl=>by
  simp only[Na]at h;have⟨p,h1,h⟩:=ai.1 h;split at h
  .cases h;rcases HV hm with ⟨e,c,rfl⟩ |hm
   .have e:j=0:=(by omega);subst e;have:=(adW h1 hb) ej c rfl hl;show(YP _ p.1.1).getD 0 0=ej;rw[this];rfl
   .simp[sg]at hm
  .cases h
 |n,q::q'::l,ds,x,h,hb,j,ej,hm,hl=>by
  simp only[Na]at h;have⟨p,h1,h⟩:=ai.1 h;have⟨y,h2,h⟩:=ai.1 h;cases h;have hlen:=(Hz (q:=q) (x:=p.1.1)).2;rcases HV hm with ⟨e,c,rfl⟩ |hm
  .have e:j=0:=(by omega);subst e;have:=(adW h1 (λ b hb'=>hb b (by simp[hb']))) ej c rfl hl;show(YP _ p.1.1++xv (q'::l) y.1).getD 0 0=ej;rw[this];rfl
  .have hge:=XX hm;show(YP _ p.1.1++xv (q'::l) y.1).getD j 0=ej;by_cases hq:q.out=true
   .rw[aY hq]at h2 hm hge hlen;have:=K6 h2 (λ b hb'=>hb b (by simp[hb'])) (j -1) ej (by rw[show n+1+(j -1)=n+j by omega];exact hm) (by rw[show n+1+(j -1)=n+j by omega];exact hl);rw[List.getD_eq_getElem?_getD,jE (by omega),hlen,<- List.getD_eq_getElem?_getD];exact this
   .rw[aR hq]at h2 hm hge hlen;have:=K6 h2 (λ b hb'=>hb b (by simp[hb'])) j ej hm hl;rw[List.getD_eq_getElem?_getD,jE (by omega),hlen,Nat.sub_zero,<- List.getD_eq_getElem?_getD];exact this
theorem aar{rk:U Nat}{wl:U (Nat×Nat)}{ns:U Nat}(hbad:∀j,j∉bad->fk≠some j/\¬kept os' j)(q7:∀k,fk=some k->¬kept os' k)(hns:∀j ej,j∈rk->lk wl j=some ej->ns.getD j 0=ej)(hmu:∀j∈rk,kept os' j):∀{n:Nat}{l:U (RT X.ι)}{ds:U (DV X)}{x:sU X l×List Bool},Na get bad rk fk wl n l ds=some x->(∀ b∈x.2,b=true)->
 nj (fq get) fk os' (bO ds) (A9 ns l x.1)/\∀j t,(nS l x.1)[j]? =some (some t)->∃o,get (n+j)=some o/\(bH o).sz=t.1/\en (fq get) fk os' ((bH o).rows.take t.2.length) t.2
 |n,[],ds,x,h,_=>by
  simp only[Na]at h;split at h
  .exact⟨trivial,λj t ht=>by simp[nS]at ht⟩
  .cases h
 |n,[q],ds,x,h,hb=>by
  simp only[Na]at h;rw[ai]at h;obtain⟨p,h1,h⟩:=h;split at h
  .rename_i hp;cases h;have⟨i1,i2,_⟩:=Wz (ns:=ns) hbad q7 hns hmu h1 hb;rw[hp]at i1;have:=i1 [] trivial;rw[append_nil]at this;refine⟨this,λj t ht=>?_⟩;have ht:(qh q p.1.1)[j]? =some (some t):=ht;have hl:=(Hz (q:=q) (x:=p.1.1)).1;have hj:=(dG.1 ht).1;have hj0:j=0:=(by split at hl<;>omega);subst hj0;refine i2 t ?_
   match ho:qh q p.1.1,ht,hl with
   |[z],ht,_=>simpa using ht
   |[],ht,_=>simp at ht
   |_::_::_,_,hl=>simp only[bJ]at hl;split at hl<;>omega
  .cases h
 |n,q::q'::l,ds,x,h,hb=>by
  simp only[Na]at h;have⟨p,h1,h⟩:=ai.1 h;have⟨y,h2,h⟩:=ai.1 h;cases h;obtain⟨i1,i2,_⟩:=Wz (ns:=ns) hbad q7 hns hmu h1 (λ b hb'=>hb b (by simp[hb']));obtain⟨k1,k2⟩:=aar (ns:=ns) hbad q7 hns hmu h2 (λ b hb'=>hb b (by simp[hb']));refine⟨i1 _ k1,λj t ht=>?_⟩;have ht:(qh q p.1.1++nS (q'::l) y.1)[j]? =some (some t):=ht;have hl:=(Hz (q:=q) (x:=p.1.1)).1;by_cases hq:q.out=true
  .rw[aY hq]at k2 hl;cases j with
   |zero=>
    refine i2 t ?_
    match ho:qh q p.1.1,ht,hl with
    |[z],ht,_=>simpa using ht
    |[],_,hl=>simp at hl
    |_::_::_,_,hl=>simp at hl
   |succ j=>
    rw[jE (by omega),hl,Nat.add_sub_cancel]at ht;rw[show n+(j+1)=n+1+j by omega];exact k2 j t ht
  .rw[aR hq]at k2 hl;rw[jE (by omega),hl,Nat.sub_zero]at ht;exact k2 j t ht
end
theorem nj.R{get:Nat->J aT}{fk:J Nat}{os':U (Option eZ)}:∀{xs:U AV}{cs:U RC},nj get fk os' xs cs->FG get fk os' xs (match cs with |[c]=> .one c |cs=> .eE cs)
 |[],[],_=>rfl
 |[_],[_],h=>h.1
 |_::_::_,_::_::_,h=>h
 |[],_::_,h=>h.elim
 |_::_,[],h=>h.elim
 |[_],_::_::_,h=>h.2.elim
 |_::_::_,[_],h=>h.2.elim
theorem alf{s:df X}{rs:U ResultVar}{l:U (RT X.ι)}{r:sU X l}(h:(YU T s rs λds=>(Pa s l ds).bind λx=>Vz x.2 (some x.1))=some r):∃xs fk,ny T s.st rs=some xs/\FG s.st.obj fk (nS l r) xs (tC l r)/\Mm s.st.obj fk (nS l r):=by
 have⟨ds,h1,h⟩:=JA T h;rw[ai]at h;obtain⟨x,h2,h⟩:=h;have⟨h3,h⟩:=pJ h;cases h;unfold Pa at h2;split at h2
 .rename_i hnb;have hkn:∀j,kept (nS l x.1) j->j∈wC 0 l:=λj ⟨p,hp⟩=>by
   have:=CG (n:=0) hp;simpa using this
  have hbad:∀j,j∉wC 0 l++(PV l ds).toList->PV l ds≠some j/\¬kept (nS l x.1) j:=by
   intro j hj;simp only[aZ,Option.mem_toList,not_or]at hj;exact⟨hj.2,λh=>hj.1 (hkn j h)⟩
  have q7:∀k,PV l ds=some k->¬kept (nS l x.1) k:=λk hk hkk=>D8 hnb k (by simp[hk]) (hkn k hkk);have hmu:∀j∈sg 0 l,kept (nS l x.1) j:=λj hj=>by
   have⟨p,hp⟩:=adV (x:=x.1) hj;exact⟨p,by simpa using hp⟩
  obtain⟨i1,i2⟩:=aar (ns:=xv l x.1) hbad q7 (λ j ej hj hl=>K6 h2 h3 j ej (by simpa using hj) (by simpa using hl)) hmu h2 h3;have gA:s.st.obj=fq (gE s.obj):=rfl;refine⟨bO ds,PV l ds,PU T h1,?_,λj p hp=>?_⟩
  .rw[gA];exact i1.R
  .have⟨o,g1,g2,g3⟩:=i2 j p hp;rw[Nat.zero_add]at g1;exact⟨λ e=>q7 j e ⟨p,hp⟩,bH o,by rw[gA];simp[fq,g1],g2,by rw[gA];exact g3⟩
 .cases h2
variable {Γ:FuncId->Option (b7 X)} {am:TypeId->Option (CT X.ι)} {P:Program}
theorem apo(hT : eY P T)(hm : P.follows .mixedOrders = true)(hΓ : sL P Γ){f : FuncId}{fn : Func}{c : Code}(hfn : P.funcs[f]? = some fn)(hb : fn.body = some c)(hname : (fn.name == "runtime.NumGoroutine") = false)(sa : U (AT X.ι))(sr : U (RT X.ι))(hN : sa.length <= fn.ntmps /\ qi sa <= 1000 /\ (sr.filter RT.out).length = qi sa)
 (h:Hn X.ι) (n:Nat) {a:iM X sa} {r:sU X sr} (hr:run Γ T am fn.ntmps n c (sU X sr) h (xc sa a) (apn T fn.results.toList sr)=some r):qr P f (wo sa a) (qg sa a) (nS sr r) (tC sr r):=by
 have hl:(nS sr r).length=(qg sa a).length:=by
  rw[lq,<- hN.2.2];have:∀(sr:U (RT X.ι))(r:sU X sr),(nS sr r).length=(sr.filter RT.out).length:=by
   intro sr
   induction sr with
   |nil=>intro r;rfl
   |cons q l ih=>
    intro r;have hq:∀x:RT.T X q,(qh q x).length=(if q.out then 1 else 0):=λx=>Hz.1;cases l with
    |nil=>
     show(qh q r).length=_;rw[hq];by_cases e:q.out=true<;>simp[e]
    |cons q' l=>
     show(qh q r.1++nS (q'::l) r.2).length=_;rw[dM,hq,ih r.2];by_cases e:q.out=true<;>simp[List.filter_cons,e];omega
  exact this sr r
 refine ai5 hT hfn hb hname (by rw[lg];exact hN.1) (λ k hk=>?_) (by rw[lq];exact hN.2.1) hl ?_
 .rw[wo,<- sG,ig]at hk;have:=oQ 0 sa a k hk;have:=hN.2.1;omega
 .rw[<- aoM];refine(kN hT hm hΓ c _ h _ _ r (ane sa a hN.2.1) hr).mono ?_;rintro e σ ⟨s',_,_,rfl,g4⟩;cases e<;>first |exact alf g4 |cases g4
theorem ng{f : FuncId}{fn : Func}{c : Code}(hfn : P.funcs[f]? = some fn)(hb : fn.body = some c)(hname : (fn.name == "runtime.NumGoroutine") = false): eO P f := ⟨fn, hfn, by rw [hb]; rfl, hname⟩
abbrev AE(P:Program)(f:FuncId)(s:b7 X):Prop:=eO P f/\(∀ a r,s.fn a=some r->qr P f (wo s.args a) (qg s.args a) (nS s.res r) (tC s.res r))/\∀g,s.gen=some g->Fo P f g
theorem zr{P:Program}{f:FuncId}{s:b7 X}(h:eO P f)(h1:∀a r,s.fn a=some r->qr P f (wo s.args a) (qg s.args a) (nS s.res r) (tC s.res r))(hg:s.gen=none):AE P f s:=⟨h,h1,λg e=>by rw[hg]at e;cases e⟩
theorem L4{P:Program}{f:FuncId}{g:c7 X}(h:eO P f)(hg:Fo P f g):AE P f ⟨[],[.d .bool],λ_=>none,some g⟩:=⟨h,λ_ _ e=>(by cases e),λ_ e=>(by cases e;exact hg)⟩
def pb(s t:b7 X):b7 X:=⟨s.args,s.res,s.fn,t.gen⟩
def xm(l:U (FuncId×b7 X)):FuncId->J (b7 X):=λf=>lk l f
theorem aB:sL P (xm ([]:U (FuncId×b7 X))):=λ_ _ h=>by cases h
theorem au{f:FuncId}{s:b7 X}{l:U (FuncId×b7 X)}(h:AE P f s)(hl:sL P (xm l)):sL P (xm ((f,s)::l)):=by
 intro g q hg;simp only[xm,lk]at hg;split at hg
 .rename_i e;cases hg;subst e;exact h
 .exact hl g q hg
end
section
variable {X:SX} {T:eb}
theorem K7(ol:Nat->Nat):∀(ps:U (Pt X.ι))(L:U (DC X)),(lh ol ps L).1.length=ps.length
 |[],_=>rfl
 |p::ps,L=>by simp only[lh,bJ,K7 ol ps]
def c7.AS(g:c7 X):Bool:=
 decide (g.i6.map (·.1)=List.range g.i6.length)&&decide (g.i6.length<=1000)&&((Ba g.pC).all λk=>Nat.blt k 1000)&&g.i6.all λq=>q.2.refs.all λk=>Nat.blt k 1000
def E7(g:c7 X)(v:VT (X:=X) (cQ g.pC++cH g.i6)):df X:=⟨(List.range g.pC.length).zip (g.args v),Lk g.pC g.i6 (wh _ v),1000,[]⟩
theorem u6{ol:Nat->Nat}:∀(O:U (Nat×OP X.ι))(L:U (DC X)),dn ol O L=(dJ (dn ol O L)).map λp=>(p.1,some p.2)
 |[],L=>rfl
 |(k,.l c)::O,L=>by
  match L with
  |[]=>rfl
  |⟨.sl c',x⟩::L=>simp only[dn,dJ,aF];rw[<- u6 O L]
  |⟨.int _,x⟩::L=>rfl
  |⟨.bool,x⟩::L=>rfl
  |⟨.str,x⟩::L=>rfl
  |⟨.any,x⟩::L=>rfl
  |⟨.st _,x⟩::L=>rfl
  |⟨.mp _ _,x⟩::L=>rfl
 |(k,.m kc vc)::O,L=>by
  match L with
  |[]=>rfl
  |⟨.mp _ _,x⟩::L=>simp only[dn,dJ,aF];rw[<- u6 O L]
  |⟨.sl _,x⟩::L=>rfl
  |⟨.int _,x⟩::L=>rfl
  |⟨.bool,x⟩::L=>rfl
  |⟨.str,x⟩::L=>rfl
  |⟨.any,x⟩::L=>rfl
  |⟨.st _,x⟩::L=>rfl
 |(k,.c sz rows)::O,L=>by simp only[dn,dJ,aF];rw[<- u6 O _]
theorem Ea{ol:Nat->Nat}:∀(O:U (Nat×OP X.ι))(L:U (DC X)),L.map (·.c)=cH O->(dJ (dn ol O L)).map (·.1)=O.map (·.1)
 |[],L,_=>rfl
 |(k,.l c)::O,L,h=>by
  match L,h with
  |⟨.sl c',x⟩::L,h=>
   simp only[aF,cH,List.cons.injEq]at h;simp only[dn,dJ,aF,Ea O L h.2]
  |[],h=>simp[cH]at h
  |⟨.int _,x⟩::L,h=>simp[cH]at h
  |⟨.bool,x⟩::L,h=>simp[cH]at h
  |⟨.str,x⟩::L,h=>simp[cH]at h
  |⟨.any,x⟩::L,h=>simp[cH]at h
  |⟨.st _,x⟩::L,h=>simp[cH]at h
  |⟨.mp _ _,x⟩::L,h=>simp[cH]at h
 |(k,.m kc vc)::O,L,h=>by
  match L,h with
  |⟨.mp _ _,x⟩::L,h=>
   simp only[aF,cH,List.cons.injEq]at h;simp only[dn,dJ,aF,Ea O L h.2]
  |[],h=>simp[cH]at h
  |⟨.sl _,x⟩::L,h=>simp[cH]at h
  |⟨.int _,x⟩::L,h=>simp[cH]at h
  |⟨.bool,x⟩::L,h=>simp[cH]at h
  |⟨.str,x⟩::L,h=>simp[cH]at h
  |⟨.any,x⟩::L,h=>simp[cH]at h
  |⟨.st _,x⟩::L,h=>simp[cH]at h
 |(k,.c sz rows)::O,L,h=>by
  simp only[cH]at h;simp only[dn,dJ,aF,Ea O _ (K3 (ol:=ol) rows L _ h).1]
theorem ajy(g:c7 X)(v:VT (X:=X) (cQ g.pC++cH g.i6))(h:g.i6.map (·.1)=List.range g.i6.length):(g.cE v).map (·.1)=List.range (g.cE v).length:=by
 have e:(g.cE v).map (·.1)=g.i6.map (·.1):=Ea g.i6 _ (by rw[map_drop,X2,List.drop_left]);have l:=congrArg List.length e;rw[length_map,length_map]at l;rw[e,h,l]
theorem WA(k:Nat):∀l:U (Nat×bm X),gE (l.map λp=>(p.1,some p.2)) k=tx l k
 |[]=>rfl
 |p::l=>by
  simp only[aF,gE,lk,tx];split
  .rfl
  .exact WA k l
theorem alg(t:Nat):∀(ks:U Nat)(ds:U (DV X)),den (eQ (ks.zip ds) t)=(lk (ks.zip (bO ds)) t).getD .undef:=by
 intro ks
 induction ks with
 |nil=>intro ds;rfl
 |cons k ks ih=>
  intro ds;cases ds with
  |nil=>rfl
  |cons d ds=>
   simp only[List.zip_cons_cons,eQ,lk,bO];by_cases h:k=t
   .simp[h]
   .simp only[aR h];exact ih ds
theorem aas(t:Nat):∀(ks:U Nat)(ds:U (DV X)),∀j∈bk (eQ (ks.zip ds) t),j∈aP ds:=by
 intro ks
 induction ks with
 |nil=>intro ds j hj;simp[eQ,lk,bk]at hj
 |cons k ks ih=>
  intro ds j hj;cases ds with
  |nil=>simp[eQ,lk,bk]at hj
  |cons d ds=>
   simp only[List.zip_cons_cons,eQ,lk]at hj;simp only[aP,aZ];by_cases e:k=t
   .simp only[aY e,Option.getD_some]at hj;exact .inl hj
   .simp only[aR e]at hj;exact .inr (ih ds j hj)
def Eb(O:U (Nat×OP X.ι)):U (Nat×Pt X.ι)->U (Nat×CT X.ι)
 |[]=>[]
 |(t,.o k)::r=>match lk O k with
  |some (.l c)=>(t,c)::Eb O r
  |_=>Eb O r
 |(t,.oz k)::r=>match lk O k with
  |some (.l c)=>(t+1099511627776,c)::Eb O r
  |_=>Eb O r
 |_::r=>Eb O r
def WB(O:U (Nat×OP X.ι)):U (Nat×OP X.ι)->U (Nat×CT X.ι)
 |(q,.c _ [row])::r=>(Eb O (lj (1000000+q*4096) row)).filter (λ p=>Nat.ble p.1 1000000000)++WB O r
 |_::r=>WB O r
 |[]=>[]
def Ae(g:c7 X):Sh X.ι:=⟨lj 0 g.fL,g.iz,[],[],1000000,Eb g.iz (lj 0 g.fL)++WB g.iz g.iz⟩
def aom(T:eb)(rs:U ResultVar)(g:c7 X):Exit->df X->J (VT (X:=X) (Ae g).vars)
 | .normal,s=>YU T s rs λds=>bif decide (ds.length=g.fL.length)&&(aP ds).all (λ k=>Nat.blt k s.nx)then
  qj (Ae g) (List.range ds.length) ⟨(List.range ds.length).zip ds,s.obj,s.nx,s.log⟩ ⟨(List.range ds.length).zip ds,s.obj,s.nx,s.log⟩ some else none
 | .ret,s=>YU T s rs λds=>bif decide (ds.length=g.fL.length)&&(aP ds).all (λ k=>Nat.blt k s.nx)then
  qj (Ae g) (List.range ds.length) ⟨(List.range ds.length).zip ds,s.obj,s.nx,s.log⟩ ⟨(List.range ds.length).zip ds,s.obj,s.nx,s.log⟩ some else none
 |_,_=>none
theorem WC{ol:Nat->Nat}(t:Nat):∀(n:Nat)(ps:U (Pt X.ι))(L:U (DC X)),eQ (KZ ol (lj n ps) L) (n+t)=((lh ol ps L).1[t]?).getD .undef
 |n,[],L=>by simp[lj,KZ,eQ,lk,lh]
 |n,p::ps,L=>by
  simp only[lj,KZ,eQ,lk,lh];cases t with
  |zero=>simp
  |succ t=>
   rw[aR (by omega)];have:=WC (ol:=ol) t (n+1) ps (eP ol p L).2;rw[show n+1+t=n+(t+1)by omega]at this;simpa[eQ]using this
theorem ajz {P:Program} {g:c7 X} {s:df X} {rs:U ResultVar} {r:VT (X:=X) (Ae g).vars} (hl:Low s) (h:(YU T s rs λds=>bif decide (ds.length=g.fL.length)&&(aP ds).all (λ k=>Nat.blt k s.nx)then
 qj (Ae g) (List.range ds.length) ⟨(List.range ds.length).zip ds,s.obj,s.nx,s.log⟩ ⟨(List.range ds.length).zip ds,s.obj,s.nx,s.log⟩ some else none)=some r):
 ∃xs,ny T s.st rs=some xs/\Mb P s.st.obj xs (tu (g.outs r)) (den (g.res r)):=by
 have⟨ds,h1,h⟩:=JA T h;have⟨h2,h⟩:=eu h;simp only[aL,aV]at h2;obtain⟨h2,h3⟩:=h2;have hl':Low (⟨(List.range ds.length).zip ds,s.obj,s.nx,s.log⟩:df X):=⟨hl.le,hl.ge,λt k hk=>by
  have:=all_eq_true.1 h3 k (aas t _ _ k hk);exact Nat.blt_eq.mp this,hl.obj⟩
 obtain⟨v,h4,_,_,hrel⟩:=kZ hl' hl' (Ext.refl _ _) h;injection h4 with h4;subst h4;refine⟨bO ds,PU T h1,λw0 O0 β I w vs hM hv=>?_⟩;have hvl:=aE.length _ _ hv;simp only[Array.length_toList,kW]at hvl;have hR:Rel P w0 O0 vs.size β I (⟨(List.range ds.length).zip ds,s.obj,s.nx,s.log⟩:df X).st { tmps:=vs,defers:=[] } w:=by
  refine⟨rfl,rfl,λt=>?_,hM⟩;show VR P β w I (den (eQ ((List.range ds.length).zip ds) t)) (vs.getD t undef);rw[alg,show List.range ds.length=List.range (bO ds).length by rw[kW],AZ];cases ht:(bO ds)[t]? with
  |none=>simp[VR]
  |some x=>
   obtain⟨u,g1,g2⟩:=aE.get _ _ t _ hv ht;rw[Array.getElem?_toList]at g1;simp only[Option.getD_some,Array.getD_eq_getD_getElem?,g1];exact g2
 obtain⟨β',hR'⟩:=hrel P w0 O0 _ β I _ w hR;have hn:(gS (lj 0 g.fL)).length=(cQ g.fL).length:=by rw[PE]
 refine⟨β',I,?_,λ_ h=>h,?_⟩
 .have:=hR'.mem;have e:(encS (Ae g) ⟨(List.range ds.length).zip ds,s.obj,s.nx,s.log⟩ v).st.obj=oa (tu (g.outs v)):=by
   funext k;simp only[df.st,encS,Ae,map_nil,append_nil,PL,c7.outs,Lk];rw[u6,WA,<- hn];rfl
  rw[e]at this;exact this
 .obtain⟨pv,hpv⟩:∃pv,pv=VN g.fL g.iz (wh (Ae g).vars v):=⟨_,rfl⟩;have hres:g.res v=yJ pv:=by rw[hpv];rfl
  have ra:∀t,VR P β' w I (den ((pv[t]?).getD .undef)) (vs.getD t undef):=by
   intro t;have:=hR'.env t;simp only[df.st,eK,encS,Ae,map_nil,append_nil]at this;have e:=WC (ol:=DU g.iz ((wh (Ae g).vars v).drop (cQ g.fL).length)) t 0 g.fL ((wh (Ae g).vars v).take (cQ g.fL).length);rw[Nat.zero_add]at e;rw[hpv];simp only[VN];rw[<- e,<- hn];exact this
  have hpl:pv.length=g.fL.length:=by rw[hpv];exact K7 _ _ _
  have hsz:vs.size=pv.length:=by rw[hpl,<- h2,hvl]
  rw[hres];have hall:aE P β' w I (bO pv) vs.toList:=by
   have gen:∀(pv:U (DV X)) (us:U Value),us.length=pv.length->(∀ t,t<pv.length->VR P β' w I (den ((pv[t]?).getD .undef)) (us.getD t undef))->aE P β' w I (bO pv) us:=by
    intro pv
    induction pv with
    |nil=>intro us hl _;cases us<;>simp_all [bO,aE]
    |cons d pv ih=>
     intro us hl hh;cases us with
     |nil=>simp at hl
     |cons u us=>
      simp only[bO,aE];refine⟨by simpa using hh 0 (by simp),ih us (by simpa using hl) λt ht=>by simpa using hh (t+1) (by simpa using ht)⟩
   refine gen pv vs.toList (by simpa using hsz) λt ht=>?_;have e:vs.toList.getD t undef=vs.getD t undef:=(by simp[List.getD_eq_getElem?_getD,Array.getD_eq_getD_getElem?]);rw[e];exact ra t
  match pv,hsz,hall with
  |[d],hsz,hall=>
   obtain⟨u,rfl⟩:=Array.size_eq_one_iff.1 (show vs.size=1 by simpa using hsz);simp only[bO,aE]at hall;simpa[yJ]using hall.1
  |[],hsz,hall=>
   have h1:¬vs.size=1:=(by rw[hsz];simp);rw[dif_neg h1];simp only[yJ,den,VR];exact⟨vs,rfl,hall⟩
  |d::e::pv,hsz,hall=>
   have h1:¬vs.size=1:=(by rw[hsz];simp);rw[dif_neg h1];simp only[yJ,den,VR];exact⟨vs,rfl,hall⟩
variable {Γ:FuncId->Option (b7 X)} {am:TypeId->Option (CT X.ι)} {P:Program}
theorem aoN(hT : eY P T)(hm : P.follows .mixedOrders = true)(hΓ : sL P Γ){f : FuncId}{fn : Func}{c : Code}(hfn : P.funcs[f]? = some fn)(hb : fn.body = some c)(hname : (fn.name == "runtime.NumGoroutine") = false)(g : c7 X)(hN : g.pC.length <= fn.ntmps)(hin : g.AS = true)
 (h:Hn X.ι) (n:Nat) (hr:∀v (r:VT (X:=X) (Ae g).vars),g.fn v=some r->run Γ T am fn.ntmps n c (VT (X:=X) (Ae g).vars) h (E7 g v) (aom T fn.results.toList g)=some r):Fo P f g:=by
 intro v r hv;have hrun:=hr v r hv;simp only[c7.AS,aL,aV]at hin;obtain⟨⟨⟨i1,i2⟩,i3⟩,i4⟩:=hin;obtain⟨s1,s2,_⟩:=yM (ol:=DU g.i6 ((wh (cQ g.pC++cH g.i6) v).drop (cQ g.pC).length)) g.i6 ((wh _ v).drop (cQ g.pC).length);have hargs:∀k∈aP (g.args v),k<1000:=λk hk=>Nat.blt_eq.mp (all_eq_true.1 i3 k (yL g.pC _ k hk));have tt:∀p∈g.cE v,p.1<1000/\∀j∈d6 p.2,j<1000:=by
  intro p hp;have⟨op,g1,g2⟩:=s2 p hp;have hk:p.1∈g.i6.map (·.1):=mem_map.2 ⟨_,g1,rfl⟩;rw[i1]at hk;have:=List.mem_range.1 hk;exact⟨by omega,λj hj=>Nat.blt_eq.mp (all_eq_true.1 (all_eq_true.1 i4 _ g1) j (g2 j hj))⟩
 have hal:(g.args v).length=g.pC.length:=K7 _ _ _;have hkeys:(g.cE v).map (·.1)=List.range (g.cE v).length:=ajy g v i1;have gA:∀k,gE (E7 g v).obj k=tx (g.cE v) k:=by
  intro k;show gE (dn _ g.i6 _) k=tx (dJ (dn _ g.i6 _)) k;rw[u6,WA,<- u6]
 have SP:∀(l:U (Nat×bm X))(n:Nat),l.map (·.1)=(List.range l.length).map (n+ ·)->∀k,tx l (n+k)=(l[k]?).map (·.2):=by
  intro l
  induction l with
  |nil=>intro n _ k;rfl
  |cons p l ih=>
   intro n hn k;rw[bJ,List.range_succ_eq_map,aF,aF,map_map]at hn;injection hn with e1 e2;simp only[tx];cases k with
   |zero=>rw[aY (by omega)];rfl
   |succ k=>
    rw[aR (by omega),show n+(k+1)=(n+1)+k by omega,ih (n+1) (by rw[e2];refine map_congr_left λa _=>?_;simp only[Function.comp_apply];omega) k];rfl
 have hlow:Low (E7 g v):=by
  refine⟨by show 1000<=1000000;decide,aC _,λt k hk=>hargs k (aas t _ _ k hk),λk o ho=>?_⟩;rw[gA]at ho;have hmem:∀(l:U (Nat×bm X)),tx l k=some o->(k,o)∈l:=by
   intro l
   induction l with
   |nil=>intro h;simp[tx]at h
   |cons p l ih=>
    intro h;simp only[tx]at h;split at h
    .rename_i e;cases h;subst e;exact List.mem_cons_self
    .exact eG _ (ih h)
  exact tt _ (hmem _ ho)
 refine ai6 hT hfn hb hname (by rw[kW,hal];exact hN) (λ k hk=>hargs k (by rwa [ig]at hk)) (by rw[length_map,<- length_map (f:=Prod.fst),hkeys,List.length_range];have:=s1.length_le;rw[length_map,length_map]at this;exact Nat.le_trans this i2) ?_ ?_
 .intro o ho r' hr' x hx j hj;obtain⟨p,hp,rfl⟩:=mem_map.1 ho;exact(tt p hp).2 j (Wo hr' hx j hj)
 .have e:ry.st ⟨(List.range (bO (g.args v)).length).zip (bO (g.args v)),(List.range ((g.cE v).map λp=>bH p.2).length).zip ((g.cE v).map λp=>bH p.2)⟩=(E7 g v).st:=by
   simp only[df.st,ry.st,St.mk.injEq,and_true];refine⟨?_,?_⟩
   .funext t;simp only[E7];rw[alg,kW,hal]
   .funext k;rw[AZ,gA,List.getElem?_map];have:=SP (g.cE v) 0 (by rw[hkeys];simp) k;rw[Nat.zero_add]at this;rw[this,Option.map_map];rfl
  rw[e];refine(kN hT hm hΓ c _ h _ _ r hlow hrun).mono ?_;rintro e σ ⟨s',hl',_,rfl,g4⟩;cases e<;>first |exact ajz hl' g4 |cases g4
end
section
variable {P:Program} {f F:FuncId} {E:TypeId} {α:Type} {enc:α->Value} {d:α}
end
section
variable {X:SX}
end
section
variable {X:SX}
def zK{α β:Type}(f:α->J β):U α->J (List β)
 |[]=>some []
 |x::xs=>(f x).bind λy=>(zK f xs).bind λys=>some (y::ys)
def m8(dq:(i j:X.ι)->Decidable (i=j))(i:X.ι):CT X.ι->J CS
 | .int k=>some (.int k)
 | .bool=>some .bool
 | .str=>some .str
 | .sl (.st j)=>match dq j i with
  | .isTrue _=>some .back
  | .isFalse _=>none
 |_=>none
def aon(dq:(i j:X.ι)->Decidable (i=j))(i:X.ι):Bool:=(X.cR i).any λc=>match c with
 | .sl (.st j)=>match dq j i with
  | .isTrue _=>true
  | .isFalse _=>false
 |_=>false
def apq(dq:(i j:X.ι)->Decidable (i=j)):CT X.ι->J (List CS)
 | .st i=>bif aon dq i then zK (m8 dq i) (X.cR i)else none
 |_=>none
theorem aoO(dq:(i j:X.ι)->Decidable (i=j)){i:X.ι}{row:U CS}(hm:zK (m8 dq i) (X.cR i)=some row){x:Tree}(h:GM row x):∃l:U (CT.T X.toSE (.st i)),x= .sl (l.map (CT.row X.toSE (.st i))):=by
 refine GM.rec (row:=row) (motive_1:=λx _=>∃l:U (CT.T X.toSE (.st i)),x= .sl (l.map (CT.row X.toSE (.st i)))) (motive_2:=λrows _=>∃l:U (CT.T X.toSE (.st i)),rows=l.map (CT.row X.toSE (.st i)))
  (motive_3:=λcs r _=>∀codes:U (CT X.ι),zK (m8 dq i) codes=some cs->∃h:HL X.toSE codes,r=HL.row X.toSE codes h) ?_ ?_ ?_ ?_ ?_ ?_ h
 .rintro rows _ _ ⟨l,rfl⟩;exact⟨l,rfl⟩
 .exact⟨[],rfl⟩
 .rintro r rs _ _ h1 ⟨l,rfl⟩;obtain⟨q,rfl⟩:=h1 _ hm;exact⟨(X.make i q:X.T i)::l,by rw[aF];congr 1;exact(X.gi i q).symm⟩
 .intro codes hc;cases codes with
  |nil=>exact⟨(),rfl⟩
  |cons c codes=>
   simp only[zK,ai]at hc;obtain⟨_,_,_,_,h⟩:=hc;cases h
 .intro cs x xs _ _ h1 h2 codes hc;obtain⟨l,rfl⟩:=h1;cases codes with
  |nil=>simp[zK]at hc
  |cons c codes=>
   simp only[zK,ai]at hc;obtain⟨c',g1,cs',g2,g3⟩:=hc;injection g3 with g3;injection g3 with g4 g5;subst g4 g5;obtain⟨q,rfl⟩:=h2 _ g2
   match c,g1 with
   | .sl (.st j),g1=>
    simp only[m8]at g1;split at g1
    .rename_i hj _;subst hj;exact⟨(l,q),rfl⟩
    .cases g1
   | .int _,g1=>simp[m8]at g1
   | .bool,g1=>simp[m8]at g1
   | .str,g1=>simp[m8]at g1
   | .any,g1=>simp[m8]at g1
   | .st _,g1=>simp[m8]at g1
   | .mp _ _,g1=>simp[m8]at g1
   | .sl (.int _),g1=>simp[m8]at g1
   | .sl .bool,g1=>simp[m8]at g1
   | .sl .str,g1=>simp[m8]at g1
   | .sl .any,g1=>simp[m8]at g1
   | .sl (.sl _),g1=>simp[m8]at g1
   | .sl (.mp _ _),g1=>simp[m8]at g1
 .intro c' cs x xs hf _ h2 codes hc;cases codes with
  |nil=>simp[zK]at hc
  |cons c codes=>
   simp only[zK,ai]at hc;obtain⟨c2,g1,cs',g2,g3⟩:=hc;injection g3 with g3;injection g3 with g4 g5;subst g4 g5;obtain⟨q,rfl⟩:=h2 _ g2
   match c,g1 with
   | .int k,g1=>
    cases g1;obtain⟨n,rfl,_⟩:=hf;exact⟨(n,q),rfl⟩
   | .bool,g1=>
    cases g1;obtain⟨n,rfl⟩:=hf;exact⟨(n,q),rfl⟩
   | .str,g1=>
    cases g1;obtain⟨n,rfl,_⟩:=hf;exact⟨(n,q),rfl⟩
   | .sl (.st j),g1=>
    simp only[m8]at g1;split at g1
    .cases g1;exact hf.elim
    .cases g1
   | .any,g1=>simp[m8]at g1
   | .st _,g1=>simp[m8]at g1
   | .mp _ _,g1=>simp[m8]at g1
   | .sl (.int _),g1=>simp[m8]at g1
   | .sl .bool,g1=>simp[m8]at g1
   | .sl .str,g1=>simp[m8]at g1
   | .sl .any,g1=>simp[m8]at g1
   | .sl (.sl _),g1=>simp[m8]at g1
   | .sl (.mp _ _),g1=>simp[m8]at g1
def sE:Nat->CT X.ι->J (List CS)
 | 0,_=>none
 |_+1,.int k=>some [.int k]
 |_+1,.bool=>some [.bool]
 |_+1,.str=>some [.str]
 |_+1,.any=>some [.any]
 |_+1,.mp _ _=>none
 |n+1,.sl e=>match apq X.dec e with
  |some row=>some [.mu row]
  |none=>(sE n e).bind λr=>some [.sl r]
 |n+1,.st i=>(zK (sE n) (X.cR i)).bind λl=>some l.flatten
def uc(n:Nat)(c:CT X.ι):J VS:=
 match c with
 | .st i=>(sE n (.st i:CT X.ι)).map .agg
 |c=>(sE n c).bind λl=>match l with
  |[x]=>some (.one x)
  |_=>none
theorem RG:∀(a b:U CS)(ys:U Tree),c9 (a++b) ys->∃ya yb,ys=ya++yb/\c9 a ya/\c9 b yb
 |[],b,ys,h=>⟨[],ys,rfl,trivial,h⟩
 |c::a,b,y::ys,h=>by
  simp only[cons_append,c9]at h;obtain⟨ya,yb,rfl,h1,h2⟩:=RG a b ys h.2;exact⟨y::ya,yb,rfl,⟨h.1,h1⟩,h2⟩
 |_::_,_,[],h=>h.elim
theorem adX{c:CT X.ι}{cs:U CS}(h:∀ys,c9 cs ys->∃x:CT.T X.toSE c,ys=CT.row X.toSE c x):∀rows:U (List Tree),(∀ r∈rows,c9 cs r)->∃l:U (CT.T X.toSE c),rows=l.map (CT.row X.toSE c)
 |[],_=>⟨[],rfl⟩
 |r::rows,hr=>by
  obtain⟨x,hx⟩:=h r (hr r (by simp));obtain⟨l,hl⟩:=adX h rows λq hq=>hr q (eG _ hq);exact⟨x::l,by rw[aF,<- hx,<- hl]⟩
theorem alh{f:CT X.ι->J (List CS)}(hf:∀c cs,f c=some cs->∀ys,c9 cs ys->∃x:CT.T X.toSE c,ys=CT.row X.toSE c x):∀(l:U (CT X.ι))(css:U (List CS)),zK f l=some css->∀ys,c9 css.flatten ys->∃h:HL X.toSE l,ys=HL.row X.toSE l h
 |[],css,h,ys,hy=>by
  simp only[zK,aA]at h;subst h;cases ys with
  |nil=>exact⟨(),rfl⟩
  |cons y ys=>exact hy.elim
 |c::l,css,h,ys,hy=>by
  simp only[zK]at h;have⟨a,h1,h⟩:=ai.1 h;have⟨b,h2,h⟩:=ai.1 h;cases h;simp only[flatten_cons]at hy;obtain⟨ya,yb,rfl,g1,g2⟩:=RG _ _ _ hy;have⟨x,hx⟩:=hf c a h1 ya g1;have⟨q,hq⟩:=alh hf l b h2 yb g2;exact⟨(x,q),by rw[hx,hq];rfl⟩
theorem Ux:∀(n:Nat)(c:CT X.ι)(cs:U CS),sE n c=some cs->∀ys,c9 cs ys->∃x:CT.T X.toSE c,ys=CT.row X.toSE c x
 | 0,_,_,h,_,_=>by cases h
 |n+1,.mp _ _,cs,h,ys,hy=>by simp[sE]at h
 |n+1,.int k,cs,h,ys,hy=>by
  simp only[sE,aA]at h;subst h
  match ys,hy with
  |[y],hy=>
   simp only[c9,Fit,and_true]at hy;obtain⟨m,rfl,_⟩:=hy;exact⟨m,rfl⟩
  |[],hy=>exact hy.elim
  |_::_::_,hy=>exact hy.2.elim
 |n+1,.bool,cs,h,ys,hy=>by
  simp only[sE,aA]at h;subst h
  match ys,hy with
  |[y],hy=>
   simp only[c9,Fit,and_true]at hy;obtain⟨m,rfl⟩:=hy;exact⟨m,rfl⟩
  |[],hy=>exact hy.elim
  |_::_::_,hy=>exact hy.2.elim
 |n+1,.str,cs,h,ys,hy=>by
  simp only[sE,aA]at h;subst h
  match ys,hy with
  |[y],hy=>
   simp only[c9,Fit,and_true]at hy;obtain⟨m,rfl,_⟩:=hy;exact⟨m,rfl⟩
  |[],hy=>exact hy.elim
  |_::_::_,hy=>exact hy.2.elim
 |n+1,.any,cs,h,ys,hy=>by
  simp only[sE,aA]at h;subst h
  match ys,hy with
  |[y],hy=>exact⟨y,rfl⟩
  |[],hy=>exact hy.elim
  |_::_::_,hy=>exact hy.2.elim
 |n+1,.sl e,cs,h,ys,hy=>by
  simp only[sE]at h;split at h
  .rename_i row hm;cases h
   match ys,hy with
   |[y],hy=>
    simp only[c9,Fit,and_true]at hy;cases e with
    |st i=>
     simp only[apq]at hm;cases hb:aon X.dec i with
     |false=>rw[hb]at hm;cases hm
     |true=>
      rw[hb]at hm;have⟨l,hl⟩:=aoO X.dec hm hy;exact⟨l,by rw[hl];rfl⟩
    |_=>cases hm
   |[],hy=>exact hy.elim
   |_::_::_,hy=>exact hy.2.elim
  have⟨r,h1,h⟩:=ai.1 h;cases h
  match ys,hy with
  |[y],hy=>
   simp only[c9,Fit,and_true]at hy;obtain⟨rows,rfl,_,hr⟩:=hy;have⟨l,hl⟩:=adX (Ux n e r h1) rows hr;exact⟨l,by rw[hl];rfl⟩
  |[],hy=>exact hy.elim
  |_::_::_,hy=>exact hy.2.elim
 |n+1,.st i,cs,h,ys,hy=>by
  simp only[sE]at h;rw[ai]at h;obtain⟨css,h1,h⟩:=h;cases h;have⟨q,hq⟩:=alh (Ux n) (X.cR i) css h1 ys hy;exact⟨X.make i q,by rw[hq];exact(X.gi i q).symm⟩
theorem ang{n:Nat}{c:CT X.ι}{s:VS}(h:uc n c=some s){x:TV}(hx:xz s x):∃y:CT.T X.toSE c,x=CT.tv X.toSE c y:=by
 have one:∀c:CT X.ι,c.one=true->((sE n c).bind λl=>match l with
  |[x]=>some (VS.one x)
  |_=>none)=some s->∃y:CT.T X.toSE c,x=CT.tv X.toSE c y:=by
  intro c hc h;rw[ai]at h;obtain⟨l,h1,h⟩:=h;split at h
  .rename_i z;cases h;simp only[xz]at hx;obtain⟨t,rfl,ht⟩:=hx;obtain⟨y,hy⟩:=Ux n c _ h1 [t] ⟨ht,trivial⟩;obtain⟨t',e1,e2⟩:=row_one hc y;rw[e1]at hy;cases hy;exact⟨y,e2.symm⟩
  .cases h
 cases c
 case st i=>
  simp only[uc,dI]at h;obtain⟨cs,h1,rfl⟩:=h;simp only[xz]at hx;obtain⟨ys,rfl,hy⟩:=hx;obtain⟨y,hy⟩:=Ux n (.st i) _ h1 ys hy;exact⟨y,by rw[hy];rfl⟩
 all_goals exact one _ rfl h
theorem adY(n:Nat):∀(cs:U (CT X.ι))(ss:U VS),zK (uc n) cs=some ss->∀xs,KD ss xs->∃h:HL X.toSE cs,xs=HL.mm X.toSE cs h
 |[],ss,h,xs,hx=>by
  simp only[zK,aA]at h;subst h;cases xs with
  |nil=>exact⟨(),rfl⟩
  |cons x xs=>exact hx.elim
 |c::cs,ss,h,xs,hx=>by
  simp only[zK]at h;have⟨a,h1,h⟩:=ai.1 h;have⟨b,h2,h⟩:=ai.1 h;cases h;cases xs with
  |nil=>exact hx.elim
  |cons x xs=>
   obtain⟨y,rfl⟩:=ang h1 hx.1;obtain⟨q,rfl⟩:=adY n cs b h2 xs hx.2;exact⟨(y,q),rfl⟩
theorem ali{P:Program}{f:FuncId}{n N:Nat}{cs:U (CT X.ι)}{ss:U VS}{fn:Nat->iM X (cs.map AT.d)->J Bool}(hc:∀k,AE P f ⟨cs.map AT.d,[.d .bool],fn k,none⟩)(hs:zK (uc n) cs=some ss)(hl:∀q:HL X.toSE cs,KD ss (HL.mm X.toSE cs q)->xy (HL.mm X.toSE cs q)<=N->∃k,fn k (hlA cs q)=some true)(xs:U TV)(h:KD ss xs)(hb:xy xs<=N):
 rh P f (xs.map TV.av) (.one (.d (.s (.sc (.bool true))))):=by
 obtain⟨q,rfl⟩:=adY n cs ss hs xs h;have⟨k,hk⟩:=hl q h hb;have h1:=(hc k).2.1 (hlA cs q) true hk;have h2:=h1;rw[wu (Uu cs)]at h2;have h3:qr P f (wo (cs.map AT.d) (hlA cs q)) [] [] (.one (.d (.s (.sc (.bool true))))):=h2;have h4:=ML h3;rw[wo,Jt]at h4;exact h4
end
end Go.Gb
