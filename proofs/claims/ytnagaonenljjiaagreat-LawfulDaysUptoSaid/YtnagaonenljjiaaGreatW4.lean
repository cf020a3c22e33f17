import Derived.Test.YtnagaonenljjiaaGreatW3
open List (mem_map all_eq_true cons_append length_map append_nil map_map map_congr_left flatten_cons map_nil all_cons map_take map_drop map_append mem_append_right)
namespace Go.Gb
open Go.RowKit
section
variable {X:SX} {A:Type}
theorem V0:∀(l:List (CT X.ι))(v:VT (X:=X) l),(wY l v).map (·.c)=l
 |[],_=>rfl
 |[_],_=>rfl
 |c::c'::l,v=>by simp only[wY,aC,V0 (c'::l) v.2]
theorem QY:∀{l:List Tree},(∀ t∈l,t.flat)->pV (l.map AV.t)
 |[],_=>trivial
 |t::l,h=>⟨h t (by simp),QY (λ u hu=>h u (by simp[hu]))⟩
theorem abR{c:CT X.ι}(h:yV c=true)(x:CT.T X.toSE c):vI (CT.tv X.toSE c x).av:=by
 have hf:=vM h x;cases c
 case st i=>exact QY hf
 all_goals first |exact hf _ (aY.2 rfl) |cases h
section
variable {ol:Nat->Nat}
mutual
theorem alK:∀(p:Pt X.ι)(L:List (DC X))(cs:List (CT X.ι)),L.map (·.c)=p.vars++cs->p.vars.all yV=true->vI (den (eP ol p L).1)/\(eP ol p L).2.map (·.c)=cs
 | .v c,L,cs,h,hs=>by
  match L,h with
  |d::r,h=>
   simp only[Pt.vars,aC,List.singleton_append,List.cons.injEq]at h;simp only[Pt.vars,all_cons,List.all_nil,Bool.and_true]at hs;exact⟨abR (h.1 ▸ hs) d.x,h.2⟩
  |[],h=>simp[Pt.vars]at h
 | .o k,L,cs,h,_=>⟨trivial,by simpa[Pt.vars,eP]using h⟩
 | .p k,L,cs,h,_=>⟨trivial,by simpa[Pt.vars,eP]using h⟩
 | .mp k,L,cs,h,_=>⟨trivial,by simpa[Pt.vars,eP]using h⟩
 | .oz k,L,cs,h,_=>⟨trivial,by simpa[Pt.vars,eP]using h⟩
 | .nil,L,cs,h,_=>⟨trivial,by simpa[Pt.vars,eP]using h⟩
 | .od k,L,cs,h,_=>by
  match L,h with
  |d::r,h=>
   simp only[Pt.vars,aC,List.singleton_append,List.cons.injEq]at h;exact⟨trivial,h.2⟩
  |[],h=>simp[Pt.vars]at h
 | .f F fs ps,L,cs,h,hs=>by
  simp only[Pt.vars,List.all_append,aJ]at hs;simp only[Pt.vars,aK]at h;obtain⟨a1,a2⟩:=EZ fs L _ h hs.1;obtain⟨b1,b2⟩:=EZ ps _ _ a2 hs.2;exact⟨⟨a1,b1⟩,b2⟩
 | .a ps,L,cs,h,hs=>by
  simp only[Pt.vars]at h hs;exact EZ ps L cs h hs
theorem EZ:∀(ps:List (Pt X.ι))(L:List (DC X))(cs:List (CT X.ι)),L.map (·.c)=cI ps++cs->(cI ps).all yV=true->pV (bJ (lj ol ps L).1)/\(lj ol ps L).2.map (·.c)=cs
 |[],L,cs,h,_=>⟨trivial,by simpa[cI,lj]using h⟩
 |p::ps,L,cs,h,hs=>by
  simp only[cI,List.all_append,aJ]at hs;simp only[cI,aK]at h;obtain⟨a1,a2⟩:=alK p L _ h hs.1;obtain⟨b1,b2⟩:=EZ ps _ _ a2 hs.2;exact⟨⟨a1,b1⟩,b2⟩
end
mutual
theorem alL:∀(p:Pt X.ι)(L:List (DC X)),∀j∈bm (eP ol p L).1,j∈p.refs
 | .v c,L,j,h=>by cases L<;>simp[eP,bm]at h
 | .o k,L,j,h=>by simpa[eP,bm,Pt.refs]using h
 | .p k,L,j,h=>by simpa[eP,bm,Pt.refs]using h
 | .mp k,L,j,h=>by simpa[eP,bm,Pt.refs]using h
 | .oz k,L,j,h=>by simpa[eP,bm,Pt.refs]using h
 | .nil,L,j,h=>by simp[eP,bm]at h
 | .od k,L,j,h=>by cases L<;>simp[eP,bm]at h<;>simp[Pt.refs,h]
 | .f F fs ps,L,j,h=>by
  simp only[eP,bm,aV]at h;simp only[Pt.refs,aV];exact h.imp (Ak fs _ j) (Ak ps _ j)
 | .a ps,L,j,h=>by
  simp only[eP,bm]at h;simp only[Pt.refs];exact Ak ps _ j h
theorem Ak:∀(ps:List (Pt X.ι))(L:List (DC X)),∀j∈aS (lj ol ps L).1,j∈Dp ps
 |[],L,j,h=>by simp[lj,aS]at h
 |p::ps,L,j,h=>by
  simp only[lj,aS,aV]at h;simp only[Dp,aV];exact h.imp (alL p _ j) (Ak ps _ j)
end
theorem M7:∀(rs:List (List (Pt X.ι)))(L:List (DC X))(cs:List (CT X.ι)),L.map (·.c)=wX rs++cs->(wZ ol rs L).2.map (·.c)=cs/\((wX rs).all yV=true->∀r∈(wZ ol rs L).1,pV (bJ r))
 |[],L,cs,h=>⟨by simpa[wX,wZ]using h,by simp[wZ]⟩
 |r::rs,L,cs,h=>by
  simp only[wX,aK]at h;have step:(lj ol r L).2.map (·.c)=wX rs++cs:=th r L _ h;obtain⟨b1,b2⟩:=M7 rs _ _ step;refine⟨b1,λhs q hq=>?_⟩;simp only[wX,List.all_append,aJ]at hs;simp only[wZ,aO]at hq;rcases hq with rfl |hq
  ·exact(EZ r L _ h hs.1).1
  ·exact b2 hs.2 q hq
where
 th (ps:List (Pt X.ι)) (L:List (DC X)) (cs:List (CT X.ι)) (h:L.map (·.c)=cI ps++cs):(lj ol ps L).2.map (·.c)=cs:=pb ps L cs h
 A4:∀(p:Pt X.ι)(L:List (DC X))(cs:List (CT X.ι)),L.map (·.c)=p.vars++cs->(eP ol p L).2.map (·.c)=cs
  | .v c,L,cs,h=>by
   match L,h with
   |d::r,h=>simp only[Pt.vars,aC,List.singleton_append,List.cons.injEq]at h;exact h.2
   |[],h=>simp[Pt.vars]at h
  | .o k,L,cs,h=>by simpa[Pt.vars,eP]using h
  | .p k,L,cs,h=>by simpa[Pt.vars,eP]using h
  | .mp k,L,cs,h=>by simpa[Pt.vars,eP]using h
  | .oz k,L,cs,h=>by simpa[Pt.vars,eP]using h
  | .nil,L,cs,h=>by simpa[Pt.vars,eP]using h
  | .od k,L,cs,h=>by
   match L,h with
   |d::r,h=>simp only[Pt.vars,aC,List.singleton_append,List.cons.injEq]at h;exact h.2
   |[],h=>simp[Pt.vars]at h
  | .f F fs ps,L,cs,h=>by
   simp only[Pt.vars,aK]at h;exact pb ps _ _ (pb fs L _ h)
  | .a ps,L,cs,h=>by
   simp only[Pt.vars]at h;exact pb ps L cs h
 pb:∀(ps:List (Pt X.ι))(L:List (DC X))(cs:List (CT X.ι)),L.map (·.c)=cI ps++cs->(lj ol ps L).2.map (·.c)=cs
  |[],L,cs,h=>by simpa[cI,lj]using h
  |p::ps,L,cs,h=>by
   simp only[cI,aK]at h;exact pb ps _ _ (A4 p L _ h)
theorem WO:∀(rs:List (List (Pt X.ι)))(L:List (DC X)),∀j∈((wZ ol rs L).1.map aS).flatten,j∈rs.flatMap Dp
 |[],L,j,h=>by simp[wZ]at h
 |r::rs,L,j,h=>by
  simp only[wZ,aC,flatten_cons,aV]at h;simp only[List.flatMap_cons,aV];exact h.imp (Ak r _ j) (WO rs _ j)
theorem Al:∀(O:List (Nat×OP X.ι))(L:List (DC X)),((cZ (bX ol O L)).map (·.1)).Sublist (O.map (·.1))/\(∀ p∈cZ (bX ol O L),∃op,(p.1,op)∈O/\∀j∈dE p.2,j∈op.refs)/\
 (L.map (·.c)=cA O->(O.all λq=>match q.2 with | .l c=>yV c | .m _ _=>false | .c _ rows=>(wX rows).all yV)=true->∀p∈cZ (bX ol O L),∀r∈(bF p.2).rows,pV r)
 |[],L=>⟨by simp[bX,cZ],by simp[bX,cZ],by simp[bX,cZ]⟩
 |(k,.l c)::O,L=>by
  match L with
  |[]=>exact⟨by simp[bX,cZ],by simp[bX,cZ],by simp[bX,cZ]⟩
  |⟨.sl c',x⟩::L=>
   have⟨h1,h2,h3⟩:=Al O L;refine⟨?_,?_,?_⟩
   ·simp only[bX,cZ,aC];exact h1.cons_cons _
   ·intro p hp;simp only[bX,cZ,aO]at hp;rcases hp with rfl |hp
    ·exact⟨.l c,by simp,by simp[dE]⟩
    ·have⟨op,g1,g2⟩:=h2 p hp;exact⟨op,eF _ g1,g2⟩
   ·intro hL hs p hp r hr;simp only[aC,cA,List.cons.injEq]at hL;simp only[all_cons,aJ]at hs;simp only[bX,cZ,aO]at hp;rcases hp with rfl |hp
    ·obtain⟨e,_⟩:=hL;injection e with e;simp only[bF,aL,mem_map]at hr;obtain⟨q,⟨y,hy,rfl⟩,rfl⟩:=hr;exact QY (vM (e ▸ hs.1) y)
    ·exact h3 hL.2 hs.2 p hp r hr
  |⟨.int _,x⟩::L=>exact⟨by simp[bX,cZ],by simp[bX,cZ],by simp[bX,cZ]⟩
  |⟨.bool,x⟩::L=>exact⟨by simp[bX,cZ],by simp[bX,cZ],by simp[bX,cZ]⟩
  |⟨.str,x⟩::L=>exact⟨by simp[bX,cZ],by simp[bX,cZ],by simp[bX,cZ]⟩
  |⟨.any,x⟩::L=>exact⟨by simp[bX,cZ],by simp[bX,cZ],by simp[bX,cZ]⟩
  |⟨.mp _ _,x⟩::L=>exact⟨by simp[bX,cZ],by simp[bX,cZ],by simp[bX,cZ]⟩
  |⟨.st _,x⟩::L=>exact⟨by simp[bX,cZ],by simp[bX,cZ],by simp[bX,cZ]⟩
 |(k,.m kc vc)::O,L=>by
  match L with
  |[]=>exact⟨by simp[bX,cZ],by simp[bX,cZ],by simp[bX,cZ]⟩
  |⟨.mp tf s9,x⟩::L=>
   have⟨h1,h2,h3⟩:=Al O L;refine⟨?_,?_,?_⟩
   ·simp only[bX,cZ,aC];exact h1.cons_cons _
   ·intro p hp;simp only[bX,cZ,aO]at hp;rcases hp with rfl |hp
    ·exact⟨.m kc vc,by simp,by simp[dE]⟩
    ·have⟨op,g1,g2⟩:=h2 p hp;exact⟨op,eF _ g1,g2⟩
   ·intro hL hs;simp at hs
  |⟨.sl _,x⟩::L=>exact⟨by simp[bX,cZ],by simp[bX,cZ],by simp[bX,cZ]⟩
  |⟨.int _,x⟩::L=>exact⟨by simp[bX,cZ],by simp[bX,cZ],by simp[bX,cZ]⟩
  |⟨.bool,x⟩::L=>exact⟨by simp[bX,cZ],by simp[bX,cZ],by simp[bX,cZ]⟩
  |⟨.str,x⟩::L=>exact⟨by simp[bX,cZ],by simp[bX,cZ],by simp[bX,cZ]⟩
  |⟨.any,x⟩::L=>exact⟨by simp[bX,cZ],by simp[bX,cZ],by simp[bX,cZ]⟩
  |⟨.st _,x⟩::L=>exact⟨by simp[bX,cZ],by simp[bX,cZ],by simp[bX,cZ]⟩
 |(k,.c sz rows)::O,L=>by
  have⟨h1,h2,h3⟩:=Al O (wZ ol rows L).2;refine⟨?_,?_,?_⟩
  ·simp only[bX,cZ,aC];exact h1.cons_cons _
  ·intro p hp;simp only[bX,cZ,aO]at hp;rcases hp with rfl |hp
   ·exact⟨.c sz rows,by simp,λj hj=>WO rows L j hj⟩
   ·have⟨op,g1,g2⟩:=h2 p hp;exact⟨op,eF _ g1,g2⟩
  ·intro hL hs p hp r hr;simp only[cA]at hL;simp only[all_cons,aJ]at hs;obtain⟨e1,e2⟩:=M7 (ol:=ol) rows L _ hL;simp only[bX,cZ,aO]at hp;rcases hp with rfl |hp
   ·simp only[bF,mem_map]at hr;obtain⟨q,hq,rfl⟩:=hr;exact e2 hs.1 q hq
   ·exact h3 e1 hs.2 p hp r hr
end
theorem QZ(k:Nat):∀os:List (Nat×br X),pj (tY os) k=(sY os k).map bF
 |[]=>rfl
 |(j,o)::r=>by
  simp only[tY,aC,pj,sY];split
  ·rfl
  ·exact QZ k r
theorem WQ(f:Nat->Nat)(c:CT X.ι)(x:CT.T X.toSE c):eV f (CT.tv X.toSE c x).av=(CT.tv X.toSE c x).av:=(Cr f (.c c x)).symm
theorem adH(f:Nat->Nat)(o:br X):bF (ox f o)=LV f (bF o):=by
 cases o with
 |cells sz rows=>simp only[ox,bF,LV,map_map];congr 1;exact map_congr_left λr _=>EX f r
 |de c l=>simp only[ox,bF,LV,aL,map_map];congr 1;exact map_congr_left λr _=>(T8 f _).symm
 |map kc vc l=>simp only[ox,bF,LV,map_map];congr 1;exact map_congr_left λr _=>by simp only[Function.comp_apply,yZ,WQ]
theorem aiy(i:Nat)(ae:List Nat)(os:List (Nat×br X)):gF (LI i ae os)=vu i ae (tY os):=by
 simp only[LI,vu,sV];congr 1
 ·simp only[gF,map_map];refine map_congr_left λp _=>?_;simp only[Function.comp_apply,QZ,Option.map_map];congr 1;cases sY os p.2<;>simp[adH]
 ·simp only[gF,tY,List.filter_map,map_map];refine map_congr_left λq _=>?_;simp[adH]
theorem WR{ds:List (DV X)}:(∀ j∈refs (den (Ag ds)),j∈aS ds)/\(pV (bJ ds)->vI (den (Ag ds))):=by
 match ds with
 |[]=>exact⟨λ j hj=>by simp[Ag,den,bJ,refs,eD]at hj,λ_=>by simp only[Ag,den,vI];exact trivial⟩
 |[d]=>exact⟨λ j hj=>by simp only[Ag,iR]at hj;simpa[aS]using hj,λh=>h.1⟩
 |d::e::r=>exact⟨λ j hj=>by simp only[Ag,den,refs,iq]at hj;exact hj,λh=>h⟩
theorem aay:∀xs:List (Nat×br X),cZ (xs.map λp=>(p.1,some p.2))=xs
 |[]=>rfl
 |p::xs=>by simp only[aC,cZ,aay xs]
theorem ahE:∀l:List Tree,eD (l.map AV.t)=[]
 |[]=>rfl
 |_::l=>by simp only[aC,eD,refs,ahE l,bO]
theorem abS{P:Program}{g:cT X}{F:FuncId}(hg:HK P F g){i:Nat}{first args caps:List (DV X)}{get:Nat->Option (br X)}{k:KK X A}{r:A}(h:V1 g i (first++args++caps) get k=some r):
 ∃ci rd wr dv upd ab,ko P i (den (.fn F first caps)) (bJ args) ci (dD rd (fB get))=some ab/\jY ab.obs/\ab.v=den dv/\ab.upd=gF upd/\(∀ p∈upd,p.1=cp i\/p.1∈wr)/\k dv upd rd wr=some r:=by
 unfold V1 at h;rw[ai]at h;obtain⟨m1,h1,h⟩:=h;rw[ai]at h;obtain⟨m,h2,h⟩:=h;have⟨h3,h⟩:=dx h;rw[ai]at h;obtain⟨v,h4,h⟩:=h;have⟨h5,h⟩:=pW h;rw[ai]at h;obtain⟨rr,h6,h⟩:=h;simp only[aJ]at h3;obtain⟨hok,yy⟩:=h3;simp only at h;generalize ke:(List.range g.ix.length).map (p0 m)=ae at h yy;simp only[cT.ok,aJ,aT]at hok;obtain⟨⟨⟨⟨n1,n2⟩,n3⟩,n4⟩,n5⟩:=hok;simp only[ZS,aJ,aT]at yy;obtain⟨⟨hnd,hnm⟩,yp⟩:=yy;have hlen:ae.length=g.ix.length:=by rw[<- ke];simp
 have hi:∀q∈m.nm,ae[q.2]? =some q.1:=by
  intro q hq;have:=all_eq_true.1 hnm q hq;split at this
  ·rename_i k' e;rw[e,Nat.eq_of_beq_eq_true this]
  ·cases this
 have hv:∀k∈m.vr,k∉ae:=λk hk=>by
  have:=all_eq_true.1 yp k hk;simpa using this
 have hrd:∀k,(∃ q,(k,q)∈m.nm)\/k∈m.vr->k∈ae++m.vr:=by
  rintro k (⟨q,hq⟩ |hk)
  ·exact List.mem_append_left _ (bZ (hi _ hq))
  ·exact mem_append_right _ hk
 have hm2:=(mD _ _ _ h2).1;have tW:=WC h4;obtain⟨_,nA,dA,lA⟩:=xg _ _ _ _ h1;simp only[bO]at dA;obtain⟨nB,dB,lB⟩:=Gv (NM:=m.nm) _ _ _ h2 (λ q hq=>hq);have hL:m.ev=nA++nB:=by rw[dB,dA]
 have hdrop:(wY _ v).drop (cI g.pm).length=nB:=by rw[tW,hL,<- lA,List.drop_left]
 have htake:(wY _ v).take (cI g.pm).length=nA:=by rw[tW,hL,<- lA,List.take_left]
 have ho:∀q∈m.nm,∀c l,get q.1=some (.de c l)->Dm g.ix nB q.2=l.length:=by
  rintro⟨p,q⟩ hq c l hl;have hq2:=hi _ hq;have hqn:q<g.ix.length:=by rw[<- hlen];exact(cO.1 hq2).1
  obtain⟨p',o,g1,g2,g3⟩:=lB [] q (by rw[n1];exact List.mem_range.2 hqn);have:p'=p:=by
   have e1:=hi _ g1;rw[hq2]at e1;injection e1 with e1;exact e1.symm
  subst this;simp only at hl;rw[hl]at g2;injection g2 with g2;have h3:=g3 c l g2.symm;rw[append_nil]at h3;have hk:=(Gw g.ix nB).nodup (by rw[n1];exact List.nodup_range);simp only[Dm,vK hk h3,Option.getD_some]
 obtain⟨Ok,Hx,ds',eA,⟨hs,obs,pA,qA⟩,rA⟩:=zQ (P:=P) (ae:=ae) (rd:=ae++m.vr) (NM:=m.nm) (px:=m.vr) (dt:=Dm g.ix nB) hi hv hrd ho _ _ _ _ h1 (λ q hq=>hm2.1 q hq) (λ c hc=>h5 c (hm2.2.1 c hc)) (λ q hq=>hm2.2.2 q hq);obtain⟨Of,Su,xs,eB,bs,mo,pB,qB,rB⟩:=Cs (P:=P) (ae:=ae) (rd:=ae++m.vr) (NM:=m.nm) (px:=m.vr) (dt:=Dm g.ix nB) hi hv hrd ho _ _ _ h2 (λ q hq=>hq) h5 (λ q hq=>hq);have So:Ok=nA:=by simp only[bO]at Hx;rw[<- Hx,dA]
 have Sf:Of=nB:=List.append_cancel_left (Su.symm.trans dB);subst So Sf;have Hs:=eA [];have Hp:=eB [];rw[append_nil]at Hs Hp;have hargs:g.args v=ds':=by simp only[cT.args,WG,hdrop,htake,Hs]
 have sX:g.cH v=xs:=by simp only[cT.cH,HX,hdrop,Hp,aay]
 have PR:(g.ix.map λp=>(ae[p.1]?).getD 0)=ae:=by
  have:(g.ix.map λp=>(ae[p.1]?).getD 0)=(g.ix.map (·.1)).map λj=>(ae[j]?).getD 0:=by rw[map_map];rfl
  rw[this,n1];refine List.ext_getElem (by simp[hlen]) λj a b=>?_;simp[dG b]
 rw[PR]at qB rB;have Zs:=qA [];rw[append_nil,iE,iE]at Zs;have hcon:=hg v rr h6;rw[hargs,sX]at hcon;obtain⟨s1,s2,s3⟩:=Al (ol:=Dm g.iv ((wY (ia (lp 0 g.fy)++cA g.iv) rr).drop (cI g.fy).length)) g.iv ((wY _ rr).drop (cI g.fy).length);have ye:∀k,FF g.ix.length k=true->xj ae.length k:=by
  intro k hk;simp only[FF,Bool.or_eq_true,aJ,Nat.blt_eq,Nat.ble_eq]at hk;simp only[xj,hlen];exact hk
 have good:DQ ae.length (tY (g.outs rr)) (den (g.res rr)):=by
  refine⟨?_,?_,?_,?_⟩
  ·intro q hq;simp only[tY,mem_map]at hq;obtain⟨p,hp,rfl⟩:=hq;have⟨op,g1,_⟩:=s2 p hp;have:=all_eq_true.1 n3 _ g1;simp only[aJ]at this;exact ye _ this.1
  ·have:(tY (g.outs rr)).map (·.1)=(g.outs rr).map (·.1):=(by simp[tY]);rw[this];exact s1.nodup n4
  ·intro q hq r' hr' j hj;simp only[tY,mem_map]at hq;obtain⟨p,hp,rfl⟩:=hq;have⟨op,g1,g2⟩:=s2 p hp;have:=all_eq_true.1 n3 _ g1;simp only[aJ]at this;refine ye _ (all_eq_true.1 this.2 j (g2 j ?_));obtain⟨pk,po⟩:=p;cases po with
   |cells sz rows=>exact OD (List.mem_flatMap.2 ⟨r',hr',hj⟩)
   |de c l=>
    simp only[bF,aL,mem_map]at hr';obtain⟨z,_,rfl⟩:=hr';rw[ahE]at hj;simp at hj
   |map kc vc l=>
    simp only[bF,mem_map]at hr';obtain⟨z,_,rfl⟩:=hr';simp only[eD,Gr,append_nil]at hj;simp at hj
  ·intro j hj;have:=(WR (ds:=WG g.fy g.iv (wY _ rr))).1 j hj;exact ye _ (all_eq_true.1 n5 j (Ak g.fy _ j this))
 have flat:g.flat=true->m4 (tY (g.outs rr)) (den (g.res rr)):=by
  intro hf;simp only[cT.flat,aJ]at hf;have hc:(wY (ia (lp 0 g.fy)++cA g.iv) rr).map (·.c)=cI g.fy++cA g.iv:=(V0 _ rr).trans (by rw[QU]);refine⟨(WR (ds:=WG g.fy g.iv (wY _ rr))).2 ?_,?_⟩
  ·refine(EZ (ol:=_) g.fy _ [] ?_ hf.1).1;rw[append_nil,map_take,hc,List.take_left]
  ·intro q hq r' hr';simp only[tY,mem_map]at hq;obtain⟨p,hp,rfl⟩:=hq;exact s3 (by rw[map_drop,hc,List.drop_left]) hf.2 p hp r' hr'
 have cL:VZ (dD (ae++m.vr) (fB get)) (bJ first++bJ args++bJ caps) ae m.vr bs:=by
  refine⟨hv,λj hj hn=>?_,λj hs' q o e1 e2 e3 z hz hn=>?_⟩
  ·rw[<- iE,<- iE,iq]at hj;rcases rA j hj with ⟨q,hq⟩ |hj
   ·exact absurd (bZ (hi _ hq)) hn
   ·exact hj
  ·rcases rB j hs' q o e1 e2 e3 z hz with ⟨q',hq⟩ |hz
   ·exact absurd (bZ (hi _ hq)) hn
   ·exact hz
 refine⟨.s8 ae m.vr bs hs (tY (g.outs rr)) (den (g.res rr)) g.flat,ae++m.vr,_,_,_,
  ⟨eV (cn i ae) (den (g.res rr)),vu i ae (tY (g.outs rr))++(if g.flat then []else m.vr.map λk=>(k,none)),obs++mo++[CA P F (bJ ds') (xs.map λp=>bF p.2) (tY (g.outs rr)) (den (g.res rr)),DQ ae.length (tY (g.outs rr)) (den (g.res rr)),VZ (dD (ae++m.vr) (fB get)) (bJ first++bJ args++bJ caps) ae m.vr bs]++(if g.flat then [m4 (tY (g.outs rr)) (den (g.res rr))]else [])⟩,?_,?_,(Cr _ _).symm,?_,?_,h⟩
 ·simp only[den,ko,Og,qB,Zs,ah];rw[aN ⟨hnd,by omega⟩]
 ·refine rO _ (gT (gT (gT pA pB) ?_) ?_)
  ·intro z hz;simp only[aO,jv,or_false]at hz;rcases hz with rfl |rfl |rfl
   ·exact hcon
   ·exact good
   ·exact cL
  ·intro z hz;cases hf:g.flat with
   |true=>rw[hf]at hz;simp only[if_true,aY]at hz;subst hz;exact flat hf
   |false=>rw[hf]at hz;simp at hz
 ·simp only[sV,aiy];congr 1;cases g.flat with
  |true=>rfl
  |false=>exact(ES m.vr).symm
 ·intro p hp;refine .inr ?_;rcases aV.1 hp with hp |hp
  ·exact List.mem_append_left _ (mem_append_right _ (mem_map.2 ⟨p,hp,rfl⟩))
  ·cases hf:g.flat with
   |true=>rw[hf]at hp;simp at hp
   |false=>
    rw[hf]at hp;simp only[Bool.false_eq_true,if_false,mem_map]at hp;obtain⟨z,hz,rfl⟩:=hp;exact mem_append_right _ hz
end
section
variable {X:SX} {A:Type}
def WS:RT X.ι->Bool
 | .d c=>yV c
 | .fresh e=>yV e
 | .whole _=>true
 | .mu c=>yV c
 | .mr c=>yV c
 | .mv=>true
theorem adI{c:CT X.ι}(h:yV c=true)(x:CT.T X.toSE c):(CT.tv X.toSE c x).flat:=by
 cases c
 case st i=>exact vM h x
 all_goals first |exact trivial |cases h
theorem WT{ns:List Nat}{q:RT X.ι}{x:RT.T X q}(h:WS q=true):∀c∈WH ns q x,c.flat:=by
 intro c hc;cases q<;>simp only[WH,aY,jv]at hc
 case d c=>subst hc;exact adI h x
 case fresh e=>
  subst hc;intro row hr;obtain⟨y,_,rfl⟩:=mem_map.1 hr;exact vM h y
 case whole j=>subst hc;exact trivial
theorem Ta{ns:List Nat}:∀{l:List (RT X.ι)}{x:tV X l},l.all WS=true->∀c∈Dn ns l x,c.flat
 |[],x,_,c,hc=>by simp[Dn]at hc
 |[q],x,h,c,hc=>WT (by simpa using h) c hc
 |q::q'::l,x,h,c,hc=>by
  simp only[all_cons,aJ]at h;simp only[Dn,aV]at hc;rcases hc with hc |hc
  ·exact WT h.1 c hc
  ·exact Ta (by simp only[all_cons,aJ];exact h.2) c hc
theorem WU{l:List (RT X.ι)}(x:tV X l)(h:l.all WS=true):(tZ l x).flat:=by
 have:=Ta (ns:=vy l x) (x:=x) h;unfold tZ;split
 ·rename_i c hc;exact this c (by rw[hc];simp)
 ·exact this
theorem aaz{q:RT X.ι}{x:RT.T X q}(h:WS q=true):VJ (qG q x):=by
 intro p hp;cases q<;>simp only[qG,aY,jv,aA,reduceCtorEq]at hp
 case mu c=>
  subst hp;intro r hr;obtain⟨y,_,rfl⟩:=mem_map.1 hr;exact vM h y
 case mr c=>
  subst hp;intro r hr;obtain⟨y,_,rfl⟩:=mem_map.1 hr;exact vM h y
theorem aaA:∀{l:List (RT X.ι)}{x:tV X l},l.all WS=true->VJ (oh l x)
 |[],x,_=>λp hp=>by simp[oh]at hp
 |[q],x,h=>aaz (q:=q) (by simpa using h)
 |q::q'::l,x,h=>by
  simp only[all_cons,aJ]at h;intro p hp;rcases aV.1 (show some p∈qG q x.1++oh (q'::l) x.2 from hp)with hp |hp
  ·exact aaz h.1 p hp
  ·exact aaA (l:=q'::l) (by simp only[all_cons,aJ];exact h.2) p hp
def JZ(i:Nat)(ae ns:List Nat):(q:RT X.ι)->RT.T X q->List (DV X)×List (Nat×Option (br X))
 | .d c,x=>([.c c x],[])
 | .fresh e,l=>([.own (cp i) 0 l.length],[(cp i,some (.de e l))])
 | .whole j,_=>([match ae[j]? with |some k=> .own k 0 (ns.getD j 0) |none=> .undef],[])
 |_,_=>([],[])
def ML(i:Nat)(ae ns:List Nat):(l:List (RT X.ι))->tV X l->Option (List (DV X)×List (Nat×Option (br X)))
 |[],_=>some ([],[])
 |[q],x=>some (JZ i ae ns q x)
 |q::q'::l,x=>(ML i ae ns (q'::l) x.2).bind λp=>if (JZ i ae ns q x.1).2.isEmpty || p.2.isEmpty then some ((JZ i ae ns q x.1).1++p.1,(JZ i ae ns q x.1).2++p.2)else none
def anI:List (DV X)->DV X
 |[d]=>d
 |ds=> .fh ds
def C4(i:Nat)(ae:List Nat)(l:List (RT X.ι))(x:tV X l):Option (DV X×List (Nat×Option (br X))):=
 (ML i ae (vy l x) l x).bind λp=>some (anI p.1,p.2)
theorem abT(u:List (Nat×Option (br X))):(gF u).isEmpty=u.isEmpty:=by cases u<;>rfl
theorem aaB(i:Nat)(ae ns:List Nat)(q:RT X.ι)(x:RT.T X q):(∃ c,WH ns q x=[c]/\∃d,(JZ i ae ns q x).1=[d]/\LQ i ae c=(den d,gF (JZ i ae ns q x).2))\/(WH ns q x=[]/\JZ i ae ns q x=([],[])):=by
 cases q
 case d c=>exact .inl ⟨_,rfl,_,rfl,rfl⟩
 case fresh e=>exact .inl ⟨_,rfl,_,rfl,by simp[LQ,JZ,den,gF,bF,aL]⟩
 case whole j=>
  refine .inl ⟨_,rfl,_,rfl,?_⟩;simp only[LQ,gF,JZ,map_nil,Prod.mk.injEq,and_true];cases ae[j]?<;>rfl
 all_goals exact .inr ⟨rfl,rfl⟩
theorem adJ(i:Nat)(ae:List Nat)(c:RC):N8 i ae [c]=some ([(LQ i ae c).1],(LQ i ae c).2):=by simp[N8]
theorem aaC(i:Nat)(ae ns:List Nat):∀(l:List (RT X.ι))(x:tV X l)(p:List (DV X)×List (Nat×Option (br X))),ML i ae ns l x=some p->N8 i ae (Dn ns l x)=some (bJ p.1,gF p.2)
 |[],_,p,h=>by simp only[ML,aA]at h;subst h;rfl
 |[q],x,p,h=>by
  simp only[ML,aA]at h;subst h;simp only[Dn];rcases aaB i ae ns q x with ⟨c,h1,d,h2,h3⟩ |⟨h1,h2⟩
  ·rw[h1,adJ,h2,h3];simp[bJ]
  ·rw[h1,h2];rfl
 |q::q'::l,x,p,h=>by
  simp only[ML]at h;rw[ai]at h;obtain⟨p',h1,h⟩:=h;have ih:=aaC i ae ns (q'::l) x.2 p' h1;split at h
  ·rename_i hc;cases h;simp only[Dn];rcases aaB i ae ns q x.1 with ⟨c,h1,d,h2,h3⟩ |⟨h1,h2⟩
   ·rw[h1];simp only[List.singleton_append,N8,ih,ah,h3,abT];rw[aN hc,h2];simp[bJ,gF]
   ·rw[h1,h2];simp only[bO];exact ih
  ·cases h
theorem adK{i:Nat}{ae:List Nat}{l:List (RT X.ι)}{x:tV X l}{p:DV X×List (Nat×Option (br X))}(h:C4 i ae l x=some p):imp i ae (tZ l x)=some (den p.1,gF p.2):=by
 unfold C4 at h;rw[ai]at h;obtain⟨p',h1,h⟩:=h;cases h;have ih:=aaC i ae _ l x p' h1;unfold tZ;split
 ·rename_i c hc;rw[hc,adJ]at ih;simp only[aA,Prod.mk.injEq]at ih;obtain⟨ds,u⟩:=p'
  match ds,ih with
  |[d],ih=>
   simp only[bJ,List.cons.injEq,and_true]at ih;simp only[imp,anI,<- ih.1,<- ih.2]
  |[],ih=>simp[bJ]at ih
  |_::_::_,ih=>simp[bJ]at ih
 ·rename_i hne;simp only[imp,ih,ah];obtain⟨ds,u⟩:=p'
  match ds,ih with
  |[],_=>rfl
  |_::_::_,_=>rfl
  |[d],ih=>
   exfalso;generalize hcs:Dn (vy l x) l x=cs at ih hne
   match cs,ih,hne with
   |[],ih,_=>simp[N8,bJ]at ih
   |[c],_,hne=>exact hne c rfl
   |c::c'::cs,ih,_=>
    simp only[N8]at ih;cases h3:N8 i ae cs with
    |none=>rw[h3]at ih;simp at ih
    |some q=>
     rw[h3]at ih;simp only[ah]at ih;split at ih
     ·simp only[ah]at ih;split at ih
      ·simp[bJ]at ih
      ·cases ih
     ·simp at ih
def I0:(q:RT X.ι)->RT.T X q->List (Option (br X))
 | .mu c,x=>[some (.de c x)]
 | .mr c,x=>[some (.cells (CT.sz X c) [vL c x])]
 | .mv,_=>[none]
 |_,_=>[]
def WV:(l:List (RT X.ι))->tV X l->List (Option (br X))
 |[],_=>[]
 |[q],x=>I0 q x
 |q::q'::l,x=>I0 q x.1++WV (q'::l) x.2
def J2:List Nat->List (Option (br X))->List (Nat×Option (br X))
 |k::ae,p::os=>(k,p)::J2 ae os
 |_,_=>[]
theorem adL(q:RT X.ι)(x:RT.T X q):(I0 q x).map (·.map bF)=(qG q x).map (·.map hZ):=by
 cases q<;>try rfl
 case mr c=>simp only[I0,qG,aC,map_nil,Option.map_some,bF,hZ,sD,aL,nM]
theorem Q0:∀(l:List (RT X.ι))(x:tV X l),(WV l x).map (·.map bF)=(oh l x).map (·.map hZ)
 |[],_=>rfl
 |[q],x=>adL q x
 |q::q'::l,x=>by simp only[WV,oh,map_append,adL,Q0 (q'::l) x.2]
theorem aaD:∀(ae:List Nat)(os:List (Option (br X)))(os':List (Option eZ)),os.map (·.map bF)=os'.map (·.map hZ)->gF (J2 ae os)=Df ae os'
 |[],_,_,_=>by simp[J2,Df,gF]
 |_::_,[],[],_=>rfl
 |k::ae,p::os,p'::os',h=>by
  simp only[aC,List.cons.injEq]at h;have:=aaD ae os os' h.2;simp only[gF]at this;simp only[J2,Df,gF,aC,h.1,this]
 |_::_,[],_::_,h=>by simp at h
 |_::_,_::_,[],h=>by simp at h
theorem M8:∀{ae:List Nat}{os:List (Option (br X))}{p:Nat×Option (br X)},p∈J2 ae os->p.1∈ae
 |[],_,_,h=>by simp[J2]at h
 |_::_,[],_,h=>by simp[J2]at h
 |k::ae,q::os,p,h=>by
  simp only[J2,aO]at h;rcases h with rfl |h
  ·simp
  ·exact eF _ (M8 h)
def Wk(get:Nat->Option (br X))(d:DV X)(c:CT X.ι):Option (List (CT.T X.toSE c)×Nat×List Bool):=
 match d with
 | .own k 0 len=>(get k).bind λo=>match o with
  | .de b l=>(gB (.sl b) (.sl c) l).bind λ(l:List (CT.T X.toSE c))=>some (l,k,[bk len (List.length l)])
  |_=>none
 |_=>none
def WW(get:Nat->Option (br X))(d:DV X)(c:CT X.ι):Option (CT.T X.toSE c×Nat):=
 match d with
 | .ptr k 0 0=>(get k).bind λo=>match o with
  | .cells sz [row]=>if sz=CT.sz X c then(Ou c row).bind λx=>some (x,k)else none
  |_=>none
 |_=>none
def pz(Γ:FuncId->Option (bz X))(get:Nat->Option (br X)):List (DV X)->(l:List (AT X.ι))->Option (jc X l×List Nat×List Bool)
 |[],[]=>some ((),[],[])
 |d::ds,.mut c::l=>(Wk get d c).bind λx=>(pz Γ get ds l).bind λh=>some ((x.1,h.1),x.2.1::h.2.1,x.2.2++h.2.2)
 |d::ds,.fm c::l=>(WW get d c).bind λx=>(pz Γ get ds l).bind λh=>some ((x.1,h.1),x.2::h.2.1,h.2.2)
 |d::ds,.d c::l=>(SV Γ get 3 [d] [.d c]).bind λx=>(pz Γ get ds l).bind λh=>some ((x.1.1,h.1),h.2.1,x.2++h.2.2)
 |d::ds,.ref c::l=>(SV Γ get 3 [d] [.ref c]).bind λx=>(pz Γ get ds l).bind λh=>some ((x.1.1,h.1),h.2.1,x.2++h.2.2)
 |d::ds,.cV as r::l=>(SV Γ get 3 [d] [.cV as r]).bind λx=>(pz Γ get ds l).bind λh=>some ((x.1.1,h.1),h.2.1,x.2++h.2.2)
 |d::ds,.nil::l=>match d with
  | .nil=>(pz Γ get ds l).bind λh=>some (((),h.1),h.2.1,h.2.2)
  |_=>none
 |_,_=>none
def Lj:List (DV X)->List (AT X.ι)->List Nat
 |d::ds,a::l=>(if a.im then []else bm d)++Lj ds l
 |_,_=>[]
def Q5(get:Nat->Option (br X)):List (DV X)->(l:List (CT X.ι))->Option (HL X.toSE l×List Bool)
 |[],[]=>some ((),[])
 |d::ds,c::l=>(Io get d c).bind λx=>(Q5 get ds l).bind λh=>some ((x.1,h.1),x.2++h.2)
 |_,_=>none
variable (Γ:FuncId->Option (bz X))
def T0(i:Nat)(f:DV X)(args:List (DV X))(get:Nat->Option (br X))(k:KK X A):Option A:=
 match f with
 | .fn F first caps=>(Γ F).bind λs=>match s.gen.filter λg=>(ri get g.pm (first++args++caps) ⟨[],[],[],[]⟩).isSome with
  |some g=>V1 g i (first++args++caps) get k
  |none=>if (s.args.all (λ q=>q.pl)&&s.res.all (λ q=>!q.out))=true then(SV Γ get 3 (first++args++caps) s.args).bind λa=>Ws a.2 ((s.fn a.1).bind λx=>(C4 i [] s.res x).bind λp=>
   if s.res.all WS then k p.1 p.2 (aS (first++args++caps)) []
   else k p.1 (p.2++OA (aS (first++args++caps))) (aS (first++args++caps)) (aS (first++args++caps)))
  else(pz Γ get (first++args++caps) s.args).bind λa=>Ws a.2.2 ((s.fn a.1).bind λx=>(C4 i a.2.1 s.res x).bind λp=>
   if (decide a.2.1.Nodup&&(Lj (first++args++caps) s.args).all (λ j=>!a.2.1.contains j)&&decide ((WV s.res x).length=a.2.1.length))=true then
    if s.res.all WS then k p.1 (p.2++J2 a.2.1 (WV s.res x)) (aS (first++args++caps)) a.2.1
    else k p.1 (p.2++(J2 a.2.1 (WV s.res x)++OA ((aS (first++args++caps)).filter λj=>!a.2.1.contains j))) (aS (first++args++caps)) (a.2.1++(aS (first++args++caps)).filter λj=>!a.2.1.contains j)
   else none)
 | .cV as q φ=>(Q5 get args as).bind λh=>Ws h.2 ((φ h.1).bind λy=>
  if yV q then k (.c q y) [] (aS args) []else k (.c q y) (OA (aS args)) (aS args) (aS args))
 |_=>none
def B9(fz:List Nat)(T:dC)(ao:TypeId->Option (CT X.ι))(i:Nat)(o:Op)(ρ:Operand->DV X)(get:Nat->Option (br X))(k:KK X A):Option A:=
 match o with
 | .call { callee:= .value f,args:=args,argTypes:=_ }=>T0 Γ i (ρ f) (args.toList.map ρ) get k
 |o=>if anE o ρ then SR T ao i o ρ get k else if anF o ρ || fz.contains i then SP T ao i o ρ get k else if anH o ρ then To T i o ρ get k else if anG T o ρ then SO T ao o ρ get k else Ix T ao i o ρ get k
variable {Γ}
theorem OE{P:Program}{get:Nat->Option (br X)}{rd:List Nat}:∀{ds:List (DV X)}{l:List (CT X.ι)}{h:HL X.toSE l×List Bool},Q5 get ds l=some h->(∀ b∈h.2,b=true)->(∀ j∈aS ds,j∈rd)->
 ∃hs obs,(∀ p∈obs,p)/\∀ag,nG P (dD rd (fB get)) (bJ ds) (hs++ag)=some ((HL.np X.toSE l h.1).map TV.av,ag,obs)
 |[],[],h,_,_,_=>⟨[],[],by simp,λag=>rfl⟩
 |d::ds,c::l,h,hr,hc,hrd=>by
  simp only[Q5]at hr;have⟨x,h1,hr⟩:=ai.1 hr;have⟨g,h2,hr⟩:=ai.1 hr;cases hr;obtain⟨hs1,o1,p1,q1⟩:=Cq (P:=P) (rd:=rd) h1 (λ b hb=>hc b (by simp[hb])) (λ j hj=>hrd j (by simp[aS,hj]));obtain⟨hs2,o2,p2,q2⟩:=OE (P:=P) (rd:=rd) h2 (λ b hb=>hc b (by simp[hb])) (λ j hj=>hrd j (by simp[aS,hj]));refine⟨hs1++hs2,o1++o2,gT p1 p2,λag=>?_⟩;simp only[bJ,nG,aK,q1,ah,q2];rfl
 |[],_::_,_,hr,_,_=>by simp[Q5]at hr
 |_::_,[],_,hr,_,_=>by simp[Q5]at hr
theorem WX{i:Nat}{ae ns:List Nat}{q:RT X.ι}{x:RT.T X q}:∀p∈(JZ i ae ns q x).2,p.1=cp i:=by cases q<;>simp[JZ]
theorem WY{i:Nat}{ae ns:List Nat}:∀{l:List (RT X.ι)}{x:tV X l}{p:List (DV X)×List (Nat×Option (br X))},ML i ae ns l x=some p->∀q∈p.2,q.1=cp i
 |[],_,p,h=>by simp only[ML,aA]at h;subst h;simp
 |[q],x,p,h=>by simp only[ML,aA]at h;subst h;exact WX
 |q::q'::l,x,p,h=>by
  simp only[ML]at h;have⟨p',h1,h⟩:=ai.1 h;split at h
  ·cases h;intro z hz;rcases aV.1 hz with hz |hz
   ·exact WX z hz
   ·exact WY h1 z hz
  ·cases h
theorem aaE{i:Nat}{ae:List Nat}{l:List (RT X.ι)}{x:tV X l}{p:DV X×List (Nat×Option (br X))}(h:C4 i ae l x=some p):∀q∈p.2,q.1=cp i:=by
 unfold C4 at h;have⟨p',h1,h⟩:=ai.1 h;cases h;exact WY h1
theorem J3{P:Program}{get:Nat->Option aU}{x:AV}{hs ag:List LH}{y:AV}{o:List Prop}(h:nG P get [x] hs=some ([y],ag,o)):o8 P get x hs=some (y,ag,o):=by
 simp only[nG,ah,append_nil,ai,aA,Prod.mk.injEq,List.cons.injEq,and_true]at h;obtain⟨q,h1,h2,h3,h4⟩:=h;rw[h1,<- h2,<- h3,<- h4]
theorem lM{d:DV X}{ds:List (DV X)}{a:AT X.ι}{l:List (AT X.ι)}{P:Nat->Prop}(h:∀j∈Lj (d::ds) (a::l),P j):(a.im=false->∀j∈bm d,P j)/\∀j∈Lj ds l,P j:=by
 simp only[Lj,aV]at h;exact⟨λ e j hj=>h j (.inl (by rw[e];simpa using hj)),λj hj=>h j (.inr hj)⟩
theorem am2{c:CT X.ι}{l:List (CT.T X.toSE c)}:dS ((aL (l.map (CT.row X.toSE c))).take (l.map (CT.row X.toSE c)).length)=aL (l.map (CT.row X.toSE c)):=by
 rw[List.take_of_length_le (by simp[aL])];simp only[dS,aL,map_map];exact map_congr_left λy _=>by
  simp only[Function.comp,map_map];exact map_congr_left λz _=>rfl
theorem Zp{get:Nat->Option (br X)}{d:DV X}{c:CT X.ι}{x:List (CT.T X.toSE c)×Nat×List Bool}(h:Wk get d c=some x)(hc:∀b∈x.2.2,b=true):
 d= .own x.2.1 0 (List.length x.1)/\∃o,get x.2.1=some o/\(bF o).sz=(sD c x.1).1/\dS ((bF o).rows.take (sD c x.1).2.length)=aL (sD c x.1).2:=by
 unfold Wk at h;split at h
 ·rename_i k len;rw[ai]at h;obtain⟨o,h1,h⟩:=h;split at h
  ·rename_i b l;rw[ai]at h;obtain⟨l',h2,h⟩:=h;cases h;have⟨h3,h4⟩:=ji h2;have h5:len=List.length l':=(by simpa[bk]using hc (bk len (List.length l')) (by simp));refine⟨by rw[h5],.de b l,h1,by simp only[bF,sD];exact h3,?_⟩;simp only[bF,sD,h4];exact am2
  ·cases h
 ·cases h
theorem WZ{get:Nat->Option (br X)}{d:DV X}{c:CT X.ι}{x:CT.T X.toSE c×Nat}(h:WW get d c=some x):
 d= .ptr x.2 0 0/\∃o,get x.2=some o/\(bF o).sz=(sD c [x.1]).1/\dS ((bF o).rows.take (sD c [x.1]).2.length)=aL (sD c [x.1]).2:=by
 unfold WW at h;split at h
 ·rename_i k;rw[ai]at h;obtain⟨o,h1,h⟩:=h;split at h
  ·rename_i sz row;split at h
   ·rename_i hsz;have⟨y,h2,h⟩:=ai.1 h;cases h;refine⟨rfl,_,h1,by simp only[bF,sD];exact hsz,?_⟩;simp only[bF,sD,aC,map_nil,List.length_singleton,List.take_succ_cons,List.take_zero,dS,aL];rw[zO h2]
   ·cases h
  ·cases h
 ·cases h
theorem nN{P:Program}{Γ:FuncId->Option (bz X)}(hΓ:ry P Γ){get:Nat->Option (br X)}{rd ae:List Nat}:∀{n:Nat}{ds:List (DV X)}{l:List (AT X.ι)}{a:jc X l×List Nat×List Bool},pz Γ get ds l=some a->(∀ b∈a.2.2,b=true)->(∀ j∈aS ds,j∈rd)->(∀ j∈Lj ds l,j∉ae)->ae.drop n=a.2.1->
 (∃ hs obs,(∀ p∈obs,p)/\∀ag,mZ P (dD rd (fB get)) ae (bJ ds) (hs++ag)=some (dN n l a.1,ag,obs))/\∃mo,Dc (dD rd (fB get)) a.2.1 (qF l a.1)=some mo/\∀p∈mo,p
 |n,[],[],a,h,_,_,_,_=>by
  simp only[pz,aA]at h;subst h;exact⟨⟨[],[],by simp,λag=>rfl⟩,[],rfl,by simp⟩
 |n,d::ds,.mut c::l,a,h,hc,hrd,hnr,hid=>by
  simp only[pz]at h;have⟨x,h1,h⟩:=ai.1 h;have⟨q,h2,h⟩:=ai.1 h;cases h;obtain⟨rfl,o,g1,g2,g3⟩:=Zp h1 (λ b hb=>hc b (by simp[hb]));have zj:ae[n]? =some x.2.1:=by rw[<- List.head?_drop,hid];rfl
  have zp:ae.drop (n+1)=q.2.1:=by rw[<- List.tail_drop,hid];rfl
  obtain⟨⟨hs,obs,p1,p2⟩,mo,m1,m2⟩:=nN hΓ (n:=n+1) h2 (λ b hb=>hc b (by simp[hb])) (λ j hj=>hrd j (by simp[aS,hj])) (lM hnr).2 zp;refine⟨⟨.mut n::hs,obs,p1,λag=>?_⟩,((bF o).sz=(sD c x.1).1/\dS ((bF o).rows.take (sD c x.1).2.length)=aL (sD c x.1).2)::mo,?_,?_⟩
  ·simp only[bJ,den,mZ,cons_append,sj,zj,if_true,ah,p2,dN,bO]
  ·simp only[qF,Dc,dM (hrd x.2.1 (by simp[aS,bm])) g1,ah,m1]
  ·intro p hp;rcases aO.1 hp with rfl |hp
   ·exact⟨g2,g3⟩
   ·exact m2 p hp
 |n,d::ds,.fm c::l,a,h,hc,hrd,hnr,hid=>by
  simp only[pz]at h;have⟨x,h1,h⟩:=ai.1 h;have⟨q,h2,h⟩:=ai.1 h;cases h;obtain⟨rfl,o,g1,g2,g3⟩:=WZ h1;have zj:ae[n]? =some x.2:=by rw[<- List.head?_drop,hid];rfl
  have zp:ae.drop (n+1)=q.2.1:=by rw[<- List.tail_drop,hid];rfl
  obtain⟨⟨hs,obs,p1,p2⟩,mo,m1,m2⟩:=nN hΓ (n:=n+1) h2 (λ b hb=>hc b (by simp[hb])) (λ j hj=>hrd j (by simp[aS,hj])) (lM hnr).2 zp;refine⟨⟨.mut n::hs,obs,p1,λag=>?_⟩,((bF o).sz=(sD c [x.1]).1/\dS ((bF o).rows.take (sD c [x.1]).2.length)=aL (sD c [x.1]).2)::mo,?_,?_⟩
  ·simp only[bJ,den,mZ,cons_append,sj,zj,if_true,ah,p2,dN,bO]
  ·simp only[qF,Dc,dM (hrd x.2 (by simp[aS,bm])) g1,ah,m1]
  ·intro p hp;rcases aO.1 hp with rfl |hp
   ·exact⟨g2,g3⟩
   ·exact m2 p hp
 |n,d::ds,.d c::l,a,h,hc,hrd,hnr,hid=>by
  simp only[pz]at h;have⟨x,h1,h⟩:=ai.1 h;have⟨q,h2,h⟩:=ai.1 h;cases h;obtain⟨hs1,o1,p1,q1⟩:=sU (P:=P) hΓ 3 (n:=n) h1 (λ b hb=>hc b (by simp[hb])) (rd:=rd) (λ j hj=>hrd j (by simp only[aS,append_nil]at hj;simp[aS,hj]));obtain⟨⟨hs,obs,p2,q2⟩,mo,m1,m2⟩:=nN hΓ (n:=n) h2 (λ b hb=>hc b (by simp[hb])) (λ j hj=>hrd j (by simp[aS,hj])) (lM hnr).2 hid;refine⟨⟨Zo (den d) hs1++hs,o1++obs,gT p1 p2,λag=>?_⟩,mo,m1,m2⟩;have:=zP (J3 (q1 (hs++ag))) (λ k hk=>(lM hnr).1 rfl k (by rwa [iR]at hk));rw[OC]at this;simp only[bJ,mZ,aK,this,ah,q2,dN]
 |n,d::ds,.ref c::l,a,h,hc,hrd,hnr,hid=>by
  simp only[pz]at h;have⟨x,h1,h⟩:=ai.1 h;have⟨q,h2,h⟩:=ai.1 h;cases h;obtain⟨hs1,o1,p1,q1⟩:=sU (P:=P) hΓ 3 (n:=n) h1 (λ b hb=>hc b (by simp[hb])) (rd:=rd) (λ j hj=>hrd j (by simp only[aS,append_nil]at hj;simp[aS,hj]));obtain⟨⟨hs,obs,p2,q2⟩,mo,m1,m2⟩:=nN hΓ (n:=n) h2 (λ b hb=>hc b (by simp[hb])) (λ j hj=>hrd j (by simp[aS,hj])) (lM hnr).2 hid;refine⟨⟨Zo (den d) hs1++hs,o1++obs,gT p1 p2,λag=>?_⟩,mo,m1,m2⟩;have:=zP (J3 (q1 (hs++ag))) (λ k hk=>(lM hnr).1 rfl k (by rwa [iR]at hk));rw[OC]at this;simp only[bJ,mZ,aK,this,ah,q2,dN]
 |n,d::ds,.cV as r::l,a,h,hc,hrd,hnr,hid=>by
  simp only[pz]at h;have⟨x,h1,h⟩:=ai.1 h;have⟨q,h2,h⟩:=ai.1 h;cases h;obtain⟨hs1,o1,p1,q1⟩:=sU (P:=P) hΓ 3 (n:=n) h1 (λ b hb=>hc b (by simp[hb])) (rd:=rd) (λ j hj=>hrd j (by simp only[aS,append_nil]at hj;simp[aS,hj]));obtain⟨⟨hs,obs,p2,q2⟩,mo,m1,m2⟩:=nN hΓ (n:=n) h2 (λ b hb=>hc b (by simp[hb])) (λ j hj=>hrd j (by simp[aS,hj])) (lM hnr).2 hid;refine⟨⟨Zo (den d) hs1++hs,o1++obs,gT p1 p2,λag=>?_⟩,mo,m1,m2⟩;have:=zP (J3 (q1 (hs++ag))) (λ k hk=>(lM hnr).1 rfl k (by rwa [iR]at hk));rw[OC]at this;simp only[bJ,mZ,aK,this,ah,q2,dN]
 |n,d::ds,.nil::l,a,h,hc,hrd,hnr,hid=>by
  simp only[pz]at h;split at h
  ·have⟨q,h2,h⟩:=ai.1 h;cases h;obtain⟨⟨hs,obs,p2,q2⟩,mo,m1,m2⟩:=nN hΓ (n:=n) h2 hc (λ j hj=>hrd j (by simp[aS,hj])) (lM hnr).2 hid;refine⟨⟨.nil::hs,obs,p2,λag=>?_⟩,mo,m1,m2⟩;have:=zP (P:=P) (get':=dD rd (fB get)) (ae:=ae) (x:= .cM) (hs:= .nil::(hs++ag)) (p:=(.cM,hs++ag,[])) rfl (λ k hk=>by simp[refs]at hk);simp only[Zo]at this;simp only[bJ,den,mZ,cons_append,this,ah,q2,dN,bO]
  ·cases h
 |_,[],_::_,_,h,_,_,_,_=>by simp[pz]at h
 |_,_::_,[],_,h,_,_,_,_=>by simp[pz]at h
theorem adM{P:Program}(hΓ:ry P Γ){i:Nat}{f:DV X}{args:List (DV X)}{get:Nat->Option (br X)}{k:KK X A}{r:A}(h:T0 Γ i f args get k=some r):
 ∃ci rd wr dv upd ab,ko P i (den f) (bJ args) ci (dD rd (fB get))=some ab/\jY ab.obs/\ab.v=den dv/\ab.upd=gF upd/\(∀ p∈upd,p.1=cp i\/p.1∈wr)/\k dv upd rd wr=some r:=by
 unfold T0 at h;split at h
 ·rename_i F first caps
  rw[ai]at h;obtain⟨s,h1,h⟩:=h;split at h
  ·rename_i g hgen;exact abS ((hΓ F s h1).2.2 g (Option.filter_eq_some_iff.1 hgen).1) h
  split at h
  ·rename_i hpure;rw[ai]at h;obtain⟨⟨a,cs⟩,h2,h⟩:=h;have⟨hcs,h⟩:=pW h;rw[ai]at h;obtain⟨x,h3,h⟩:=h;rw[ai]at h;obtain⟨p,h4,h⟩:=h;have hf0:=(hΓ F s h1).2.1 a x h3;simp only[aJ]at hpure;rw[Ai (anB hpure.1),adx hpure.2]at hf0;have hf:=Wj hf0;have hi:=adK h4;have hk:=aaE h4;obtain⟨hs,obs,g1,g2⟩:=sU (P:=P) hΓ 3 h2 hcs (rd:=aS (first++args++caps)) (λ j hj=>hj);have g3:=g2 [];rw[append_nil,iE,iE]at g3;have hrefs:eD (bJ first++bJ args++bJ caps)=aS (first++args++caps):=(by rw[<- iE,<- iE,iq]);split at h
   ·rename_i hfl;refine⟨.call hs (tZ s.res x) true,_,[],p.1,p.2,⟨den p.1,gF p.2,obs++[sy P F (Ah s.args a) (tZ s.res x),(tZ s.res x).flat]⟩,?_,?_,rfl,rfl,λq hq=> .inl (hk q hq),h⟩
    ·simp only[den,ko,pu,yY,hi,ah,g3];rfl
    ·exact rO _ (gT g1 (by
      intro q hq;simp only[aO,jv,or_false]at hq;rcases hq with rfl |rfl
      ·exact hf
      ·exact WU x hfl))
   ·refine⟨.call hs (tZ s.res x) false,_,_,p.1,_,⟨den p.1,gF p.2++(aS (first++args++caps)).map (λ k=>(k,none)),obs++[sy P F (Ah s.args a) (tZ s.res x)]⟩,?_,?_,rfl,?_,?_,h⟩
    ·simp only[den,ko,pu,yY,hi,ah,g3,hrefs];rfl
    ·exact rO _ (gT g1 (by
      intro q hq;simp only[aY]at hq;subst hq;exact hf))
    ·simp only[sV,ES]
    ·intro q hq;rcases aV.1 hq with hq |hq
     ·exact .inl (hk q hq)
     ·exact .inr (Lg hq)
  ·rename_i hpure;rw[ai]at h;obtain⟨⟨a,ae,cs⟩,h2,h⟩:=h;have⟨hcs,h⟩:=pW h;rw[ai]at h;obtain⟨x,h3,h⟩:=h;rw[ai]at h;obtain⟨p,h4,h⟩:=h;split at h
   ·rename_i hc;simp only[aJ,aT]at hc;obtain⟨⟨hnd,hnr⟩,hlen⟩:=hc;have hf:=(hΓ F s h1).2.1 a x h3;have hi:=adK h4;have hk:=aaE h4;obtain⟨⟨hs,obs,g1,g2⟩,mo,m1,m2⟩:=nN (P:=P) hΓ (rd:=aS (first++args++caps)) (ae:=ae) (n:=0) h2 hcs (λ j hj=>hj) (λ j hj=>by simpa using all_eq_true.1 hnr j hj) rfl;have g3:=g2 [];rw[append_nil,iE,iE]at g3;have hrefs:eD (bJ first++bJ args++bJ caps)=aS (first++args++caps):=(by rw[<- iE,<- iE,iq]);have hlen':(oh s.res x).length=ae.length:=by
     rw[<- hlen];simpa using (congrArg List.length (Q0 s.res x)).symm
    have hout:gF (J2 ae (WV s.res x))=Df ae (oh s.res x):=aaD _ _ _ (Q0 s.res x);split at h
    ·rename_i hfl;refine⟨.s7 ae (qF s.args a) (oh s.res x) hs (tZ s.res x) true,_,ae,p.1,_,⟨den p.1,gF p.2++Df ae (oh s.res x),obs++mo++[rI P F (Ah s.args a) (qF s.args a) (oh s.res x) (tZ s.res x),(tZ s.res x).flat,VJ (oh s.res x)]⟩,?_,?_,rfl,?_,?_,h⟩
     ·simp only[den,ko,pu,JK,hi,ah,m1,g3];rw[aN ⟨hnd,hlen'⟩];rfl
     ·refine rO _ (gT (gT g1 m2) ?_);intro q hq;simp only[aO,jv,or_false]at hq;rcases hq with rfl |rfl |rfl
      ·exact hf
      ·exact WU x hfl
      ·exact aaA hfl
     ·simp only[sV,hout]
     ·intro q hq;rcases aV.1 hq with hq |hq
      ·exact .inl (hk q hq)
      ·exact .inr (M8 hq)
    ·refine⟨.s7 ae (qF s.args a) (oh s.res x) hs (tZ s.res x) false,_,_,p.1,_,⟨den p.1,gF p.2++(Df ae (oh s.res x)++((aS (first++args++caps)).filter λj=>!ae.contains j).map (λ k=>(k,none))),obs++mo++[rI P F (Ah s.args a) (qF s.args a) (oh s.res x) (tZ s.res x)]⟩,?_,?_,rfl,?_,?_,h⟩
     ·simp only[den,ko,pu,JK,hi,ah,m1,g3,JJ,hrefs];rw[aN ⟨hnd,hlen'⟩];rfl
     ·refine rO _ (gT (gT g1 m2) ?_);intro q hq;simp only[aY]at hq;subst hq;exact hf
     ·simp only[sV,hout,ES]
     ·intro q hq;rcases aV.1 hq with hq |hq
      ·exact .inl (hk q hq)
      ·rcases aV.1 hq with hq |hq
       ·exact .inr (List.mem_append_left _ (M8 hq))
       ·exact .inr (mem_append_right _ (Lg hq))
   ·cases h
 ·rename_i as q φ;rw[ai]at h;obtain⟨⟨hh,cs⟩,h1,h⟩:=h;have⟨hcs,h⟩:=pW h;rw[ai]at h;obtain⟨y,h2,h⟩:=h;obtain⟨hs,obs,g1,g2⟩:=OE (P:=P) h1 hcs (rd:=aS args) (λ j hj=>hj);have g3:=g2 [];rw[append_nil]at g3;have hφ:∃h' x',φ h'=some x'/\HL.np X.toSE as hh=HL.np X.toSE as h'/\CT.tv X.toSE q y=CT.tv X.toSE q x':=⟨hh,y,h2,rfl,rfl⟩;split at h
  ·rename_i hfl;refine⟨.A5 hs (HL.np X.toSE as hh) (CT.tv X.toSE q y) true,_,[],.c q y,[],⟨(CT.tv X.toSE q y).av,[],obs++[(HL.np X.toSE as hh).map TV.av=(HL.np X.toSE as hh).map TV.av,(∃ h' x',φ h'=some x'/\HL.np X.toSE as hh=HL.np X.toSE as h'/\CT.tv X.toSE q y=CT.tv X.toSE q x'),(CT.tv X.toSE q y).flat]⟩,?_,?_,rfl,rfl,by simp,h⟩
   ·simp only[den,ko,pu,yY,g3,ah];rfl
   ·exact rO _ (gT g1 (by
     intro z hz;simp only[aO,jv,or_false]at hz;rcases hz with rfl |rfl |rfl
     ·trivial
     ·exact hφ
     ·exact adI hfl y))
  ·refine⟨.A5 hs (HL.np X.toSE as hh) (CT.tv X.toSE q y) false,_,_,.c q y,_,⟨(CT.tv X.toSE q y).av,(aS args).map (λ k=>(k,none)),obs++[(HL.np X.toSE as hh).map TV.av=(HL.np X.toSE as hh).map TV.av,(∃ h' x',φ h'=some x'/\HL.np X.toSE as hh=HL.np X.toSE as h'/\CT.tv X.toSE q y=CT.tv X.toSE q x')]⟩,?_,?_,rfl,(ES _).symm,λz hz=> .inr (Lg hz),h⟩
   ·simp only[den,ko,pu,yY,g3,ah,iq];rfl
   ·exact rO _ (gT g1 (by
     intro z hz;simp only[aO,jv,or_false]at hz;rcases hz with rfl |rfl
     ·trivial
     ·exact hφ))
 ·cases h
theorem af4{P:Program}(hΓ:ry P Γ){fz:List Nat}{T:dC}{ao:TypeId->Option (CT X.ι)}{i:Nat}{o:Oper}{ρ:Operand->DV X}{get:Nat->Option (br X)}{k:KK X A}{r:A}(h:B9 Γ fz T ao i o.op ρ get k=some r):cN P T i o ρ get k r:=by
 obtain⟨dst,op,ty,aw,after,guard⟩:=o;unfold B9 at h;simp only at h;split at h
 ·rename_i f args cW;have:=adM hΓ h;simp only[<- U7]at this;obtain⟨ci,rd,wr,dv,upd,ab,g1,g2⟩:=this;exact .call g1 g2
 ·split at h
  ·exact afV (o:=⟨dst,op,ty,aw,after,guard⟩) h
  ·split at h
   ·exact afW (o:=⟨dst,op,ty,aw,after,guard⟩) h
   ·split at h
    ·exact afY (o:=⟨dst,op,ty,aw,after,guard⟩) h
    split at h
    ·exact afX (o:=⟨dst,op,ty,aw,after,guard⟩) h
    ·rename_i hne _ _ _ _;have⟨ci,rd,wr,dv,upd,ab,g1,g2⟩:=aar (o:=⟨dst,op,ty,aw,after,guard⟩) h;exact cN.op (λ f args cW e=>hne f args cW e) g1 g2
end
def k5(x y:AV):Prop:=∀P β w I v,VR P β w I x v->VR P β w I y v
theorem k5.refl(x:AV):k5 x x:=λ_ _ _ _ _ h=>h
theorem k5.undef(x:AV):k5 x .undef:=λ_ _ _ _ _ _=>by simp[VR]
theorem k5.wk(x:AV):k5 x (wk x):=λ_ _ _ _ _ h=>h.wk
section
variable {P:Program} {w0:World} {O0:j0} {N:Nat} {β:Nat->Option cE} {I:Nat->Prop} {a:Act} {w:World} {f g:Nat->Nat} {D:Nat->Prop}
mutual
theorem VR.rn(hgf:∀k,D k->g (f k)=k):∀(x:AV)(v:Value),(∀ k∈refs x,D k)->VR P β w I x v->VR P (λ j=>β (g j)) w I (eV f x) v
 | .own k aa len,v,hd,h=>by simp only[eV,VR,hgf k (hd k (by simp[refs]))]at h ⊢;exact h
 | .ptr k row aa,v,hd,h=>by simp only[eV,VR,hgf k (hd k (by simp[refs]))]at h ⊢;exact h
 | .agg cs,v,hd,h=>by
  simp only[eV,VR]at h ⊢;obtain⟨vs,h1,h2⟩:=h;exact⟨vs,h1,bj.rn hgf cs _ (by simpa[refs]using hd) h2⟩
 | .fh cs,v,hd,h=>by
  simp only[eV,VR]at h ⊢;obtain⟨vs,h1,h2⟩:=h;exact⟨vs,h1,bj.rn hgf cs _ (by simpa[refs]using hd) h2⟩
 | .fn F first caps,v,hd,h=>by
  simp only[eV,VR]at h ⊢;obtain⟨fs,cs,h1,h2,h3⟩:=h;exact⟨fs,cs,h1,bj.rn hgf first _ (λ k hk=>hd k (by simp[refs,hk])) h2,bj.rn hgf caps _ (λ k hk=>hd k (by simp[refs,hk])) h3⟩
 | .t x,v,_,h=>by simpa[eV,VR]using h
 | .ek r o,v,_,h=>by simpa[eV,VR]using h
 | .cV φ,v,_,h=>by simpa[eV,VR]using h
 | .mp k,v,hd,h=>by simp only[eV,VR,hgf k (hd k (by simp[refs]))]at h ⊢;exact h
 | .oz k len,v,hd,h=>by simp only[eV,VR,hgf k (hd k (by simp[refs]))]at h ⊢;exact h
 | .cM,v,_,h=>by simpa[eV,VR]using h
 | .ub,v,_,h=>by simpa[eV,VR]using h
 | .undef,v,_,h=>by simp[eV,VR]
theorem bj.rn(hgf:∀k,D k->g (f k)=k):∀(xs:List AV)(vs:List Value),(∀ k∈eD xs,D k)->bj P β w I xs vs->bj P (λ j=>β (g j)) w I (yZ f xs) vs
 |[],[],_,_=>by simp[yZ,bj]
 |x::xs,v::vs,hd,h=>by
  simp only[bj]at h;simp only[yZ,bj];exact⟨VR.rn hgf x v (λ k hk=>hd k (by simp[eD,hk])) h.1,bj.rn hgf xs vs (λ k hk=>hd k (by simp[eD,hk])) h.2⟩
 |[],_::_,_,h=>by simp[bj]at h
 |_::_,[],_,h=>by simp[bj]at h
end
def my(D:Nat->Prop)(f:Nat->Nat):List AV->List AV->Prop
 |[],[]=>True
 |x::xs,y::ys=>((∀ k∈refs x,D k)/\k5 (eV f x) y)/\my D f xs ys
 |_,_=>False
def gO(D:Nat->Prop)(f:Nat->Nat):List (List AV)->List (List AV)->Prop
 |[],[]=>True
 |r::rs,q::qs=>my D f r q/\gO D f rs qs
 |_,_=>False
theorem my.length:∀{r q:List AV},my D f r q->q.length=r.length
 |[],[],_=>rfl
 |_::xs,_::ys,h=>by simp[my.length h.2]
 |[],_::_,h=>h.elim
 |_::_,[],h=>h.elim
theorem cP.re(hgf:∀k,D k->g (f k)=k):∀{r q:List AV}{c:Array Value}{aa:Nat},my D f r q->cP P β w I r c aa->cP P (λ j=>β (g j)) w I q c aa
 |[],[],_,_,_,_=>trivial
 |x::xs,y::ys,c,aa,hr,⟨⟨v,h1,h2,h3⟩,h4⟩=>⟨⟨v,h1,hr.1.2 _ _ _ _ _ (VR.rn hgf x v hr.1.1 h2),h3⟩,cP.re hgf hr.2 h4⟩
 |[],_::_,_,_,h,_=>h.elim
 |_::_,[],_,_,h,_=>h.elim
theorem bp.re(hgf:∀k,D k->g (f k)=k):∀{rs qs:List (List AV)}{c:Array Value}{aa sz:Nat},gO D f rs qs->bp P β w I rs c aa sz->bp P (λ j=>β (g j)) w I qs c aa sz
 |[],[],_,_,_,_,_=>trivial
 |r::rs,q::qs,c,aa,sz,hr,⟨h1,h2,h3⟩=>⟨by rw[hr.1.length];exact h1,cP.re hgf hr.1 h2,bp.re hgf hr.2 h3⟩
 |[],_::_,_,_,_,h,_=>h.elim
 |_::_,[],_,_,_,h,_=>h.elim
theorem bj.re(hgf:∀k,D k->g (f k)=k):∀{r q:List AV}{vs:List Value},my D f r q->bj P β w I r vs->bj P (λ j=>β (g j)) w I q vs
 |[],[],[],_,_=>by simp[bj]
 |x::xs,y::ys,v::vs,hr,h=>by
  simp only[bj]at h ⊢;exact⟨hr.1.2 _ _ _ _ _ (VR.rn hgf x v hr.1.1 h.1),bj.re hgf hr.2 h.2⟩
 |[],_::_,_,h,_=>h.elim
 |_::_,[],_,h,_=>h.elim
 |[],[],_::_,_,h=>by simp[bj]at h
 |_::_,_::_,[],_,h=>by simp[bj]at h
theorem cy.re(hgf:∀k,D k->g (f k)=k):∀{rs qs:List (List AV)}{es:List MapEntry},gO D f rs qs->cy P β w I rs es->cy P (λ j=>β (g j)) w I qs es
 |[],[],[],_,_=>trivial
 |r::rs,q::qs,_::es,hr,⟨h1,h2⟩=>⟨bj.re hgf hr.1 h1,cy.re hgf hr.2 h2⟩
 |[],_::_,_,h,_=>h.elim
 |_::_,[],_,h,_=>h.elim
 |[],[],_::_,_,h=>h.elim
 |_::_,_::_,[],_,h=>h.elim
theorem gO.length:∀{rs qs:List (List AV)},gO D f rs qs->qs.length=rs.length
 |[],[],_=>rfl
 |_::xs,_::ys,h=>by simp[gO.length h.2]
 |[],_::_,h=>h.elim
 |_::_,[],h=>h.elim
theorem Rel.re{s s':St}(hgf:∀k,D k->g (f k)=k)(hg:∀j,j<1000->g j=j)(hr:Rel P w0 O0 N β I s a w)(hok:∀t,s.ok t=none\/s'.env t= .undef)(hok':∀t,s'.ok t=none)
 (hE:∀t,s'.env t= .undef\/((∀ k∈refs (s.env t),D k)/\k5 (eV f (s.env t)) (s'.env t)))
 (hO:∀j o',s'.obj j=some o'->∃k o,s.obj k=some o/\D k/\f k=j/\o'.sz=o.sz/\gO D f o.rows o'.rows):Rel P w0 O0 N (λ j=>β (g j)) I s' a w:=by
 refine⟨hr.defers,hr.size,λt=>?_,?_⟩
 ·have h1:=hr.env t;rw[hok' t];rcases hok t with hk |h
  rotate_left
  ·rw[h];simp[eK,VR]
  rw[hk]at h1;rcases hE t with h |⟨h2,h3⟩
  ·rw[h];simp[eK,VR]
  ·exact h3 _ _ _ _ _ (VR.rn hgf _ _ h2 h1)
 ·have hm:=hr.mem;constructor
  ·intro j o' hj;obtain⟨k,o,h1,h2,rfl,h4,h5⟩:=hO j o' hj;have⟨B,hB,ro⟩:=hm.cH k o h1;refine⟨B,by simp only[hgf k h2];exact hB,?_⟩;cases B with
   |none=>
    simp only[OR]at ro ⊢;rw[ro]at h5;cases ho:o'.rows with
    |nil=>rfl
    |cons=>rw[ho]at h5;exact h5.elim
   | «at» b sz n=>
    obtain⟨g1,c,e,g2,g3,g4⟩:=ro;exact⟨by rw[g1,h4],c,e,g2,g3,bp.re hgf h5 g4⟩
   |mp b=>
    obtain⟨es,cl,g1,gl,g2,g3⟩:=ro;have hl:=h5.length;exact⟨es,cl,g1,by omega,λe=>cy.re hgf h5 (g2 (by omega)),g3⟩
  ·intro j j' o o' B B' b h1 h2 h3 h4 h5 h6;obtain⟨k,q,i1,i2,rfl,_⟩:=hO j o h1;obtain⟨k',q',i1',i2',rfl,_⟩:=hO j' o' h2;simp only[hgf k i2,hgf k' i2']at h3 h4;rw[hm.gA k k' q q' B B' b i1 i1' h3 h4 h5 h6]
  ·intro j o B b h1 h2;obtain⟨k,q,i1,i2,rfl,_⟩:=hO j o h1;simp only[hgf k i2]at h2;exact hm.ownB k q B b i1 h2
  ·exact hm.lt
  ·exact hm.up
  ·exact hm.keep
  ·exact hm.le
  ·exact hm.os
  ·exact hm.tape
  ·exact hm.output
  ·intro j B hj;show β (g j)=some B;rw[hg j (O0.lt j B hj)];exact hm.anch j B hj
  ·exact hm.vars
end
section
variable {X:SX}
theorem adN{D:Nat->Prop}(f:Nat->Nat):∀r:List (DV X),(∀ k∈aS r,D k)->my D f (bJ r) (bJ (LX f r))
 |[],_=>trivial
 |x::xs,h=>⟨⟨λ k hk=>h k (by rw[iR]at hk;simp[aS,hk]),by rw[Cr];exact k5.refl _⟩,adN f xs λk hk=>h k (by simp[aS,hk])⟩
theorem Ll{D:Nat->Prop}(f:Nat->Nat)(o:br X)(h:∀k∈dE o,D k):(bF (ox f o)).sz=(bF o).sz/\gO D f (bF o).rows (bF (ox f o)).rows:=by
 cases o with
 |cells sz rows=>
  refine⟨rfl,?_⟩;simp only[bF,ox,map_map];simp only[dE]at h
  induction rows with
  |nil=>trivial
  |cons r rs ih=>
   refine⟨adN f r λk hk=>h k (by simp[hk]),ih λk hk=>h k ?_⟩;simp only[aC,flatten_cons,aV];exact .inr hk
 |de c l=>
  refine⟨rfl,?_⟩;simp only[bF,ox];generalize l.map (CT.row X.toSE c)=rows;have hrow:∀r:List Tree,my D f (r.map AV.t) (r.map AV.t):=by
   intro r
   induction r with
   |nil=>trivial
   |cons y ys ih=>exact⟨⟨by simp[refs],k5.refl _⟩,ih⟩
  induction rows with
  |nil=>trivial
  |cons r rs ih=>exact⟨hrow r,ih⟩
 |map kc vc l=>
  refine⟨rfl,?_⟩;simp only[bF,ox];clear h
  induction l with
  |nil=>trivial
  |cons p ps ih=>exact⟨⟨⟨by simp[Gr],by rw[WQ];exact k5.refl _⟩,⟨by simp[Gr],by rw[WQ];exact k5.refl _⟩,trivial⟩,ih⟩
structure Low(s:dc X):Prop where
 le:s.nx<=1000000
 ge:1000<=s.nx
 env:∀t,∀k∈bm (eC s.env t),k<s.nx
 obj:∀k o,fY s.obj k=some o->k<s.nx/\∀j∈dE o,j<s.nx
theorem W9{o:br X}{r:List AV}{x:AV}(hr:r∈(bF o).rows)(hx:x∈r):∀j∈refs x,j∈dE o:=by
 intro j hj;cases o with
 |cells sz rows=>
  simp only[bF,mem_map]at hr;obtain⟨q,hq,rfl⟩:=hr;rw[og,mem_map]at hx;obtain⟨d,hd,rfl⟩:=hx;simp only[dE,List.mem_flatten,mem_map];refine⟨_,⟨q,hq,rfl⟩,?_⟩;have:∀l:List (DV X),d∈l->j∈aS l:=by
   intro l
   induction l with
   |nil=>intro h;simp at h
   |cons y ys ih=>intro h;rcases aO.1 h with rfl |h
                  ·simp only[aS,aV];left;rwa [iR]at hj
                  ·simp only[aS,aV];exact .inr (ih h)
  exact this q hd
 |de c l=>
  simp only[bF,aL,mem_map]at hr;obtain⟨q,_,rfl⟩:=hr;simp only[mem_map]at hx;obtain⟨t,_,rfl⟩:=hx;simp[refs]at hj
 |map kc vc l=>
  simp only[bF,mem_map]at hr;obtain⟨q,_,rfl⟩:=hr;simp only[aO,jv,or_false]at hx;rcases hx with rfl |rfl<;>simp[Gr]at hj
theorem Low.old{s:dc X}(h:Low s):sq s.st:=by
 have hle:=h.le;constructor
 ·intro t k hk;have:=h.env t k (by rw[<- iR];exact hk);omega
 ·intro k o hk;simp only[dc.st,eO]at hk;obtain⟨o',h1,rfl⟩:=hk;have⟨h2,h3⟩:=h.obj k o' h1;refine⟨by omega,λr hr x hx j hj=>?_⟩;have:=h3 j (W9 hr hx j hj);omega
end
section
variable {X:SX} {A:Type}
def oS(e b:List (Nat×DV X))(t:Nat):DV X:=match lk e t with |some x=>x |none=>eC b t
def vd(o b:List (Nat×Option (br X)))(k:Nat):Option (br X):=match lk o k with |some x=>x |none=>fY b k
def Bv(dst:Option Tmp)(dv:DV X)(e:List (Nat×DV X)):List (Nat×DV X):=match dst with |some t=>(t,dv)::e |none=>e
def Xa:DV X->DV X
 | .skip=> .undef
 |x=>x
def MN(e:List (Nat×DV X)):Operand->Bool
 | .tmp t=>match lk e t with |some .skip=>false |_=>true
 |_=>true
def Td(e b:List (Nat×DV X))(o:Op):Bool:=
 match o with
 | .pick c x y=>MN e c&&((MN e x&&MN e y) || match Zh (oS e b) c with | .c .bool t=>bif t then MN e x else MN e y |_=>false)
 |o=>o.operands.toList.all (MN e)
abbrev Cp:=List (Nat×List Nat×List Nat)
section
variable (Γ:FuncId->Option (bz X)) (fz:List Nat) (T:dC) (ao:TypeId->Option (CT X.ι)) (am:Array Oper) (b:dc X)
def Am(k:List (Nat×DV X)->List (Nat×Option (br X))->Cp->Option A):List Nat->List (Nat×DV X)->List (Nat×Option (br X))->Cp->Option A
 |[],e,o,nh=>k e o nh
 |i::r,e,o,nh=>(am[i]?).bind λop=>match op.guard with
  |none=>bif Td e b.env op.op then B9 Γ fz T ao i op.op (Zh (oS e b.env)) (vd o b.obj) λdv upd rd wr=>Am k r (Bv op.dst (Xa dv) e) (upd++o) ((i,rd,wr)::nh)else none
  |some (j,p)=>((am[j]?).bind (·.dst)).bind λt=>match oS e b.env t with
   | .c .bool v=>
    bif v then(bif p then(bif Td ((t,.c .bool true)::e) b.env op.op then B9 Γ fz T ao i op.op (Zh (oS ((t,.c .bool true)::e) b.env)) (vd o b.obj) λdv upd rd wr=>Am k r (Bv op.dst (Xa dv) ((t,.c .bool true)::e)) (upd++o) ((i,rd,wr)::nh)else none)
     else Am k r (Bv op.dst .skip ((t,.c .bool true)::e)) o ((i,[],[])::nh))
    else(bif p then Am k r (Bv op.dst .skip ((t,.c .bool false)::e)) o ((i,[],[])::nh)
     else(bif Td ((t,.c .bool false)::e) b.env op.op then B9 Γ fz T ao i op.op (Zh (oS ((t,.c .bool false)::e) b.env)) (vd o b.obj) λdv upd rd wr=>Am k r (Bv op.dst (Xa dv) ((t,.c .bool false)::e)) (upd++o) ((i,rd,wr)::nh)else none))
   | .skip=>bif(lk e t).isSome then Am k r (Bv op.dst .skip e) o ((i,[],[])::nh)else none
   |_=>none
end
def iD(b:dc X)(e:List (Nat×DV X))(o:List (Nat×Option (br X))):St:=⟨λ t=>den (oS e b.env t),λk=>(vd o b.obj k).map bF,λt=>match lk e t with |some .skip=>some false |_=>none⟩
theorem aiA(x:DV X):den (Xa x)=den x:=by cases x<;>rfl
theorem aj9(b:dc X)(e:List (Nat×DV X))(o:List (Nat×Option (br X)))(dst:Option Tmp)(dv:DV X)(upd:List (Nat×Option (br X)))(obs:List Prop):
 (iD b e o).app dst (⟨den dv,gF upd,obs⟩,none)=iD b (Bv dst (Xa dv) e) (upd++o):=by
 simp only[iD,St.app,St.mk.injEq];refine⟨?_,?_,?_⟩
 ·funext t;cases dst with
  |none=>simp[Dg,Bv]
  |some d=>
   simp only[Dg,Bv,oS,lk,aA];by_cases h:d=t<;>simp[h,aiA]
 ·funext j
  induction upd with
  |nil=>rfl
  |cons p u ih=>
   obtain⟨q,x⟩:=p;simp only[gF,aC,bT,cons_append,vd,lk]at ih ⊢;by_cases h:j=q
   ·simp[h]
   ·rw[aM h,aM (Ne.symm h)];exact ih
 ·funext t;cases dst with
  |none=>simp[Dg,Bv]
  |some d=>
   simp only[Dg,Bv,lk,aA];by_cases h:d=t
   ·simp only[h,if_true];cases dv<;>rfl
   ·simp only[aM h]
theorem aiB(b:dc X)(e:List (Nat×DV X))(o:List (Nat×Option (br X)))(dst:Option Tmp):(iD b e o).app dst (⟨.undef,[],[]⟩,some false)=iD b (Bv dst .skip e) o:=by
 simp only[iD,St.app,St.mk.injEq];refine⟨?_,rfl,?_⟩
 ·funext t;cases dst with
  |none=>simp[Dg,Bv]
  |some d=>
   simp only[Dg,Bv,oS,lk,aA];by_cases h:d=t<;>simp[h,den]
 ·funext t;cases dst with
  |none=>simp[Dg,Bv]
  |some d=>
   simp only[Dg,Bv,lk,aA];by_cases h:d=t<;>simp[h]
theorem adO(b:dc X)(e:List (Nat×DV X))(o:List (Nat×Option (br X))):lv (iD b e o).env=λx=>den (Zh (oS e b.env) x):=by funext x;exact(Wo _ x).symm
theorem E8{b:dc X}{e:List (Nat×DV X)}{o:List (Nat×Option (br X))}{x:Operand}(h:MN e x=true):yU (iD b e o).ok x=[]:=by
 cases x with
 |tmp t=>
  simp only[MN]at h;simp only[yU,iD];cases ht:lk e t with
  |none=>rfl
  |some d=>rw[ht]at h;cases d<;>first |rfl |cases h
 |_=>rfl
theorem aiC{b:dc X}{e:List (Nat×DV X)}{o:List (Nat×Option (br X))}{P:Program}{T:dC}{i:Nat}{op:Oper}{ci:iS}{get:Nat->Option aU}{ab:Out}(hok:Td e b.env op.op=true)
 (h:jE P T i op ci (lv (iD b e o).env) get=some ab):∀p∈needs (iD b e o).env (iD b e o).ok op.op,p:=by
 obtain⟨dst,op,ty,aw,after,guard⟩:=op;unfold needs;split
 ·rename_i c x y heq;simp only at heq;subst heq;simp only[Td,aJ,Bool.or_eq_true]at hok;obtain⟨hc,hxy⟩:=hok;have hb:∃t,lv (iD b e o).env c= .t (.sc (.bool t)):=by
   have h0:(∃ n,ci= .ext n)\/(∃ ae fr q,ci= .vn ae fr q)\/qy T i ⟨dst,.pick c x y,ty,aw,after,guard⟩ ci (lv (iD b e o).env) get=some ab:=(by cases ci<;>first |exact .inl ⟨_,rfl⟩ |exact .inr (.inl ⟨_,_,_,rfl⟩) |exact .inr (.inr h));rcases h0 with ⟨n,rfl⟩ |⟨ae,fr,q,rfl⟩ |h0
   ·simp[jE,pU,DB,oO,lH]at h
   ·simp[jE,JL,T7]at h
   ·simp only[qy]at h0;split at h0
    ·rename_i t ht;exact⟨t,ht⟩
    ·cases h0
  obtain⟨t,ht⟩:=hb;rw[ht];simp only[E8 hc,bO];rcases hxy with ⟨hx,hy⟩ |hxy
  ·simp[E8 hx,E8 hy]
  ·split at hxy
   ·rename_i t' ht';have e1:lv (iD b e o).env c= .t (.sc (.bool t')):=(by rw[adO];simp only[ht'];rfl);rw[e1]at ht;injection ht with ht;injection ht with ht;injection ht with ht;subst ht;cases t' with
    |true=>
     simp only[aj]at hxy;simp[E8 hxy]
    |false=>
     simp only[ak]at hxy;simp[E8 hxy]
   ·cases hxy
 ·rename_i o' hne;intro p hp;have hall:∀x∈op.operands.toList,MN e x=true:=by
   have:Td e b.env op=op.operands.toList.all (MN e):=(by cases op<;>first |rfl |exact(hne _ _ _ rfl).elim);rw[this]at hok;exact all_eq_true.1 hok
  simp only[List.mem_flatMap]at hp;obtain⟨x,hx,hp⟩:=hp;rw[E8 (hall x hx)]at hp;simp at hp
theorem akb{a b:List Prop}(h:∀p∈a,p)(h':jY b):jY (a++b):=rO _ (gT h (Oj b h'))
variable {Γ:FuncId->Option (bz X)} {fz:List Nat} {T:dC} {ao:TypeId->Option (CT X.ι)} {am:Array Oper} {b:dc X} {P:Program}
theorem aiD(hΓ:ry P Γ){i:Nat}{op:Oper}{e:List (Nat×DV X)}{o:List (Nat×Option (br X))}{k:KK X A}{r:A}(hop:am[i]? =some op)(hw:want am op (iD b e o).env (iD b e o).ok=some true)(hok:Td e b.env op.op=true)
 (h:B9 Γ fz T ao i op.op (Zh (oS e b.env)) (vd o b.obj) k=some r):
 ∃(a:mi)(dv:DV X)(upd:List (Nat×Option (br X))),a.sym=false/\k dv upd a.rd a.wr=some r/\∀(cR:Nat->mi)(K:St->Prop),cR i=a->K (iD b (Bv op.dst (Xa dv) e) (upd++o))->vp P T am cR i K (iD b e o):=by
 have⟨ci,rd,wr,dv,upd,ab,h1,h2,h3,h4,h5,h6⟩:=af4 hΓ h;refine⟨⟨ci,rd,wr,false⟩,dv,upd,rfl,h6,λcR K ha hK=>?_⟩;have h1':jE P T i op ci (lv (iD b e o).env) (dD rd (iD b e o).obj)=some ab:=by rw[adO];exact h1
 refine⟨op,(⟨ab.v,ab.upd,needs (iD b e o).env (iD b e o).ok op.op++ab.obs⟩,none),hop,?_,?_,?_⟩
 ·unfold opAt;simp only[hop,ah,hw,ha,h1'];rw[aN];rw[all_eq_true];intro p hp;rw[h4]at hp;simp only[gF,mem_map]at hp;obtain⟨q,hq,rfl⟩:=hp;rcases h5 q hq with h |h
  ·simp[h,VX.2 (.inl rfl:io (cp i) (cp i))]
  ·simp[h]
 ·exact akb (aiC hok h1') h2
 ·rw[h3,h4,aj9];exact hK
theorem step_skip{i:Nat}{op:Oper}{e:List (Nat×DV X)}{o:List (Nat×Option (br X))}(hop:am[i]? =some op)(hw:want am op (iD b e o).env (iD b e o).ok=some false)
 (cR:Nat->mi) (K:St->Prop) (ha:cR i=⟨.none,[],[],false⟩) (hK:K (iD b (Bv op.dst .skip e) o)):vp P T am cR i K (iD b e o):=by
 refine⟨op,(⟨.undef,[],[]⟩,some false),hop,?_,trivial,?_⟩
 ·unfold opAt;simp only[hop,ah,hw,ha]
 ·rw[aiB];exact hK
theorem af5{e:List (Nat×DV X)}{o:List (Nat×Option (br X))}{t:Nat}{v:Bool}(h:oS e b.env t= .c .bool v):iD b ((t,.c .bool v)::e) o=iD b e o:=by
 simp only[iD,St.mk.injEq,true_and];refine⟨?_,?_⟩
 ·funext s;by_cases hs:t=s
  ·subst hs;rw[h];simp[oS,lk]
  ·simp[oS,lk,hs]
 ·funext s;by_cases hs:t=s
  ·subst hs;simp only[lk,if_true];unfold oS at h;cases ht:lk e t with
   |none=>rfl
   |some d=>rw[ht]at h;simp only at h;subst h;rfl
  ·simp[lk,hs]
def LY(tr:List (Nat×mi)):Cp:=tr.map λp=>(p.1,p.2.rd,p.2.wr)
def Te(am:Array Oper)(t:Nat):Prop:=∃(j:Nat)(op:Oper),am[j]? =some op/\op.dst=some t
theorem adP{dst:Option Tmp}{dv:DV X}{e:List (Nat×DV X)}{p:Nat×DV X}(h:p∈Bv dst dv e):p∈e\/dst=some p.1:=by
 cases dst with
 |none=>exact .inl h
 |some t=>
  simp only[Bv,aO]at h;rcases h with rfl |h
  ·exact .inr rfl
  ·exact .inl h
theorem Gx(hΓ:ry P Γ){k:List (Nat×DV X)->List (Nat×Option (br X))->Cp->Option A}{r:A}:∀(l:List Nat)(e:List (Nat×DV X))(o:List (Nat×Option (br X)))(nh:Cp),Am Γ fz T ao am b k l e o nh=some r->
 ∃(tr:List (Nat×mi))(e':List (Nat×DV X))(o':List (Nat×Option (br X))),tr.map (·.1)=l/\k e' o' ((LY tr).reverse++nh)=some r/\(∀ p∈e',p∈e\/Te am p.1)/\
  ∀cR:Nat->mi,(∀ p∈tr,cR p.1=p.2)->TP P T am cR (λ σ=>σ=iD b e' o') l (iD b e o)
 |[],e,o,nh,h=>⟨[],e,o,rfl,h,λ_ hp=> .inl hp,λ_ _=>rfl⟩
 |i::l,e,o,nh,h=>by
  simp only[Am]at h;have⟨op,hop,h⟩:=ai.1 h
  have exec:∀e:List (Nat×DV X),want am op (iD b e o).env (iD b e o).ok=some true->
   (bif Td e b.env op.op then B9 Γ fz T ao i op.op (Zh (oS e b.env)) (vd o b.obj) λdv upd rd wr=>Am Γ fz T ao am b k l (Bv op.dst (Xa dv) e) (upd++o) ((i,rd,wr)::nh)else none)=some r->
   ∃(tr:List (Nat×mi)) (e':List (Nat×DV X)) (o':List (Nat×Option (br X))),tr.map (·.1)=i::l/\k e' o' ((LY tr).reverse++nh)=some r/\(∀ p∈e',p∈e\/Te am p.1)/\
    ∀cR:Nat->mi,(∀ p∈tr,cR p.1=p.2)->TP P T am cR (λ σ=>σ=iD b e' o') (i::l) (iD b e o):=by
   intro e hw h;have⟨hok,h⟩:=dx h;have⟨a,dv,upd,_,h1,h2⟩:=aiD hΓ hop hw hok h;obtain⟨tr,e',o',g1,g2,g4,g3⟩:=Gx hΓ l _ _ _ h1;refine⟨(i,a)::tr,e',o',by simp[g1],?_,λp hp=>(g4 p hp).elim (λ hp=>(adP hp).elim .inl λhd=> .inr ⟨i,op,hop,hd⟩) .inr,λcR ha=>?_⟩
   ·simpa[LY]using g2
   ·exact h2 cR _ (ha (i,a) (by simp)) (g3 cR λp hp=>ha p (by simp[hp]))
  have skip:∀e:List (Nat×DV X),want am op (iD b e o).env (iD b e o).ok=some false->Am Γ fz T ao am b k l (Bv op.dst .skip e) o ((i,[],[])::nh)=some r->
   ∃(tr:List (Nat×mi)) (e':List (Nat×DV X)) (o':List (Nat×Option (br X))),tr.map (·.1)=i::l/\k e' o' ((LY tr).reverse++nh)=some r/\(∀ p∈e',p∈e\/Te am p.1)/\
    ∀cR:Nat->mi,(∀ p∈tr,cR p.1=p.2)->TP P T am cR (λ σ=>σ=iD b e' o') (i::l) (iD b e o):=by
   intro e hw h;obtain⟨tr,e',o',g1,g2,g4,g3⟩:=Gx hΓ l _ _ _ h;refine⟨(i,⟨.none,[],[],false⟩)::tr,e',o',by simp[g1],?_,λp hp=>(g4 p hp).elim (λ hp=>(adP hp).elim .inl λhd=> .inr ⟨i,op,hop,hd⟩) .inr,λcR ha=>?_⟩
   ·simpa[LY]using g2
   ·exact step_skip hop hw cR _ (ha (i,_) (by simp)) (g3 cR λp hp=>ha p (by simp[hp]))
  split at h
  ·rename_i hg;exact exec e (by simp[want,hg]) h
  ·rename_i j p hg;rw[ai]at h;obtain⟨t,ht,h⟩:=h;split at h
   ·rename_i v hv;have hw:∀e:List (Nat×DV X),oS e b.env t= .c .bool v->want am op (iD b e o).env (iD b e o).ok=some (v==p):=by
     intro e he;simp only[want,hg,ht];have h0:(iD b e o).ok t=none:=by
      simp only[iD];unfold oS at he;cases hq:lk e t with
      |none=>rfl
      |some d=>rw[hq]at he;simp only at he;subst he;rfl
     have h1:(iD b e o).env t= .t (.sc (.bool v)):=(by simp only[iD,he];rfl);rw[h0,h1]
    have hk:=af5 (b:=b) (o:=o) hv;have hv':oS ((t,.c .bool v)::e) b.env t= .c .bool v:=(by simp[oS,lk]);have htd:Te am t:=by
     have⟨oj,h1,h2⟩:=ai.1 ht;exact⟨j,oj,h1,h2⟩
    have wide:(∃ (tr:List (Nat×mi)) (e':List (Nat×DV X)) (o':List (Nat×Option (br X))),tr.map (·.1)=i::l/\k e' o' ((LY tr).reverse++nh)=some r/\(∀ p∈e',p∈((t,.c .bool v)::e:List (Nat×DV X))\/Te am p.1)/\
     ∀cR:Nat->mi,(∀ p∈tr,cR p.1=p.2)->TP P T am cR (λ σ=>σ=iD b e' o') (i::l) (iD b ((t,.c .bool v)::e) o))->
     ∃(tr:List (Nat×mi)) (e':List (Nat×DV X)) (o':List (Nat×Option (br X))),tr.map (·.1)=i::l/\k e' o' ((LY tr).reverse++nh)=some r/\(∀ p∈e',p∈e\/Te am p.1)/\
     ∀cR:Nat->mi,(∀ p∈tr,cR p.1=p.2)->TP P T am cR (λ σ=>σ=iD b e' o') (i::l) (iD b e o):=by
     rintro⟨tr,e',o',g1,g2,g4,g3⟩;refine⟨tr,e',o',g1,g2,λq hq=>?_,hk ▸ g3⟩;rcases g4 q hq with h |h
     ·rcases aO.1 h with rfl |h
      ·exact .inr htd
      ·exact .inl h
     ·exact .inr h
    apply wide;cases v with
    |true=>
     simp only[aj]at h;cases p with
     |true=>exact exec _ (hw _ hv') h
     |false=>exact skip _ (hw _ hv') h
    |false=>
     simp only[ak]at h;cases p with
     |true=>exact skip _ (hw _ hv') h
     |false=>exact exec _ (hw _ hv') h
   ·rename_i hv;have⟨hsome,h⟩:=dx h;refine skip e ?_ h;simp only[want,hg,ht];have h1:(iD b e o).env t= .undef:=(by simp only[iD,hv];rfl);cases hq:lk e t with
    |some d=>
     have h0:(iD b e o).ok t=some false:=by
      unfold oS at hv;rw[hq]at hv;simp only at hv;subst hv;simp only[iD,hq]
     rw[h0,h1]
    |none=>rw[hq]at hsome;cases hsome
   ·cases h
end
section
variable {X:SX} {A:Type}
def fN(nx k:Nat):Nat:=if k<1000000 then k else nx+(k -1000000)
def gN(nx j:Nat):Nat:=if j<nx then j else 1000000+(j -nx)
def Fm(nx sz k:Nat):Bool:=decide (k<nx) || (decide (1000000<=k)&&decide (k<1000000+sz))
def okE(nx sz:Nat)(e:List (Nat×DV X)):Bool:=e.all λp=>(bm p.2).all (Fm nx sz)
def okO(nx sz:Nat)(o:List (Nat×Option (br X))):Bool:=o.all λp=>Fm nx sz p.1&&match p.2 with |some x=>(dE x).all (Fm nx sz) |none=>true
def IT(nh:Cp):Nat->mi:=λi=>match lk nh i with |some p=>⟨.none,p.1,p.2,false⟩ |none=>⟨.none,[],[],false⟩
def DH(tr:List (Nat×mi)):Nat->mi:=λi=>match lk tr i with |some a=>a |none=>⟨.none,[],[],false⟩
def HI:DV X->DV X
 | .skip=> .undef
 |x=>x
theorem akd(x:DV X):den (HI x)=den x:=by cases x<;>rfl
theorem aaF(x:DV X):bm (HI x)=bm x:=by cases x<;>rfl
def fin(s:dc X)(e:List (Nat×DV X))(o:List (Nat×Option (br X)))(sz:Nat):dc X:=
 ⟨e.map (λ p=>(p.1,HI (m9 (fN s.nx) p.2)))++s.env,o.map (λ p=>(fN s.nx p.1,p.2.map (ox (fN s.nx))))++s.obj,s.nx+sz,o.map (λ p=>fN s.nx p.1)++s.log⟩
def ake(N:Nat)(am:Array Oper)(d:Bool)(nx:Nat)(e:List (Nat×DV X))(o:List (Nat×Option (br X)))(nh:Cp):Bool:=
 Mm N am&&(!d || Kx am (IT nh))&&okE nx (64*am.size) e&&okO nx (64*am.size) o&&decide (nx+64*am.size<=1000000)
def VV(Γ:FuncId->Option (bz X))(fz:List Nat)(T:dC)(ao:TypeId->Option (CT X.ι))(N:Nat)(am:Array Oper)(d:Bool)(s:dc X)(k:dc X->Option A):Option A:=
 Am Γ fz T ao am s (λ e o nh=>bif ake N am d s.nx e o nh then k (fin s e o (64*am.size))else none) (List.range am.size) [] [] []
theorem adQ{am:Array Oper}{cR tp:Nat->mi}(h:∀i,(cR i).rd=(tp i).rd/\(cR i).wr=(tp i).wr):Kx am cR=Kx am tp:=by
 have h1:y5 cR=y5 tp:=by
  funext i j;simp only[y5,(h i).1,(h i).2,(h j).1,(h j).2]
 have h2:∀md,QI md am cR=QI md am tp:=by
  intro md;funext listed i;simp only[QI,h1]
 have h3:∀(md:Region.Mode)(n k:Nat)(listed:Array Bool),lexFrom' md am cR n k listed=lexFrom' md am tp n k listed:=by
  intro md n
  induction n with
  |zero=>intro k listed;rfl
  |succ n ih=>intro k listed;simp only[lexFrom',h2,ih]
 exact h3 _ _ _ _
theorem E9{α:Type}:∀(a b:List (Nat×α))(k:Nat),lk (a++b) k=match lk a k with |some x=>some x |none=>lk b k
 |[],_,_=>rfl
 |(j,x)::a,b,k=>by
  simp only[cons_append,lk];by_cases h:j=k
  ·simp[h]
  ·simp only[aM h,E9 a b k]
theorem ahF{α:Type}:∀{l:List (Nat×α)}{k:Nat},lk l k=none->∀x,(k,x)∉l
 |(j,y)::r,k,h,x=>by
  simp only[lk]at h;split at h
  ·cases h
  ·rename_i hn;simp only[aO,Prod.mk.injEq,not_or];exact⟨λ e=>hn e.1.symm,ahF h x⟩
 |[],_,_,_=>by simp
theorem am3{tr:List (Nat×mi)}(hn:(tr.map (·.1)).Nodup)(i:Nat):(IT (LY tr).reverse i).rd=(DH tr i).rd/\(IT (LY tr).reverse i).wr=(DH tr i).wr:=by
 have hn':((LY tr).reverse.map (·.1)).Nodup:=by
  rw[List.map_reverse];have h1:((LY tr).map (·.1)).Nodup:=by simpa[LY,Function.comp_def]using hn
  exact List.pairwise_reverse.2 (h1.imp λh=>Ne.symm h)
 unfold IT DH;cases h:lk tr i with
 |none=>
  cases h':lk (LY tr).reverse i with
  |none=>exact⟨rfl,rfl⟩
  |some p=>
   have:=sw h';simp only[LY,List.mem_reverse,mem_map]at this;obtain⟨q,hq,he⟩:=this;injection he with e1 e2;subst e1;exact(ahF h q.2 hq).elim
 |some a=>
  have h1:=sw h;have h2:(i,a.rd,a.wr)∈(LY tr).reverse:=by
   simp only[LY,List.mem_reverse,mem_map];exact⟨(i,a),h1,rfl⟩
  rw[vK hn' h2];exact⟨rfl,rfl⟩
theorem akf{tr:List (Nat×mi)}(hn:(tr.map (·.1)).Nodup):∀p∈tr,DH tr p.1=p.2:=by
 rintro⟨i,a⟩ hp;unfold DH;rw[vK hn hp]
theorem Xb{nx sz k:Nat}(h:Fm nx sz k=true):k<nx\/(1000000<=k/\k<1000000+sz):=by simpa[Fm]using h
theorem RW{nx sz k:Nat}(hle:nx+sz<=1000000)(h:k<nx\/(1000000<=k/\k<1000000+sz)):gN nx (fN nx k)=k:=by
 unfold gN fN;rcases h with h |⟨h1,h2⟩
 ·rw[aN (show k<1000000 by omega),aN h]
 ·rw[aM (show ¬k<1000000 by omega),aM (by omega)];omega
theorem EE{nx sz k:Nat}(hle:nx+sz<=1000000)(h:k<nx\/(1000000<=k/\k<1000000+sz)):fN nx k<nx+sz:=by
 unfold fN;rcases h with h |⟨h1,h2⟩
 ·rw[aN (show k<1000000 by omega)];omega
 ·rw[aM (show ¬k<1000000 by omega)];omega
theorem Lz{nx k:Nat}(hle:nx<=1000000)(h:k<nx):fN nx k=k:=aN (by omega)
mutual
theorem Xc{f:Nat->Nat}:∀x:DV X,(∀ k∈bm x,f k=k)->m9 f x=x
 | .own k _ _,h=>by simp only[m9,h k (by simp[bm])]
 | .ptr k _ _,h=>by simp only[m9,h k (by simp[bm])]
 | .pZ k _ _,h=>by simp only[m9,h k (by simp[bm])]
 | .mp k,h=>by simp only[m9,h k (by simp[bm])]
 | .oz k _,h=>by simp only[m9,h k (by simp[bm])]
 | .rk k _ _ _ _,h=>by simp only[m9,h k (by simp[bm])]
 | .agg cs,h=>by simp only[m9,Ct cs (by simpa[bm]using h)]
 | .fh cs,h=>by simp only[m9,Ct cs (by simpa[bm]using h)]
 | .fn F first caps,h=>by simp only[m9,Ct first (λ k hk=>h k (by simp[bm,hk])),Ct caps (λ k hk=>h k (by simp[bm,hk]))]
 | .c _ _,_=>rfl
 | .rp _ _ _,_=>rfl
 | .uA _ _ _ _ _,_=>rfl
 | .cV _ _ _,_=>rfl
 | .raw _,_=>rfl
 | .nil,_=>rfl
 | .ub,_=>rfl
 | .skip,_=>rfl
 | .undef,_=>rfl
theorem Ct{f:Nat->Nat}:∀l:List (DV X),(∀ k∈aS l,f k=k)->LX f l=l
 |[],_=>rfl
 |x::xs,h=>by simp only[LX,Xc x (λ k hk=>h k (by simp[aS,hk])),Ct xs (λ k hk=>h k (by simp[aS,hk]))]
end
mutual
theorem Xd(f:Nat->Nat):∀x:DV X,bm (m9 f x)=(bm x).map f
 | .own _ _ _=>rfl
 | .ptr _ _ _=>rfl
 | .pZ _ _ _=>rfl
 | .mp _=>rfl
 | .oz _ _=>rfl
 | .rk _ _ _ _ _=>rfl
 | .agg cs=>by simp only[m9,bm,zR f cs]
 | .fh cs=>by simp only[m9,bm,zR f cs]
 | .fn F first caps=>by simp only[m9,bm,zR f first,zR f caps,map_append]
 | .c _ _=>rfl
 | .rp _ _ _=>rfl
 | .uA _ _ _ _ _=>rfl
 | .cV _ _ _=>rfl
 | .raw _=>rfl
 | .nil=>rfl
 | .ub=>rfl
 | .skip=>rfl
 | .undef=>rfl
theorem zR(f:Nat->Nat):∀l:List (DV X),aS (LX f l)=(aS l).map f
 |[]=>rfl
 |x::xs=>by simp only[LX,aS,Xd f x,zR f xs,map_append]
end
theorem adR(f:Nat->Nat)(o:br X):dE (ox f o)=(dE o).map f:=by
 cases o with
 |cells sz rows=>simp only[ox,dE,map_map,List.map_flatten];congr 1;exact map_congr_left λr _=>zR f r
 |de c l=>rfl
 |map kc vc l=>rfl
theorem akg{α β:Type}(f:α->β):∀(l:List (Nat×α))(k:Nat),lk (l.map λp=>(p.1,f p.2)) k=(lk l k).map f
 |[],_=>rfl
 |(j,x)::r,k=>by
  simp only[aC,lk];by_cases h:j=k
  ·simp[h]
  ·simp only[aM h,akg f r k]
theorem ahH{α β:Type}(f:α->β)(g:Nat->Nat):∀(l:List (Nat×α))(j:Nat),(∀ p∈l,∀q∈l,g p.1=g q.1->p.1=q.1)->
 (∀ y,lk (l.map λp=>(g p.1,f p.2)) j=some y->∃k x,lk l k=some x/\g k=j/\y=f x)/\(lk (l.map λp=>(g p.1,f p.2)) j=none->∀p∈l,g p.1≠j)
 |[],_,_=>⟨λ _ h=>by simp[lk]at h,λ_=>by simp⟩
 |(k0,x0)::r,j,hi=>by
  obtain⟨i1,i2⟩:=ahH f g r j (λ p hp q hq=>hi p (by simp[hp]) q (by simp[hq]));simp only[aC,lk];by_cases h:g k0=j
  ·rw[aN h];exact⟨λ y hy=>by injection hy with hy;exact⟨k0,x0,by simp,h,hy.symm⟩,λhn=>by cases hn⟩
  ·rw[aM h];refine⟨λ y hy=>?_,λhn p hp=>?_⟩
   ·have⟨k,x,h1,h2,h3⟩:=i1 y hy;refine⟨k,x,?_,h2,h3⟩;have hne:k0≠k:=λe=>h (by rw[e];exact h2);rw[aM hne];exact h1
   ·rcases aO.1 hp with rfl |hp
    ·exact h
    ·exact i2 hn p hp
structure Ext(ds:Nat->Prop)(s s':dc X):Prop where
 env:∀t,¬ds t->eC s'.env t=eC s.env t\/eC s'.env t= .undef
 obj:∃d,s'.log=d++s.log/\∀k,k<s.nx->k∉d->fY s'.obj k=fY s.obj k\/fY s'.obj k=none
 nx:s.nx<=s'.nx
variable {Γ:FuncId->Option (bz X)} {fz:List Nat} {T:dC} {ao:TypeId->Option (CT X.ι)} {P:Program} {N:Nat}
theorem OG(s:dc X)(e:List (Nat×DV X))(o:List (Nat×Option (br X)))(sz t:Nat):eC (fin s e o sz).env t=match lk e t with |some d=>HI (m9 (fN s.nx) d) |none=>eC s.env t:=by
 simp only[fin,eC,E9,akg (λ d=>HI (m9 (fN s.nx) d))];cases lk e t<;>rfl
theorem abV(hT:eY P T)(hm:P.follows .mixedOrders=true)(hΓ:ry P Γ){id:Nat}{am:Array Oper}{d:Bool}{s:dc X}{k:dc X->Option A}{r:A}(hl:Low s)(h:VV Γ fz T ao N am d s k=some r):
 ∃s':dc X,k s'=some r/\Low s'/\Ext (Te am) s s'/\Ev P N (.region id am d) (λ e σ=>e= .normal/\σ=s'.st) s.st:=by
 unfold VV at h;obtain⟨tr,e,o,h1,h2,h3,h4⟩:=Gx hΓ _ _ _ _ h;have⟨h5,h6⟩:=dx h2;simp only[ake,aJ,append_nil]at h5;obtain⟨⟨⟨⟨hd,hlex⟩,hE⟩,hO⟩,hnx⟩:=h5;have hle:s.nx+64*am.size<=1000000:=of_decide_eq_true hnx;have GG:(tr.map (·.1)).Nodup:=by rw[h1];exact List.nodup_range
 have Re:∀t x,lk e t=some x->∀j∈bm x,j<s.nx\/(1000000<=j/\j<1000000+64*am.size):=by
  intro t x hx j hj;have:=all_eq_true.1 hE _ (sw hx);exact Xb (all_eq_true.1 this j hj)
 have G1:∀p∈o,(p.1<s.nx\/(1000000<=p.1/\p.1<1000000+64*am.size))/\∀x,p.2=some x->∀j∈dE x,j<s.nx\/(1000000<=j/\j<1000000+64*am.size):=by
  intro p hp;have:=all_eq_true.1 hO _ hp;simp only[aJ]at this;refine⟨Xb this.1,λx hx j hj=>?_⟩;have h2:=this.2;rw[hx]at h2;exact Xb (all_eq_true.1 h2 j hj)
 have hinj:∀p∈o,∀q∈o,fN s.nx p.1=fN s.nx q.1->p.1=q.1:=by
  intro p hp q hq he;have:=congrArg (gN s.nx) he
  rwa [RW hle (G1 p hp).1,RW hle (G1 q hq).1]at this
 have vi:∀j,(∃ q x,lk o q=some x/\fN s.nx q=j/\fY (fin s e o (64*am.size)).obj j=x.map (ox (fN s.nx)))\/(fY (fin s e o (64*am.size)).obj j=fY s.obj j/\∀p∈o,fN s.nx p.1≠j):=by
  intro j;obtain⟨i1,i2⟩:=ahH (λ x:Option (br X)=>x.map (ox (fN s.nx))) (fN s.nx) o j hinj;simp only[fin,fY,E9];cases hj:lk (o.map λp=>(fN s.nx p.1,p.2.map (ox (fN s.nx)))) j with
  |none=>exact .inr ⟨rfl,i2 hj⟩
  |some y=>
   have⟨q,x,g1,g2,g3⟩:=i1 y hj;exact .inl ⟨q,x,g1,g2,by rw[g3];rfl⟩
 refine⟨fin s e o (64*am.size),h6,?_,?_,?_⟩
 ·constructor
  ·exact hle
  ·have:=hl.ge;show 1000<=s.nx+64*am.size;omega
  ·intro t j hj;rw[OG]at hj;cases ht:lk e t with
   |none=>rw[ht]at hj;have:=hl.env t j hj;show j<s.nx+64*am.size;omega
   |some x=>
    rw[ht,aaF,Xd]at hj;obtain⟨q,hq,rfl⟩:=mem_map.1 hj;exact EE hle (Re t x ht q hq)
  ·intro j x hx;rcases vi j with ⟨q,y,g1,rfl,g3⟩ |⟨g1,_⟩
   ·rw[g3]at hx;rw[eO]at hx;obtain⟨z,rfl,rfl⟩:=hx;obtain⟨k1,k2⟩:=G1 _ (sw g1);refine⟨EE hle k1,λi hi=>?_⟩;rw[adR]at hi;obtain⟨i',hi',rfl⟩:=mem_map.1 hi;exact EE hle (k2 z rfl i' hi')
   ·rw[g1]at hx;have⟨k1,k2⟩:=hl.obj j x hx;refine⟨show j<s.nx+64*am.size by omega,λi hi=>?_⟩;have:=k2 i hi;show i<s.nx+64*am.size;omega
 ·refine⟨λ t ht=> .inl ?_,⟨o.map (λ p=>fN s.nx p.1),rfl,λj hj hn=>?_⟩,by show s.nx<=s.nx+64*am.size;omega⟩
  ·rw[OG];cases hx:lk e t with
   |none=>rfl
   |some x=>
    rcases h3 _ (sw hx)with h |h
    ·simp at h
    ·exact(ht h).elim
  ·rcases vi j with ⟨q,y,g1,g2,g3⟩ |⟨g1,_⟩
   ·exact(hn (mem_map.2 ⟨(q,y),sw g1,g2⟩)).elim
   ·exact .inl g1
 ·have hst:iD s [] []=s.st:=rfl;have hex:=h4 (DH tr) (akf GG);rw[hst]at hex;intro w0 O0 β I a w hr ho;have done:∀(e':Exit)(a':Act)(w':World),(∃ β' I' σ1,Rel P w0 O0 N β' I' σ1 a' w'/\e'= .normal/\σ1=iD s e o)->∃ β' I' σ1,Rel P w0 O0 N β' I' σ1 a' w'/\sq σ1/\e'= .normal/\σ1=(fin s e o (64*am.size)).st:=by
   rintro e' a' w' ⟨β',I',σ1,g1,rfl,rfl⟩;refine⟨_,I',(fin s e o (64*am.size)).st,Rel.re (f:=fN s.nx) (g:=gN s.nx) (D:=λk=>k<s.nx\/(1000000<=k/\k<1000000+64*am.size)) (λ k hk=>RW hle hk) (λ j hj=>by have:=hl.ge;unfold gN;rw[aN (by omega)]) g1 (λ t=>?_) (λ _=>rfl) (λ t=> .inr ?_) (λ j o' hj=>?_),?_,rfl,rfl⟩
   ·show(match lk e t with |some .skip=>some false |_=>none)=none\/den (eC (fin s e o (64*am.size)).env t)= .undef;rw[OG];cases ht:lk e t with
    |none=>exact .inl rfl
    |some d=>cases d<;>first |exact .inl rfl |exact .inr rfl
   ·show(∀ k∈refs (den (oS e s.env t)),_)/\k5 (eV (fN s.nx) (den (oS e s.env t))) (den (eC (fin s e o (64*am.size)).env t));rw[OG,iR,<- Cr];unfold oS;cases ht:lk e t with
    |none=>
     refine⟨λ q hq=> .inl (hl.env t q hq),?_⟩;rw[Xc _ (λ q hq=>Lz (by omega) (hl.env t q hq))];exact k5.refl _
    |some x=>exact⟨Re t x ht,by simp only[akd];exact k5.refl _⟩
   ·simp only[dc.st,eO]at hj;obtain⟨x,hx,rfl⟩:=hj;rcases vi j with ⟨q,y,i1,rfl,i3⟩ |⟨i1,i2⟩
    ·rw[i3,eO]at hx;obtain⟨z,rfl,rfl⟩:=hx;obtain⟨k1,k2⟩:=G1 _ (sw i1);obtain⟨r1,r2⟩:=Ll (D:=λk=>k<s.nx\/(1000000<=k/\k<1000000+64*am.size)) (fN s.nx) z (λ i hi=>k2 z rfl i hi);refine⟨q,bF z,?_,k1,rfl,r1,r2⟩;simp only[iD,vd,i1,Option.map_some]
    ·rw[i1]at hx;have⟨k1,k2⟩:=hl.obj j x hx;have hid:ox (fN s.nx) x=x:=by
      cases x with
      |de c l=>rfl
      |map kc vc l=>rfl
      |cells sz rows=>
       simp only[ox];congr 1;have:∀q∈rows,LX (fN s.nx) q=q:=λq hq=>Ct q λi hi=>Lz (by omega) (k2 i (by
        simp only[dE,List.mem_flatten,mem_map];exact⟨_,⟨q,hq,rfl⟩,hi⟩))
       rw[map_congr_left this];simp
     obtain⟨r1,r2⟩:=Ll (D:=λk=>k<s.nx\/(1000000<=k/\k<1000000+64*am.size)) (fN s.nx) x (λ i hi=> .inl (k2 i hi));rw[hid]at r1 r2;refine⟨j,bF x,?_,.inl k1,Lz (by omega) k1,r1,r2⟩;simp only[iD,vd];cases hlo:lk o j with
     |none=>simp[hx]
     |some y=>exact(i2 _ (sw hlo) (Lz (by omega) k1)).elim
   ·have hL:Low (fin s e o (64*am.size)):=by
     constructor
     ·exact hle
     ·have:=hl.ge;show 1000<=s.nx+64*am.size;omega
     ·intro t j hj;rw[OG]at hj;cases ht:lk e t with
      |none=>rw[ht]at hj;have:=hl.env t j hj;show j<s.nx+64*am.size;omega
      |some x=>
       rw[ht,aaF,Xd]at hj;obtain⟨q,hq,rfl⟩:=mem_map.1 hj;exact EE hle (Re t x ht q hq)
     ·intro j x hx;rcases vi j with ⟨q,y,g1,rfl,g3⟩ |⟨g1,_⟩
      ·rw[g3]at hx;rw[eO]at hx;obtain⟨z,rfl,rfl⟩:=hx;obtain⟨k1,k2⟩:=G1 _ (sw g1);refine⟨EE hle k1,λi hi=>?_⟩;rw[adR]at hi;obtain⟨i',hi',rfl⟩:=mem_map.1 hi;exact EE hle (k2 z rfl i' hi')
      ·rw[g1]at hx;have⟨k1,k2⟩:=hl.obj j x hx;refine⟨show j<s.nx+64*am.size by omega,λi hi=>?_⟩;have:=k2 i hi;show i<s.nx+64*am.size;omega
    exact hL.old
  cases d with
  |false=>exact wp_mono (aid hT hd ho hex hr) done
  |true=>
   refine wp_mono (V8 hT hm hd ?_ ho hex hr) done;rw[<- adQ (am3 GG)];simpa using hlex
end
end Go.Gb
namespace Go.Gb
open Go.RowKit
structure Sh(ι:Type) where
 slots:List (Nat×Pt ι)
 cH:List (Nat×OP ι)
 keep:List Nat
 cX:List Nat
 nx:Nat
 yi:List (Nat×CT ι)
def Sh.vars{ι:Type}(s:Sh ι):List (CT ι):=ia s.slots++cA s.cH
section
variable {X:SX}
def nz(z:Bool)(k:Nat):DV X:=bif z then .oz k 0 else .own k 0 0
def xl(z:Bool)(s:dc X)(t:Nat)(c:CT X.ι):dc X:=
 match eC s.env t with
 | .nil=>if s.nx<1000000 then⟨(t,nz z s.nx)::s.env,(s.nx,some (.de c []))::s.obj,s.nx+1,s.nx::s.log⟩else s
 |_=>s
def DG(s:dc X)(q j:Nat)(c:CT X.ι):dc X:=
 match fY s.obj q with
 |some (.cells sz [row])=>match row[j]? with
  |some .nil=>if s.nx<1000000 then⟨s.env,(q,some (.cells sz [row.set j (.own s.nx 0 0)]))::(s.nx,some (.de c []))::s.obj,s.nx+1,q::s.nx::s.log⟩else s
  |_=>s
 |_=>s
def Q6:List (Nat×CT X.ι)->dc X->dc X
 |[],s=>s
 |(t,c)::r,s=>Q6 r (bif Nat.ble 1000000 t then bif Nat.ble 1099511627776 t then xl true s (t -1099511627776) c else DG s ((t -1000000)/4096) ((t -1000000)%4096) c else xl false s t c)
def Z2:DV X->Bool
 | .undef | .skip=>true
 |_=>false
def encS(sh:Sh X.ι)(s0:dc X)(v:VT (X:=X) sh.vars):dc X:=
 let L:=wY sh.vars v
 let n:=(ia sh.slots).length
 let ol:=λk=>(lk (lens sh.cH (L.drop n)) k).getD 0
 ⟨M5 ol sh.slots (L.take n)++sh.keep.map (λ t=>(t,eC s0.env t)),bX ol sh.cH (L.drop n)++sh.cX.map (λ k=>(k,fY s0.obj k)),sh.nx,
  (List.range s0.nx).filter (λ k=>!sh.cX.contains k)++s0.log⟩
def ZD(sh:Sh X.ι)(ds:List Nat)(s0 s':dc X)(m:MA X):Bool:=
 decide (m.nm.map (·.1)++sh.cX).Nodup&&decide (m.nm.map (·.2)++sh.cX).Nodup&&decide (sh.cH.map (·.1)).Nodup&&m.nm.all (λ q=>(sh.cH.map (·.1)).contains q.2&&decide (q.2<sh.nx)&&(decide (q.1=q.2) || decide (1000<=q.2)))&&
  sh.slots.all (λ p=>ds.contains p.1)&&sh.keep.all (λ t=>!ds.contains t&&!Z2 (eC s'.env t)&&(bm (eC s0.env t)).all λj=>sh.cX.contains j || m.nm.contains (j,j))&&
  sh.cX.all (λ k=>decide (k<s0.nx)&&!(s'.log.take (s'.log.length -s0.log.length)).contains k&&(fY s'.obj k).isSome&&match fY s0.obj k with |some o=>(dE o).all λj=>sh.cX.contains j || m.nm.contains (j,j) |none=>false)&&
  decide (s0.nx<=sh.nx)&&decide (sh.nx<=1000000)
def Mp{A:Type}(sh:Sh X.ι)(ds:List Nat)(s0 s':dc X)(k:VT (X:=X) sh.vars->Option A):Option A:=
 (JY (fY s'.obj) (eC s'.env) sh.slots ⟨[],[],[]⟩).bind λm=>(EW (fY s'.obj) sh.cH m).bind λm=>bif ZD sh ds s0 s' m then(Zk sh.vars m.ev).bind λv=>Ws m.ip (k v)else none
def qI{A:Type}(sh:Sh X.ι)(ds:List Nat)(s0 s':dc X)(k:VT (X:=X) sh.vars->Option A):Option A:=
 bif sh.yi.all (λ p=>bif Nat.ble 1000000 p.1 then !Nat.ble 1099511627776 p.1 || ds.contains (p.1 -1099511627776)else ds.contains p.1)then Mp sh ds s0 (Q6 sh.yi s') k else none
end
section
variable {X:SX}
theorem aaH{d:DV X}{c:CT X.ι}{x:CT.T X.toSE c}(h:LW d c=some x):bm d=[]:=by
 cases d
 case c=>rfl
 case nil=>rfl
 all_goals cases c<;>cases h
theorem Tf:∀{ds:List (DV X)}{l:List (CT X.ι)}{h:HL X.toSE l},Ae ds l=some h->aS ds=[]
 |[],[],_,_=>rfl
 |d::ds,c::l,h,hr=>by
  simp only[Ae]at hr;have⟨x,h1,hr⟩:=ai.1 hr;have⟨g,h2,hr⟩:=ai.1 hr;simp only[aS,aaH h1,Tf h2,append_nil]
 |[],_::_,_,hr=>by simp[Ae]at hr
 |_::_,[],_,hr=>by simp[Ae]at hr
theorem alO{d:DV X}{c:CT X.ι}{x:CT.T X.toSE c}(h:dat d c=some x):k5 (den d) (den (.c c x:DV X))/\bm d=[]:=by
 cases c
 case st i=>
  replace h:B6 d i=some x:=h
  cases d
  case agg cs=>
   simp only[B6]at h;have⟨g,h1,h⟩:=ai.1 h;cases h;refine⟨λ P β w I v hv=>?_,by simp only[bm,Tf h1]⟩;have h2:=(Af h1 (X.flat i)).1;simp only[den,VR]at hv;obtain⟨vs,rfl,hv⟩:=hv;show VR P β w I (.agg ((X.row i (X.make i g)).map AV.t)) _;have h3:(X.row i (X.make i g)).map AV.t=(bJ cs).map Gb.wk:=(by rw[h2];exact congrArg _ (X.gh i g));rw[h3];simp only[VR];exact⟨vs,rfl,bj.wk _ _ hv⟩
  case c a y=>
   replace h:gB a (.st i) y=some x:=h
   rw[(iQ h).1];exact⟨k5.refl _,rfl⟩
  all_goals cases h
 all_goals
  have h1:=wV h;refine⟨λ P β w I v hv=>?_,aaH h⟩;simp only[den];rw[<- h1];exact hv.wk
def gj(m m':MA X):Prop:=(∀ q∈m.nm,q∈m'.nm)/\(∀ c∈m.ip,c∈m'.ip)
theorem gj.refl(m:MA X):gj m m:=⟨λ _ h=>h,λ_ h=>h⟩
theorem gj.trans{a b c:MA X}(h:gj a b)(h':gj b c):gj a c:=⟨λ q hq=>h'.1 q (h.1 q hq),λq hq=>h'.2 q (h.2 q hq)⟩
theorem fw(m:MA X)(k' k:Nat):(addN m k' k).ev=m.ev/\(addN m k' k).ip=m.ip:=by unfold addN;split<;>exact⟨rfl,rfl⟩
theorem om(m:MA X)(k' k:Nat):(k',k)∈(addN m k' k).nm:=by
 unfold addN;split
 ·rename_i h;simpa using h
 ·simp
theorem pX(m:MA X)(k' k:Nat):gj m (addN m k' k):=by
 unfold addN;split
 ·exact gj.refl m
 ·exact⟨λ q hq=>by simp[hq],λ_ h=>h⟩
variable {get:Nat->Option (br X)}
mutual
theorem ahI:∀(p:Pt X.ι)(d:DV X)(m m':MA X),mP get p d m=some m'->gj m m'/\∃aq,m'.ev=m.ev++aq/\aq.length=p.vars.length
 | .v c,d,m,m',h=>by
  simp only[mP]at h;rw[ai]at h;obtain⟨x,h1,h⟩:=h;cases h;exact⟨⟨λ _ h=>h,λ_ h=>h⟩,[⟨c,x⟩],rfl,rfl⟩
 | .o k,d,m,m',h=>by
  simp only[mP]at h;split at h
  ·rename_i k' len;have⟨o,h1,h⟩:=ai.1 h;split at h
   ·cases h;refine⟨gj.trans (b:=⟨m.nm,m.ev,m.ip++_⟩) ⟨λ _ h=>h,λ_ h=>by simp[h]⟩ (pX _ _ _),[],by rw[(fw _ _ _).1];simp,rfl⟩
   ·cases h
  ·cases h
 | .oz k,d,m,m',h=>by
  simp only[mP]at h;split at h
  ·have⟨o,h1,h⟩:=ai.1 h;split at h
   ·cases h;refine⟨gj.trans (b:=⟨m.nm,m.ev,m.ip++_⟩) ⟨λ _ h=>h,λ_ h=>by simp[h]⟩ (pX _ _ _),[],by rw[(fw _ _ _).1];simp,rfl⟩
   ·cases h
  ·have⟨o,h1,h⟩:=ai.1 h;split at h
   ·cases h;refine⟨gj.trans (b:=⟨m.nm,m.ev,m.ip++_⟩) ⟨λ _ h=>h,λ_ h=>by simp[h]⟩ (pX _ _ _),[],by rw[(fw _ _ _).1];simp,rfl⟩
   ·cases h
  ·cases h
 | .p k,d,m,m',h=>by
  simp only[mP]at h;split at h
  ·cases h;exact⟨pX _ _ _,[],by rw[(fw _ _ _).1];simp,rfl⟩
  ·cases h
 | .mp k,d,m,m',h=>by
  simp only[mP]at h;split at h
  ·cases h;exact⟨pX _ _ _,[],by rw[(fw _ _ _).1];simp,rfl⟩
  ·cases h
 | .nil,d,m,m',h=>by
  simp only[mP]at h;split at h
  ·cases h;exact⟨gj.refl _,[],by simp,rfl⟩
  ·cases h
 | .f F fs cs,d,m,m',h=>by
  simp only[mP]at h;split at h
  ·split at h
   ·rw[ai]at h;obtain⟨m1,h1,h⟩:=h;obtain⟨a1,n1,b1,c1⟩:=Ao fs _ m m1 h1;obtain⟨a2,n2,b2,c2⟩:=Ao cs _ m1 m' h;exact⟨a1.trans a2,n1++n2,by rw[b2,b1,aK],by simp[Pt.vars,c1,c2]⟩
   ·cases h
  ·cases h
 | .od k,d,m,m',h=>by
  simp only[mP]at h;split at h
  ·rename_i k' aa len;have⟨o,h1,h⟩:=ai.1 h;split at h
   ·cases h;refine⟨gj.trans (b:=⟨m.nm,m.ev++[⟨.int .i64,(aa:Int)⟩],m.ip++_⟩) ⟨λ _ h=>h,λ_ h=>by simp[h]⟩ (pX _ _ _),[⟨.int .i64,(aa:Int)⟩],by rw[(fw _ _ _).1],rfl⟩
   ·cases h
  ·cases h
 | .a ps,d,m,m',h=>by
  simp only[mP]at h;split at h
  ·exact Ao ps _ m m' h
  ·cases h
theorem Ao:∀(ps:List (Pt X.ι))(ds:List (DV X))(m m':MA X),sd get ps ds m=some m'->gj m m'/\∃aq,m'.ev=m.ev++aq/\aq.length=(cI ps).length
 |[],[],m,m',h=>by
  simp only[sd,aA]at h;subst h;exact⟨gj.refl _,[],by simp,rfl⟩
 |p::ps,d::ds,m,m',h=>by
  simp only[sd]at h;have⟨m1,h1,h⟩:=ai.1 h;have⟨a1,n1,b1,c1⟩:=ahI p d m m1 h1;have⟨a2,n2,b2,c2⟩:=Ao ps ds m1 m' h;exact⟨a1.trans a2,n1++n2,by rw[b2,b1,aK],by simp[cI,c1,c2]⟩
 |[],_::_,m,m',h=>by simp[sd]at h
 |_::_,[],m,m',h=>by simp[sd]at h
end
theorem Ap:∀(rs:List (List (Pt X.ι)))(qs:List (List (DV X)))(m m':MA X),Ip get rs qs m=some m'->gj m m'/\∃aq,m'.ev=m.ev++aq/\aq.length=(wX rs).length
 |[],[],m,m',h=>by
  simp only[Ip,aA]at h;subst h;exact⟨gj.refl _,[],by simp,rfl⟩
 |r::rs,q::qs,m,m',h=>by
  simp only[Ip]at h;have⟨m1,h1,h⟩:=ai.1 h;have⟨a1,n1,b1,c1⟩:=Ao r q m m1 h1;have⟨a2,n2,b2,c2⟩:=Ap rs qs m1 m' h;exact⟨a1.trans a2,n1++n2,by rw[b2,b1,aK],by simp[wX,c1,c2]⟩
 |[],_::_,m,m',h=>by simp[Ip]at h
 |_::_,[],m,m',h=>by simp[Ip]at h
section
variable {NM:List (Nat×Nat)} {f:Nat->Nat} {dt:Nat->Nat}
def DN(NM:List (Nat×Nat))(j:Nat):Prop:=∃k,(j,k)∈NM
def SN(NM:List (Nat×Nat))(j:Nat):Prop:=∃k,(k,j)∈NM
theorem OH{D:Nat->Prop}{f:Nat->Nat}{P:Program}{β:Nat->Option cE}{w:World}{I:Nat->Prop}:∀{a b:List AV}(_:my D f a b)(u:List Value),bj P β w I (yZ f a) u->bj P β w I b u
 |[],[],_,u,hu=>hu
 |[],_::_,hr,_,_=>hr.elim
 |_::_,[],hr,_,_=>hr.elim
 |y::ys,z::zs,hr,[],hu=>by simp[yZ,bj]at hu
 |y::ys,z::zs,hr,v::vs,hu=>by
  simp only[yZ,bj]at hu ⊢;exact⟨hr.1.2 _ _ _ _ _ hu.1,OH hr.2 vs hu.2⟩
mutual
theorem adT(hf:∀q∈NM,f q.1=q.2)(ho:∀q∈NM,∀c l,get q.1=some (.de c l)->dt q.2=l.length):∀(p:Pt X.ι)(d:DV X)(m m':MA X),mP get p d m=some m'->(∀ q∈m'.nm,q∈NM)->(∀ c∈m'.ip,c=true)->
 ∃aq,m'.ev=m.ev++aq/\∃d',(∀ ag,eP dt p (aq++ag)=(d',ag))/\k5 (eV f (den d)) (den d')/\(∀ j∈bm d,DN NM j)/\(∀ j∈bm d',SN NM j)
 | .v c,d,m,m',h,_,_=>by
  simp only[mP]at h;rw[ai]at h;obtain⟨x,h1,h⟩:=h;cases h;have⟨h2,h3⟩:=alO h1;refine⟨[⟨c,x⟩],rfl,.c c x,λag=>rfl,?_,by simp[h3],by simp[bm]⟩;rw[<- Cr,Xc d (by simp[h3])];exact h2
 | .o k,d,m,m',h,hn,hc=>by
  simp only[mP]at h;split at h
  ·rename_i k' len;rw[ai]at h;obtain⟨o,h1,h⟩:=h;split at h
   ·rename_i c l;cases h;have hq:(k',k)∈NM:=hn _ (om _ _ _);have he:len=l.length:=by
     have:=hc (bk len l.length) (by rw[(fw _ _ _).2];simp);simpa[bk]using this
    refine⟨[],by rw[(fw _ _ _).1];simp,.own k 0 (dt k),λag=>rfl,?_,?_,?_⟩
    ·simp only[den,eV];rw[hf _ hq,ho _ hq c l h1,he];exact k5.refl _
    ·intro j hj;simp only[bm,aY]at hj;subst hj;exact⟨k,hq⟩
    ·intro j hj;simp only[bm,aY]at hj;subst hj;exact⟨k',hq⟩
   ·cases h
  ·cases h
 | .oz k,d,m,m',h,hn,hc=>by
  simp only[mP]at h;split at h
  ·rename_i k' len;rw[ai]at h;obtain⟨o,h1,h⟩:=h;split at h
   ·rename_i c l;cases h;have hq:(k',k)∈NM:=hn _ (om _ _ _);have he:len≠0/\len=l.length:=by
     have:=hc (!(len==0)&&bk len l.length) (by rw[(fw _ _ _).2];simp);simpa[bk]using this
    refine⟨[],by rw[(fw _ _ _).1];simp,.oz k (dt k),λag=>rfl,?_,λj hj=>?_,λj hj=>?_⟩
    ·simp only[den,eV];rw[hf _ hq,ho _ hq c l h1,<- he.2];intro P β w I v hv;simp only[VR]at hv ⊢;exact .inr ⟨he.1,hv.resolve_left λh=>he.1 h.2.2.2⟩
    ·simp only[bm,aY]at hj;subst hj;exact⟨k,hq⟩
    ·simp only[bm,aY]at hj;subst hj;exact⟨k',hq⟩
   ·cases h
  ·rename_i k' len;rw[ai]at h;obtain⟨o,h1,h⟩:=h;split at h
   ·rename_i c l;cases h;have hq:(k',k)∈NM:=hn _ (om _ _ _);have he:len=l.length:=by
     have:=hc (bk len l.length) (by rw[(fw _ _ _).2];simp);simpa[bk]using this
    refine⟨[],by rw[(fw _ _ _).1];simp,.oz k (dt k),λag=>rfl,?_,λj hj=>?_,λj hj=>?_⟩
    ·simp only[den,eV];rw[hf _ hq,ho _ hq c l h1,he];exact k5.refl _
    ·simp only[bm,aY]at hj;subst hj;exact⟨k,hq⟩
    ·simp only[bm,aY]at hj;subst hj;exact⟨k',hq⟩
   ·cases h
  ·cases h
 | .p k,d,m,m',h,hn,hc=>by
  simp only[mP]at h;split at h
  ·rename_i k';cases h;have hq:(k',k)∈NM:=hn _ (om _ _ _);refine⟨[],by rw[(fw _ _ _).1];simp,.ptr k 0 0,λag=>rfl,?_,?_,?_⟩
   ·simp only[den,eV];rw[hf _ hq];exact k5.refl _
   ·intro j hj;simp only[bm,aY]at hj;subst hj;exact⟨k,hq⟩
   ·intro j hj;simp only[bm,aY]at hj;subst hj;exact⟨k',hq⟩
  ·cases h
 | .mp k,d,m,m',h,hn,hc=>by
  simp only[mP]at h;split at h
  ·rename_i k';cases h;have hq:(k',k)∈NM:=hn _ (om _ _ _);refine⟨[],by rw[(fw _ _ _).1];simp,.mp k,λag=>rfl,?_,?_,?_⟩
   ·simp only[den,eV];rw[hf _ hq];exact k5.refl _
   ·intro j hj;simp only[bm,aY]at hj;subst hj;exact⟨k,hq⟩
   ·intro j hj;simp only[bm,aY]at hj;subst hj;exact⟨k',hq⟩
  ·cases h
 | .nil,d,m,m',h,_,_=>by
  simp only[mP]at h;split at h
  ·cases h;exact⟨[],by simp,.nil,λag=>rfl,k5.refl _,by simp[bm],by simp[bm]⟩
  ·cases h
 | .f F fs cs,d,m,m',h,hn,hc=>by
  simp only[mP]at h;split at h
  ·rename_i F' first caps
   split at h
   ·rename_i e;subst e;rw[ai]at h;obtain⟨m1,h1,h⟩:=h;have hm:=(Ao cs _ m1 m' h).1;obtain⟨n1,a1,f',b1,c1,e1,g1⟩:=Fa hf ho fs _ m m1 h1 (λ q hq=>hn q (hm.1 q hq)) (λ q hq=>hc q (hm.2 q hq));obtain⟨n2,a2,c',b2,c2,e2,g2⟩:=Fa hf ho cs _ m1 m' h hn hc;refine⟨n1++n2,by rw[a2,a1,aK],.fn F f' c',λag=>by simp only[eP,aK,b1,b2],?_,?_,?_⟩
    ·intro P β w I v hv;simp only[den,eV,VR]at hv ⊢;obtain⟨us,vs,rfl,hu,hv⟩:=hv;exact⟨us,vs,rfl,OH c1 _ hu,OH c2 _ hv⟩
    ·intro j hj;simp only[bm,aV]at hj;exact hj.elim (e1 j) (e2 j)
    ·intro j hj;simp only[bm,aV]at hj;exact hj.elim (g1 j) (g2 j)
   ·cases h
  ·cases h
 | .od k,d,m,m',h,hn,hc=>by
  simp only[mP]at h;split at h
  ·rename_i k' aa len;rw[ai]at h;obtain⟨o,h1,h⟩:=h;split at h
   ·rename_i c l;cases h;have hq:(k',k)∈NM:=hn _ (om _ _ _);have he:aa+len=l.length:=by
     have:=hc (bk (aa+len) l.length) (by rw[(fw _ _ _).2];simp);simpa[bk]using this
    refine⟨[⟨.int .i64,(aa:Int)⟩],by rw[(fw _ _ _).1],.own k aa (dt k -aa),λag=>?_,?_,?_,?_⟩
    ·simp only[eP,cons_append,bO];have:DO (X:=X) ⟨.int .i64,(aa:Int)⟩=aa:=by
      simp only[DO];rw[WE];simp
     rw[this]
    ·simp only[den,eV];rw[hf _ hq,ho _ hq c l h1,show l.length -aa=len by omega];exact k5.refl _
    ·intro j hj;simp only[bm,aY]at hj;subst hj;exact⟨k,hq⟩
    ·intro j hj;simp only[bm,aY]at hj;subst hj;exact⟨k',hq⟩
   ·cases h
  ·cases h
 | .a ps,d,m,m',h,hn,hc=>by
  simp only[mP]at h;split at h
  ·rename_i ds;have⟨aq,h1,ds',h2,h3,h4,h5⟩:=Fa hf ho ps ds m m' h hn hc;refine⟨aq,h1,.agg ds',λag=>by simp only[eP,h2],?_,by simpa[bm]using h4,by simpa[bm]using h5⟩;intro P β w I v hv;simp only[den,eV,VR]at hv ⊢;obtain⟨vs,rfl,hv⟩:=hv;refine⟨vs,rfl,?_⟩;exact OH h3 _ hv
  ·cases h
theorem Fa(hf:∀q∈NM,f q.1=q.2)(ho:∀q∈NM,∀c l,get q.1=some (.de c l)->dt q.2=l.length):∀(ps:List (Pt X.ι))(ds:List (DV X))(m m':MA X),sd get ps ds m=some m'->(∀ q∈m'.nm,q∈NM)->(∀ c∈m'.ip,c=true)->
 ∃aq,m'.ev=m.ev++aq/\∃ds',(∀ ag,lj dt ps (aq++ag)=(ds',ag))/\my (DN NM) f (bJ ds) (bJ ds')/\(∀ j∈aS ds,DN NM j)/\(∀ j∈aS ds',SN NM j)
 |[],[],m,m',h,_,_=>by
  simp only[sd,aA]at h;subst h;exact⟨[],by simp,[],λag=>rfl,trivial,by simp[aS],by simp[aS]⟩
 |p::ps,d::ds,m,m',h,hn,hc=>by
  simp only[sd]at h;have⟨m1,h1,h⟩:=ai.1 h;have hm:=(Ao ps ds m1 m' h).1;obtain⟨n1,a1,d',b1,c1,e1,g1⟩:=adT hf ho p d m m1 h1 (λ q hq=>hn q (hm.1 q hq)) (λ q hq=>hc q (hm.2 q hq));have⟨n2,a2,ds',b2,c2,e2,g2⟩:=Fa hf ho ps ds m1 m' h hn hc;refine⟨n1++n2,by rw[a2,a1,aK],d'::ds',λag=>?_,⟨⟨λ k hk=>e1 k (by rwa [iR]at hk),c1⟩,c2⟩,?_,?_⟩
  ·simp only[lj,aK,b1,b2]
  ·intro j hj;simp only[aS,aV]at hj;exact hj.elim (e1 j) (e2 j)
  ·intro j hj;simp only[aS,aV]at hj;exact hj.elim (g1 j) (g2 j)
 |[],_::_,m,m',h,_,_=>by simp[sd]at h
 |_::_,[],m,m',h,_,_=>by simp[sd]at h
end
theorem Tg(hf:∀q∈NM,f q.1=q.2)(ho:∀q∈NM,∀c l,get q.1=some (.de c l)->dt q.2=l.length):∀(rs:List (List (Pt X.ι)))(qs:List (List (DV X)))(m m':MA X),Ip get rs qs m=some m'->(∀ q∈m'.nm,q∈NM)->(∀ c∈m'.ip,c=true)->
 ∃aq,m'.ev=m.ev++aq/\∃CH,(∀ ag,wZ dt rs (aq++ag)=(CH,ag))/\gO (DN NM) f (qs.map bJ) (CH.map bJ)/\(∀ j∈(qs.map aS).flatten,DN NM j)/\(∀ j∈(CH.map aS).flatten,SN NM j)
 |[],[],m,m',h,_,_=>by
  simp only[Ip,aA]at h;subst h;exact⟨[],by simp,[],λag=>rfl,trivial,by simp,by simp⟩
 |r::rs,q::qs,m,m',h,hn,hc=>by
  simp only[Ip]at h;have⟨m1,h1,h⟩:=ai.1 h;have hm:=(Ap rs qs m1 m' h).1;obtain⟨n1,a1,d',b1,c1,e1,g1⟩:=Fa hf ho r q m m1 h1 (λ q hq=>hn q (hm.1 q hq)) (λ q hq=>hc q (hm.2 q hq));have⟨n2,a2,ds',b2,c2,e2,g2⟩:=Tg hf ho rs qs m1 m' h hn hc;refine⟨n1++n2,by rw[a2,a1,aK],d'::ds',λag=>?_,⟨c1,c2⟩,?_,?_⟩
  ·simp only[wZ,aK,b1,b2]
  ·intro j hj;simp only[aC,flatten_cons,aV]at hj;exact hj.elim (e1 j) (e2 j)
  ·intro j hj;simp only[aC,flatten_cons,aV]at hj;exact hj.elim (g1 j) (g2 j)
 |[],_::_,m,m',h,_,_=>by simp[Ip]at h
 |_::_,[],m,m',h,_,_=>by simp[Ip]at h
end
end
section
variable {X:SX} {get:Nat->Option (br X)} {env:Nat->DV X}
theorem J4:∀(sl:List (Nat×Pt X.ι))(m m':MA X),JY get env sl m=some m'->gj m m'/\∃aq,m'.ev=m.ev++aq/\aq.length=(ia sl).length
 |[],m,m',h=>by
  simp only[JY,aA]at h;subst h;exact⟨gj.refl _,[],by simp,rfl⟩
 |(t,p)::r,m,m',h=>by
  simp only[JY]at h;rw[ai]at h;obtain⟨m1,h1,h⟩:=h;obtain⟨a1,n1,b1,c1⟩:=ahI p _ m m1 h1;have⟨a2,n2,b2,c2⟩:=J4 r m1 m' h;exact⟨a1.trans a2,n1++n2,by rw[b2,b1,aK],by simp[ia,c1,c2]⟩
theorem mE:∀(os:List (Nat×OP X.ι))(m m':MA X),EW get os m=some m'->gj m m'/\∃aq,m'.ev=m.ev++aq/\aq.length=(cA os).length
 |[],m,m',h=>by
  simp only[EW,aA]at h;subst h;exact⟨gj.refl _,[],by simp,rfl⟩
 |(k,op)::r,m,m',h=>by
  simp only[EW]at h;rw[ai]at h;obtain⟨o,h1,h⟩:=h;split at h
  ·rename_i c c' l;rw[ai]at h;obtain⟨l',h2,h⟩:=h;obtain⟨a2,n2,b2,c2⟩:=mE r _ m' h;refine⟨gj.trans (gj.trans (b:=⟨m.nm,m.ev++[⟨.sl c,l'⟩],m.ip⟩) ⟨λ _ h=>h,λ_ h=>h⟩ (pX _ _ _)) a2,[⟨.sl c,l'⟩]++n2,?_,by simp[cA,c2]⟩;rw[b2,(fw _ _ _).1,aK]
  ·rename_i kc vc tf s9 l;rw[ai]at h;obtain⟨l',h2,h⟩:=h;obtain⟨a2,n2,b2,c2⟩:=mE r _ m' h;refine⟨gj.trans (gj.trans (b:=⟨m.nm,m.ev++[⟨.mp kc vc,l'⟩],m.ip⟩) ⟨λ _ h=>h,λ_ h=>h⟩ (pX _ _ _)) a2,[⟨.mp kc vc,l'⟩]++n2,?_,by simp[cA,c2]⟩;rw[b2,(fw _ _ _).1,aK]
  ·rename_i sz rows sz' rows';split at h
   ·rw[ai]at h;obtain⟨m1,h2,h⟩:=h;obtain⟨a1,n1,b1,c1⟩:=Ap rows _ _ m1 h2;have⟨a2,n2,b2,c2⟩:=mE r m1 m' h;refine⟨((pX m _ _).trans a1).trans a2,n1++n2,?_,by simp[cA,c1,c2]⟩;rw[b2,b1,(fw _ _ _).1,aK]
   ·cases h
  ·cases h
variable {NM:List (Nat×Nat)} {f:Nat->Nat} {dt:Nat->Nat}
theorem Gy:∀(os:List (Nat×OP X.ι))(m m':MA X),EW get os m=some m'->(∀ q∈m'.nm,q∈NM)->∃aq,m'.ev=m.ev++aq/\∀ag,∀k∈os.map (·.1),∃k' o,(k',k)∈NM/\get k'=some o/\∀c l,o= .de c l->(k,List.length l)∈lens os (aq++ag)
 |[],m,m',h,_=>by
  simp only[EW,aA]at h;subst h;exact⟨[],by simp,λag k hk=>by simp at hk⟩
 |(k,op)::r,m,m',h,hn=>by
  simp only[EW]at h;rw[ai]at h;obtain⟨o,h1,h⟩:=h;split at h
  ·rename_i c c' l;rw[ai]at h;obtain⟨l',h2,h⟩:=h;have hm:=(mE r _ m' h).1;obtain⟨n2,b2,c2⟩:=Gy r _ m' h hn;refine⟨[⟨.sl c,l'⟩]++n2,by rw[b2,(fw _ _ _).1,aK],λag j hj=>?_⟩;simp only[aC,aO]at hj;simp only[aK,cons_append,bO,lens];by_cases hjk:j=k
   ·subst hjk;refine⟨_,_,hn _ (hm.1 _ (om _ _ _)),h1,λc2 l2 he=>?_⟩;injection he with e1 e2;subst e1;have e2:=eq_of_heq e2;subst e2;have:=congrArg List.length (ji h2).2;simp only[length_map]at this;rw[this];exact List.mem_cons_self
   ·rcases hj with rfl |hj
    ·exact(hjk rfl).elim
    ·have⟨k',o',g1,g2,g3⟩:=c2 ag j hj;exact⟨k',o',g1,g2,λc l he=>eF _ (g3 c l he)⟩
  ·rename_i kc vc tf s9 l;rw[ai]at h;obtain⟨l',h2,h⟩:=h;have hm:=(mE r _ m' h).1;obtain⟨n2,b2,c2⟩:=Gy r _ m' h hn;refine⟨[⟨.mp kc vc,l'⟩]++n2,by rw[b2,(fw _ _ _).1,aK],λag j hj=>?_⟩;simp only[aC,aO]at hj;simp only[aK,cons_append,bO,lens,List.drop_succ_cons,List.drop_zero];by_cases hjk:j=k
   ·subst hjk;exact⟨_,_,hn _ (hm.1 _ (om _ _ _)),h1,λc2 l2 he=>by cases he⟩
   ·rcases hj with rfl |hj
    ·exact(hjk rfl).elim
    ·exact c2 ag j hj
  ·rename_i sz rows sz' rows';split at h
   ·have⟨m1,h2,h⟩:=ai.1 h;obtain⟨a1,n1,b1,c1⟩:=Ap rows _ _ m1 h2;have hm:=(mE r _ m' h).1;obtain⟨n2,b2,c2⟩:=Gy r _ m' h hn;refine⟨n1++n2,by rw[b2,b1,(fw _ _ _).1,aK],λag j hj=>?_⟩;simp only[aC,aO]at hj;have hd:(n1++n2++ag).drop (wX rows).length=n2++ag:=(by rw[<- c1,aK,List.drop_left]);simp only[lens,hd];by_cases hjk:j=k
    ·subst hjk;exact⟨_,_,hn _ (hm.1 _ (a1.1 _ (om _ _ _))),h1,λc2 l2 he=>by cases he⟩
    ·rcases hj with rfl |hj
     ·exact(hjk rfl).elim
     ·exact c2 ag j hj
   ·cases h
  ·cases h
theorem Lm:∀(os:List (Nat×OP X.ι))(L:List (DC X)),((lens os L).map (·.1)).Sublist (os.map (·.1))
 |[],_=>by simp[lens]
 |(k,.l c)::r,L=>by
  simp only[lens];split
  ·exact(Lm r _).cons_cons _
  ·exact List.nil_sublist _
 |(k,.m kc vc)::r,L=>by
  simp only[lens];exact(Lm r _).cons _
 |(k,.c sz rows)::r,L=>by
  simp only[lens];exact(Lm r _).cons _
theorem OI(hf:∀q∈NM,f q.1=q.2)(ho:∀q∈NM,∀c l,get q.1=some (.de c l)->dt q.2=l.length):∀(sl:List (Nat×Pt X.ι))(m m':MA X),JY get env sl m=some m'->(∀ q∈m'.nm,q∈NM)->(∀ c∈m'.ip,c=true)->
 ∃aq,m'.ev=m.ev++aq/\∃es,(∀ ag,M5 dt sl (aq++ag)=es)/\(∀ p∈es,p.1∈sl.map (·.1)/\k5 (eV f (den (env p.1))) (den p.2)/\(∀ j∈bm (env p.1),DN NM j)/\(∀ j∈bm p.2,SN NM j))
 |[],m,m',h,_,_=>by
  simp only[JY,aA]at h;subst h;exact⟨[],by simp,[],λag=>rfl,by simp⟩
 |(t,p)::r,m,m',h,hn,hc=>by
  simp only[JY]at h;have⟨m1,h1,h⟩:=ai.1 h;have hm:=(J4 r m1 m' h).1;obtain⟨n1,a1,d',b1,c1,e1,g1⟩:=adT hf ho p _ m m1 h1 (λ q hq=>hn q (hm.1 q hq)) (λ q hq=>hc q (hm.2 q hq));have⟨n2,a2,es,b2,c2⟩:=OI hf ho r m1 m' h hn hc;refine⟨n1++n2,by rw[a2,a1,aK],(t,d')::es,λag=>by simp only[M5,aK,b1,b2],λq hq=>?_⟩;rcases aO.1 hq with rfl |hq
  ·exact⟨by simp,c1,e1,g1⟩
  ·have⟨i1,i2⟩:=c2 q hq;exact⟨by simp only[aC,aO];exact .inr i1,i2⟩
theorem aaI{D:Nat->Prop}(f:Nat->Nat):∀rows:List (List Tree),gO D f (aL rows) (aL rows)
 |[]=>trivial
 |r::rs=>by
  refine⟨?_,aaI f rs⟩
  induction r with
  |nil=>trivial
  |cons y ys ih=>exact⟨⟨by simp[refs],k5.refl _⟩,ih⟩
theorem aaJ{a b c d:CT X.ι}{l:List (CT.T X.toSE a×CT.T X.toSE b)}{l':List (CT.T X.toSE c×CT.T X.toSE d)}(h:gB (.mp a b) (.mp c d) l=some l'):bF (.map c d l':br X)=bF (.map a b l):=by
 have⟨e,h⟩:=mq h;injection e with e1 e2;subst e1;subst e2;subst h;rfl
theorem aaK{D:Nat->Prop}(f:Nat->Nat){kc vc:CT X.ι}:∀l:List (CT.T X.toSE kc×CT.T X.toSE vc),gO D f (bF (.map kc vc l:br X)).rows (bF (.map kc vc l:br X)).rows
 |[]=>trivial
 |p::ps=>⟨⟨⟨by simp[Gr],by rw[WQ];exact k5.refl _⟩,⟨by simp[Gr],by rw[WQ];exact k5.refl _⟩,trivial⟩,aaK f ps⟩
theorem Cu(hf:∀q∈NM,f q.1=q.2)(ho:∀q∈NM,∀c l,get q.1=some (.de c l)->dt q.2=l.length):∀(os:List (Nat×OP X.ι))(m m':MA X),EW get os m=some m'->(∀ q∈m'.nm,q∈NM)->(∀ c∈m'.ip,c=true)->
 ∃aq,m'.ev=m.ev++aq/\∃xs,(∀ ag,bX dt os (aq++ag)=xs)/\(∀ p∈xs,p.1∈os.map (·.1)/\∃k' o o',p.2=some o'/\(k',p.1)∈NM/\get k'=some o/\(bF o').sz=(bF o).sz/\gO (DN NM) f (bF o).rows (bF o').rows/\(∀ j∈dE o',SN NM j))
 |[],m,m',h,_,_=>by
  simp only[EW,aA]at h;subst h;exact⟨[],by simp,[],λag=>rfl,by simp⟩
 |(k,op)::r,m,m',h,hn,hc=>by
  simp only[EW]at h;rw[ai]at h;obtain⟨o,h1,h⟩:=h;split at h
  ·rename_i c c' l;rw[ai]at h;obtain⟨l',h2,h⟩:=h;have hm:=(mE r _ m' h).1;obtain⟨n2,a2,xs,b2,c2⟩:=Cu hf ho r _ m' h hn hc;refine⟨[⟨.sl c,l'⟩]++n2,by rw[a2,(fw _ _ _).1,aK],(k,some (.de c l'))::xs,λag=>by simp only[aK,cons_append,bO,bX,b2],λq hq=>?_⟩;rcases aO.1 hq with rfl |hq
   ·refine⟨by simp,_,_,_,rfl,hn _ (hm.1 _ (om _ _ _)),h1,?_,?_,by simp[dE]⟩
    ·simp only[bF,(ji h2).1]
    ·simp only[bF,(ji h2).2];exact aaI f _
   ·have⟨i1,i2⟩:=c2 q hq;exact⟨by simp only[aC,aO];exact .inr i1,i2⟩
  ·rename_i kc vc tf s9 l;rw[ai]at h;obtain⟨l',h2,h⟩:=h;have hm:=(mE r _ m' h).1;obtain⟨n2,a2,xs,b2,c2⟩:=Cu hf ho r _ m' h hn hc;refine⟨[⟨.mp kc vc,l'⟩]++n2,by rw[a2,(fw _ _ _).1,aK],(k,some (.map kc vc l'))::xs,λag=>by simp only[aK,cons_append,bO,bX,b2],λq hq=>?_⟩;rcases aO.1 hq with rfl |hq
   ·refine⟨by simp,_,_,_,rfl,hn _ (hm.1 _ (om _ _ _)),h1,?_,?_,by simp[dE]⟩
    ·rw[aaJ h2]
    ·rw[aaJ h2];exact aaK f _
   ·have⟨i1,i2⟩:=c2 q hq;exact⟨by simp only[aC,aO];exact .inr i1,i2⟩
  ·rename_i sz rows sz' rows';split at h
   ·rename_i hsz;have⟨m1,h2,h⟩:=ai.1 h;have hm1:=(Ap rows _ _ m1 h2).1;have hm:=(mE r _ m' h).1;obtain⟨n1,a1,qs,b1,c1,e1,g1⟩:=Tg hf ho rows _ _ m1 h2 (λ q hq=>hn q (hm.1 q hq)) (λ q hq=>hc q (hm.2 q hq));obtain⟨n2,a2,xs,b2,c2⟩:=Cu hf ho r _ m' h hn hc;refine⟨n1++n2,by rw[a2,a1,(fw _ _ _).1,aK],(k,some (.cells sz qs))::xs,λag=>by simp only[aK,bX,b1,b2],λq hq=>?_⟩;rcases aO.1 hq with rfl |hq
    ·exact⟨by simp,_,_,_,rfl,hn _ (hm.1 _ (hm1.1 _ (om _ _ _))),h1,hsz,c1,g1⟩
    ·have⟨i1,i2⟩:=c2 q hq;exact⟨by simp only[aC,aO];exact .inr i1,i2⟩
   ·cases h
  ·cases h
theorem aiG{d:DV X}(h:Z2 d=false)(h':d= .undef):False:=by subst h';cases h
theorem abX{A:Type}{sh:Sh X.ι}{ds:List Nat}{s0 s':dc X}{k:VT (X:=X) sh.vars->Option A}{r:A}(hl0:Low s0)(hx:Ext (· ∈ds) s0 s')(h:Mp sh ds s0 s' k=some r):
 ∃v,k v=some r/\Low (encS sh s0 v)/\Ext (· ∈ds) s0 (encS sh s0 v)/\∀(P:Program) (w0:World) (O0:j0) (N:Nat) (β:Nat->Option cE) (I:Nat->Prop) (a:Act) (w:World),Rel P w0 O0 N β I s'.st a w->∃ β',Rel P w0 O0 N β' I (encS sh s0 v).st a w:=by
 unfold Mp at h;have⟨m1,h1,h⟩:=ai.1 h;have⟨m,h2,h⟩:=ai.1 h;have⟨h3,h⟩:=dx h;have⟨v,h4,h⟩:=ai.1 h;have⟨h5,h6⟩:=pW h;simp only[ZD,aJ,aT]at h3;obtain⟨⟨⟨⟨⟨⟨⟨⟨n1,n2⟩,n3⟩,n4⟩,n5⟩,n6⟩,n7⟩,n8⟩,n9⟩:=h3;have hm2:=(mE _ _ _ h2).1;have tW:=WC h4;obtain⟨_,nA,dA,lA⟩:=J4 _ _ _ h1;simp only[bO]at dA;have PJ:(m.nm.map (·.1)).Nodup:=(List.nodup_append.1 n1).1;have PH:(m.nm.map (·.2)).Nodup:=(List.nodup_append.1 n2).1;have hsw:((m.nm.map λq=>(q.2,q.1)).map (·.1)).Nodup:=by rw[map_map];exact PH
 generalize hf':(λ j=>match lk m.nm j with |some q=>q |none=>j:Nat->Nat)=f;generalize hg':(λ j=>match lk (m.nm.map λq=>(q.2,q.1)) j with |some q=>q |none=>j:Nat->Nat)=g;have hf:∀q∈m.nm,f q.1=q.2:=by
  rintro⟨p,q⟩ hq;rw[<- hf'];simp only[vK PJ hq]
 have hg:∀q∈m.nm,g q.2=q.1:=by
  rintro⟨p,q⟩ hq;rw[<- hg'];have:(q,p)∈m.nm.map λq=>(q.2,q.1):=mem_map.2 ⟨(p,q),hq,rfl⟩;simp only[vK hsw this]
 have mT:∀j∈sh.cX,f j=j:=by
  intro j hj;rw[<- hf'];cases hh:lk m.nm j with
  |none=>simp[hh]
  |some q=>exact((List.nodup_append.1 n1).2.2 j (mem_map.2 ⟨(j,q),sw hh,rfl⟩) j hj rfl).elim
 have GO:∀j∈sh.cX,g j=j:=by
  intro j hj;rw[<- hg'];cases hh:lk (m.nm.map λq=>(q.2,q.1)) j with
  |none=>simp[hh]
  |some q=>
   have h1:=sw hh;simp only[mem_map]at h1;obtain⟨z,hz,e⟩:=h1;injection e with e1 e2;exact((List.nodup_append.1 n2).2.2 j (mem_map.2 ⟨z,hz,e1⟩) j hj rfl).elim
 have hg0:∀j,j<1000->g j=j:=by
  intro j hj;rw[<- hg'];cases hh:lk (m.nm.map λq=>(q.2,q.1)) j with
  |none=>simp[hh]
  |some q=>
   have h1:=sw hh;simp only[mem_map]at h1;obtain⟨z,hz,e⟩:=h1;injection e with e1 e2;have:=all_eq_true.1 n4 z hz;simp only[aJ,Bool.or_eq_true,aT]at this;simp only[hh];omega
 have hgf:∀j,(DN m.nm j\/j∈sh.cX)->g (f j)=j:=by
  rintro j (⟨q,hq⟩ |hj)
  ·rw[hf _ hq];exact hg _ hq
  ·rw[mT j hj];exact GO j hj
 obtain⟨nB,dB,lB⟩:=Gy (NM:=m.nm) _ _ _ h2 (λ q hq=>hq);have hL:m.ev=nA++nB:=by rw[dB,dA]
 have hdrop:(wY sh.vars v).drop (ia sh.slots).length=nB:=by rw[tW,hL,<- lA,List.drop_left]
 have htake:(wY sh.vars v).take (ia sh.slots).length=nA:=by rw[tW,hL,<- lA,List.take_left]
 generalize hol:(λ k=>(lk (lens sh.cH nB) k).getD 0:Nat->Nat)=dt;have ho:∀q∈m.nm,∀c l,fY s'.obj q.1=some (.de c l)->dt q.2=l.length:=by
  rintro⟨p,q⟩ hq c l hl;have hqk:=all_eq_true.1 n4 _ hq;simp only[aJ]at hqk;obtain⟨p',o,g1,g2,g3⟩:=lB [] q (by simpa using hqk.1.1);have:p'=p:=by
   have e1:=hg _ g1;have e2:=hg _ hq;simp only at e1 e2;rw[<- e1,e2]
  subst this;simp only at hl;rw[hl]at g2;injection g2 with g2;have h3:=g3 c l g2.symm;rw[append_nil]at h3;rw[<- hol];have hk:=(Lm sh.cH nB).nodup n3;simp only[vK hk h3,Option.getD_some]
 obtain⟨Ok,Hx,es,eA,pA⟩:=OI (NM:=m.nm) (f:=f) (dt:=dt) hf ho _ _ _ h1 (λ q hq=>hm2.1 q hq) (λ c hc=>h5 c (hm2.2 c hc));obtain⟨Of,Su,xs,eB,pB⟩:=Cu (NM:=m.nm) (f:=f) (dt:=dt) hf ho _ _ _ h2 (λ q hq=>hq) h5;have So:Ok=nA:=by simp only[bO]at Hx;rw[<- Hx,dA]
 have Sf:Of=nB:=List.append_cancel_left (Su.symm.trans dB);subst So Sf;have Hs:=eA [];have Hp:=eB [];rw[append_nil]at Hs Hp;have hS:encS sh s0 v=⟨es++sh.keep.map (λ t=>(t,eC s0.env t)),xs++sh.cX.map (λ k=>(k,fY s0.obj k)),sh.nx,(List.range s0.nx).filter (λ k=>!sh.cX.contains k)++s0.log⟩:=by simp only[encS,hdrop,htake,hol,Hs,Hp]
 have hsn:∀j,SN m.nm j->j<sh.nx:=by
  rintro j ⟨p,hp⟩;have:=all_eq_true.1 n4 _ hp;simp only[aJ,aT]at this;exact this.1.2
 have kp:∀j,(sh.cX.contains j || m.nm.contains (j,j))=true->j∈sh.cX\/(j,j)∈m.nm:=by
  intro j hj;simpa using hj
 have hfp:∀j,j∈sh.cX\/(j,j)∈m.nm->f j=j:=λj hj=>hj.elim (mT j) (λ h=>hf (j,j) h);have hdp:∀j,j∈sh.cX\/(j,j)∈m.nm->DN m.nm j\/j∈sh.cX:=λj hj=>hj.elim .inr (λ h=> .inl ⟨j,h⟩);have hko:∀j∈sh.cX,j<s0.nx/\(∃ o,fY s0.obj j=some o/\fY s'.obj j=some o/\∀i∈dE o,i∈sh.cX\/(i,i)∈m.nm):=by
  intro j hj;have:=all_eq_true.1 n7 _ hj;simp only[aJ,aT,Bool.not_eq_true']at this;obtain⟨⟨⟨a1,a2⟩,a3⟩,a4⟩:=this;refine⟨a1,?_⟩;cases ho0:fY s0.obj j with
  |none=>rw[ho0]at a4;cases a4
  |some o=>
   rw[ho0]at a4;refine⟨o,rfl,?_,λi hi=>kp i (all_eq_true.1 a4 i hi)⟩;obtain⟨d,hd,hd2⟩:=hx.obj;have hnd:j∉d:=by
    have e:s'.log.take (s'.log.length -s0.log.length)=d:=(by rw[hd,dF,Nat.add_sub_cancel,List.take_left]);rw[e]at a2;simpa using a2
   rcases hd2 j a1 hnd with h |h
   ·rw[h,ho0]
   ·rw[h]at a3;cases a3
 have hke:∀t∈sh.keep,t∉ds/\eC s'.env t=eC s0.env t/\∀j∈bm (eC s0.env t),j∈sh.cX\/(j,j)∈m.nm:=by
  intro t ht;have:=all_eq_true.1 n6 _ ht;simp only[aJ,Bool.not_eq_true']at this;obtain⟨⟨a1,a2⟩,a3⟩:=this;have a1':t∉ds:=by simpa using a1
  refine⟨a1',?_,λj hj=>kp j (all_eq_true.1 a3 j hj)⟩;rcases hx.env t a1' with h |h
  ·exact h
  ·exact(aiG a2 h).elim
 have hks:∀q∈es,q.1∈ds:=by
  intro q hq;have h1:=(pA q hq).1;obtain⟨z,hz,e⟩:=mem_map.1 h1;have:=all_eq_true.1 n5 _ hz;rw[<- e];simpa using this
 have hkeep:∀t,lk (sh.keep.map λt=>(t,eC s0.env t)) t=if t∈sh.keep then some (eC s0.env t)else none:=by
  intro t
  induction sh.keep with
  |nil=>simp[lk]
  |cons q qs ih=>
   simp only[aC,lk,ih,aO];by_cases e:q=t
   ·subst e;simp
   ·rw[aM e];simp[Ne.symm e]
 have zg:∀t,lk (sh.cX.map λt=>(t,fY s0.obj t)) t=if t∈sh.cX then some (fY s0.obj t)else none:=by
  intro t
  induction sh.cX with
  |nil=>simp[lk]
  |cons q qs ih=>
   simp only[aC,lk,ih,aO];by_cases e:q=t
   ·subst e;simp
   ·rw[aM e];simp[Ne.symm e]
 have qe:∀t,(∃ d,(t,d)∈es/\eC (encS sh s0 v).env t=d)\/(t∈sh.keep/\eC (encS sh s0 v).env t=eC s0.env t)\/eC (encS sh s0 v).env t= .undef:=by
  intro t;have e1:eC (encS sh s0 v).env t=(match lk es t with |some d=>some d |none=>if t∈sh.keep then some (eC s0.env t)else none).getD .undef:=by
   rw[hS];show(lk (es++sh.keep.map (λ t=>(t,eC s0.env t))) t).getD .undef=_;rw[E9,hkeep t];cases lk es t<;>rfl
  rw[e1];cases he:lk es t with
  |some d=>exact .inl ⟨d,sw he,rfl⟩
  |none=>
   by_cases ht:t∈sh.keep
   ·simp only[aN ht];exact .inr (.inl ⟨ht,rfl⟩)
   ·simp only[aM ht];exact .inr (.inr rfl)
 have jj:∀j o,fY (encS sh s0 v).obj j=some o->(∃ k' o1,(k',j)∈m.nm/\fY s'.obj k'=some o1/\(bF o).sz=(bF o1).sz/\gO (DN m.nm) f (bF o1).rows (bF o).rows/\(∀ i∈dE o,SN m.nm i))\/(j∈sh.cX/\fY s0.obj j=some o):=by
  intro j o hjo;have e1:fY (encS sh s0 v).obj j=(match lk xs j with |some d=>some d |none=>if j∈sh.cX then some (fY s0.obj j)else none).join:=by
   rw[hS];show(lk (xs++sh.cX.map (λ k=>(k,fY s0.obj k))) j).join=_;rw[E9,zg j];cases lk xs j<;>rfl
  rw[e1]at hjo;cases he:lk xs j with
  |some x=>
   rw[he]at hjo;obtain⟨_,k',o1,o',b1,b2,b3,b4,b5,b6⟩:=pB _ (sw he);simp only at b1 b2 hjo;subst b1;simp only[Option.join_some,aA]at hjo;subst hjo;exact .inl ⟨k',o1,b2,b3,b4,b5,b6⟩
  |none=>
   rw[he]at hjo;by_cases hj:j∈sh.cX
   ·simp only[aN hj,Option.join_some]at hjo;exact .inr ⟨hj,hjo⟩
   ·simp[aM hj]at hjo
 have hnx:s0.nx<=sh.nx:=n8;have hkx:∀j,j∈sh.cX\/(j,j)∈m.nm->j<sh.nx:=λj hj=>hj.elim (λ hj=>Nat.lt_of_lt_of_le (hko j hj).1 hnx) (λ h=>hsn j ⟨j,h⟩);have hRW:∀{r q:List AV},my (DN m.nm) f r q->my (λ j=>DN m.nm j\/j∈sh.cX) f r q:=by
  intro r
  induction r with
  |nil=>intro q h;cases q with
   |nil=>trivial
   |cons=>exact h.elim
  |cons x xs ih=>intro q h;cases q with
   |nil=>exact h.elim
   |cons y ys=>exact⟨⟨λ k hk=> .inl (h.1.1 k hk),h.1.2⟩,ih h.2⟩
 have Q1:∀{r q:List (List AV)},gO (DN m.nm) f r q->gO (λ j=>DN m.nm j\/j∈sh.cX) f r q:=by
  intro r
  induction r with
  |nil=>intro q h;cases q with
   |nil=>trivial
   |cons=>exact h.elim
  |cons x xs ih=>intro q h;cases q with
   |nil=>exact h.elim
   |cons y ys=>exact⟨hRW h.1,ih h.2⟩
 refine⟨v,h6,?_,?_,?_⟩
 ·constructor
  ·rw[hS];exact n9
  ·rw[hS];exact Nat.le_trans hl0.ge n8
  ·intro t j hj;have yz:(encS sh s0 v).nx=sh.nx:=(by rw[hS]);rw[yz];rcases qe t with ⟨d,h1,h2⟩ |⟨h1,h2⟩ |h2
   ·rw[h2]at hj;exact hsn j ((pA _ h1).2.2.2 j hj)
   ·rw[h2]at hj;exact hkx j ((hke t h1).2.2 j hj)
   ·rw[h2]at hj;simp[bm]at hj
  ·intro j o hjo;have yz:(encS sh s0 v).nx=sh.nx:=(by rw[hS]);rw[yz];rcases jj j o hjo with ⟨k',o1,b1,b2,b3,b4,b5⟩ |⟨b1,b2⟩
   ·exact⟨hsn j ⟨k',b1⟩,λi hi=>hsn i (b5 i hi)⟩
   ·have⟨c1,o',c2,c3,c4⟩:=hko j b1;rw[b2]at c2;cases c2;exact⟨hkx j (.inl b1),λi hi=>hkx i (c4 i hi)⟩
 ·refine⟨λ t ht=>?_,⟨(List.range s0.nx).filter (λ k=>!sh.cX.contains k),by rw[hS],λj hj hn=>?_⟩,by rw[hS];exact hnx⟩
  ·rcases qe t with ⟨d,h1,h2⟩ |⟨h1,h2⟩ |h2
   ·exact(ht (hks _ h1)).elim
   ·exact .inl h2
   ·exact .inr h2
  ·have hjk:j∈sh.cX:=(by simpa[hj]using hn);cases hjo:fY (encS sh s0 v).obj j with
   |none=>exact .inr rfl
   |some o=>
    rcases jj j o hjo with ⟨k',o1,b1,_⟩ |⟨b1,b2⟩
    ·exact((List.nodup_append.1 n2).2.2 j (mem_map.2 ⟨(k',j),b1,rfl⟩) j hjk rfl).elim
    ·exact .inl b2.symm
 ·intro P w0 O0 N β I a w hr;refine⟨_,Rel.re (f:=f) (g:=g) (D:=λj=>DN m.nm j\/j∈sh.cX) hgf hg0 hr (λ _=> .inl rfl) (λ _=>rfl) (λ t=>?_) (λ j o' hj=>?_)⟩
  ·show den (eC (encS sh s0 v).env t)= .undef\/((∀ k∈refs (den (eC s'.env t)),_)/\k5 (eV f (den (eC s'.env t))) (den (eC (encS sh s0 v).env t)));rcases qe t with ⟨d,h1,h2⟩ |⟨h1,h2⟩ |h2
   ·right;rw[h2];obtain⟨_,b1,b2,_⟩:=pA _ h1;exact⟨λ k hk=> .inl (b2 k (by rwa [iR]at hk)),b1⟩
   ·right;have⟨_,b1,b2⟩:=hke t h1;rw[h2,b1];refine⟨λ k hk=>hdp k (b2 k (by rwa [iR]at hk)),?_⟩;rw[<- Cr,Xc _ (λ k hk=>hfp k (b2 k hk))];exact k5.refl _
   ·left;rw[h2];rfl
  ·simp only[dc.st,eO]at hj;obtain⟨o,hjo,rfl⟩:=hj;rcases jj j o hjo with ⟨k',o1,b1,b2,b3,b4,b5⟩ |⟨b1,b2⟩
   ·exact⟨k',bF o1,by simp[dc.st,b2],.inl ⟨j,b1⟩,hf _ b1,b3,Q1 b4⟩
   ·have⟨c1,o',c2,c3,c4⟩:=hko j b1;rw[b2]at c2;cases c2;have hid:ox f o=o:=by
     cases o with
     |de c l=>rfl
     |map kc vc l=>rfl
     |cells sz rows=>
      simp only[ox];congr 1;have:∀q∈rows,LX f q=q:=λq hq=>Ct q λi hi=>hfp i (c4 i (by
       simp only[dE,List.mem_flatten,mem_map];exact⟨_,⟨q,hq,rfl⟩,hi⟩))
      rw[map_congr_left this];simp
    obtain⟨r1,r2⟩:=Ll (D:=λj=>DN m.nm j\/j∈sh.cX) f o (λ i hi=>hdp i (c4 i hi));rw[hid]at r1 r2;exact⟨j,bF o,by simp[dc.st,c3],.inr b1,mT j b1,r1,r2⟩
theorem Ext.trans{ds:Nat->Prop}{a b c:dc X}(h:Ext ds a b)(h':Ext ds b c):Ext ds a c:=by
 refine⟨λ t ht=>?_,?_,Nat.le_trans h.nx h'.nx⟩
 ·rcases h'.env t ht with h1 |h1
  ·rcases h.env t ht with h2 |h2
   ·exact .inl (h1.trans h2)
   ·exact .inr (h1.trans h2)
  ·exact .inr h1
 ·obtain⟨d,h1,h2⟩:=h.obj;obtain⟨d',h3,h4⟩:=h'.obj;refine⟨d'++d,by rw[h3,h1,aK],λk hk hn=>?_⟩;simp only[aV,not_or]at hn;rcases h4 k (Nat.lt_of_lt_of_le hk h.nx) hn.1 with h5 |h5
  ·rcases h2 k hk hn.2 with h6 |h6
   ·exact .inl (h5.trans h6)
   ·exact .inr (h5.trans h6)
  ·exact .inr h5
theorem Ext.refl(ds:Nat->Prop)(s:dc X):Ext ds s s:=⟨λ _ _=> .inl rfl,⟨[],by simp,λ_ _ _=> .inl rfl⟩,aP _⟩
def Says(s s':dc X):Prop:=∀(P:Program) (w0:World) (O0:j0) (N:Nat) (β:Nat->Option cE) (I:Nat->Prop) (a:Act) (w:World),Rel P w0 O0 N β I s.st a w->∃ β',Rel P w0 O0 N β' I s'.st a w
theorem Low.room{s:dc X}{P:Program}{w0:World}{O0:j0}{N:Nat}{β:Nat->Option cE}{I:Nat->Prop}{a:Act}{w:World}(hl:Low s)(hr:Rel P w0 O0 N β I s.st a w):∃ β2,β2 s.nx=none/\Rel P w0 O0 N β2 I s.st a w:=by
 have hr1:=hr.restrict hl.old
 have hr2:=Rel.re (f:=id) (g:=λj=>if j<s.nx then j else 1000000) (D:=(· <s.nx)) (s':=s.st) (λ k hk=>aN hk) (λ j hj=>aN (by have:=hl.ge;omega)) hr1 (λ _=> .inl rfl) (λ _=>rfl)
  (λ q=> .inr ⟨λ k hk=>hl.env q k (by rw[<- iR];exact hk),by
   show k5 (eV id (den (eC s.env q))) (den (eC s.env q));rw[<- Cr,Xc (f:=id) _ (λ _ _=>rfl)];exact k5.refl _⟩)
  (λ j o' hj=>by
   simp only[dc.st,eO]at hj;obtain⟨x,hx,rfl⟩:=hj;have⟨h1,h2⟩:=hl.obj j x hx;have⟨r1,r2⟩:=Ll (D:=(· <s.nx)) id x h2;have hid:ox id x=x:=by
    cases x with
    |de c l=>rfl
    |map kc vc l=>rfl
    |cells sz rows=>
     simp only[ox];congr 1;have:∀q∈rows,LX id q=q:=λq _=>Ct (f:=id) q λ_ _=>rfl;rw[map_congr_left this];simp
   rw[hid]at r1 r2;exact⟨j,bF x,by simp[dc.st,hx],h1,rfl,r1,r2⟩)
 exact⟨_,by simp,hr2⟩
theorem alP(z:Bool)(k:Nat):bm (nz (X:=X) z k)=[k]:=by cases z<;>rfl
theorem Xe{ds:List Nat}{z:Bool}{s:dc X}{t:Nat}{c:CT X.ι}(hl:Low s)(ht:t∈ds):Low (xl z s t c)/\Ext (· ∈ds) s (xl z s t c)/\Says s (xl z s t c):=by
 unfold xl;split
 ·rename_i hn;split
  ·rename_i hlt;have he:∀q,eC ((t,nz z s.nx)::s.env) q=if t=q then nz z s.nx else eC s.env q:=λq=>by
    simp only[eC,lk];by_cases e:t=q<;>simp[e]
   have hO:∀q,fY ((s.nx,some (.de c []))::s.obj) q=if s.nx=q then some (.de c [])else fY s.obj q:=λq=>by
    simp only[fY,lk];by_cases e:s.nx=q<;>simp[e]
   refine⟨⟨by show s.nx+1<=1000000;omega,by have:=hl.ge;show 1000<=s.nx+1;omega,λq k hk=>?_,λk o ho=>?_⟩,⟨λ q hq=>?_,⟨[s.nx],rfl,λk hk hnk=>?_⟩,by show s.nx<=s.nx+1;omega⟩,λP w0 O0 N β I a w hr=>?_⟩
   ·rw[he]at hk;split at hk
    ·simp only[alP,aY]at hk;subst hk;show s.nx<s.nx+1;omega
    ·have:=hl.env q k hk;show k<s.nx+1;omega
   ·rw[hO]at ho;split at ho
    ·rename_i e;cases ho;subst e;exact⟨by show s.nx<s.nx+1;omega,by simp[dE]⟩
    ·have⟨h1,h2⟩:=hl.obj k o ho;exact⟨by show k<s.nx+1;omega,λj hj=>by have:=h2 j hj;show j<s.nx+1;omega⟩
   ·left;rw[he,aM];intro e;subst e;exact hq ht
   ·left;rw[hO,aM (by omega)]
   ·have⟨β2,CL,hr2⟩:=hl.room hr;have⟨hS,hM⟩:=Mem.pd (i:=s.nx) (o:=bF (.de c []:br X)) hr2.mem CL rfl;refine⟨ins β2 s.nx .none,hr2.defers,hr2.size,λq=>?_,?_⟩
    ·have h1:=hr2.env q;show eK P _ w I (den (eC ((t,nz z s.nx)::s.env) q)) none _;rw[he];by_cases e:t=q
     ·subst e;rw[aN rfl];have h2:VR P _ w I (den (eC s.env t)) (a.tmps.getD t undef):=h1;rw[hn]at h2;simp only[den,VR]at h2;cases z with
      |false=>simp only[eK,nz,ak,den,VR];exact .inl ⟨by simp[ins],h2,trivial,trivial⟩
      |true=>simp only[eK,nz,aj,den,VR];exact .inl ⟨trivial,h2⟩
     ·rw[aM e];exact eK.mono hS.ext hS.same hS.inc h1
    ·have e:(λ k=>(fY ((s.nx,some (.de c []))::s.obj) k).map bF)=bT s.st.obj [(s.nx,some (bF (.de c []:br X)))]:=by
      funext q;simp only[bT,dc.st];rw[hO];by_cases e:s.nx=q
      ·simp[e]
      ·rw[aM e,aM (Ne.symm e)]
     show Mem P w0 O0 _ I (λ k=>(fY ((s.nx,some (.de c []))::s.obj) k).map bF) w;rw[e];exact hM
  ·exact⟨hl,Ext.refl _ s,λ_ _ _ _ β _ _ _ h=>⟨β,h⟩⟩
 ·exact⟨hl,Ext.refl _ s,λ_ _ _ _ β _ _ _ h=>⟨β,h⟩⟩
theorem Xf(y:DV X):∀(l:List (DV X))(j i:Nat),i∈aS (l.set j y)->i∈aS l\/i∈bm y
 |[],_,_,h=> .inl (by simpa using h)
 |x::l,0,i,h=>by
  simp only[List.set,aS,aV]at h ⊢;rcases h with h |h
  ·exact .inr h
  ·exact .inl (.inr h)
 |x::l,j+1,i,h=>by
  simp only[List.set,aS,aV]at h ⊢;rcases h with h |h
  ·exact .inl (.inl h)
  ·rcases Xf y l j i h with h |h
   ·exact .inl (.inr h)
   ·exact .inr h
theorem bj.set{P:Program}{β:Nat->Option cE}{w:World}{I:Nat->Prop}{y:AV}:∀(xs:List AV)(vs:List Value)(j:Nat),(∀ x v,xs[j]? =some x->VR P β w I x v->VR P β w I y v)->bj P β w I xs vs->bj P β w I (xs.set j y) vs
 |[],vs,_,_,h=>by simpa using h
 |x::xs,[],_,_,h=>by simp[bj]at h
 |x::xs,v::vs,0,hy,h=>by simp only[bj,List.set]at h ⊢;exact⟨hy x v rfl h.1,h.2⟩
 |x::xs,v::vs,j+1,hy,h=>by simp only[bj,List.set]at h ⊢;exact⟨h.1,bj.set xs vs j (λ x v e=>hy x v (by simpa using e)) h.2⟩
theorem OR.set1{P:Program}{β:Nat->Option cE}{w:World}{I:Nat->Prop}{sz:Nat}{row:List AV}{j:Nat}{y:AV}{B:cE}(hy:∀x v,row[j]? =some x->VR P β w I x v->VR P β w I y v)(h:OR P β w I ⟨sz,[row]⟩ B):OR P β w I ⟨sz,[row.set j y]⟩ B:=by
 cases B with
 |none=>simp[OR]at h
 | «at» b s n=>
  obtain⟨h1,c,e,h2,h3,h4⟩:=h;refine⟨h1,c,e,h2,h3,?_⟩;simp only[bp,List.length_set]at h4 ⊢;refine⟨h4.1,?_,trivial⟩;rw[lG]at h4 ⊢;intro i x hx;rw[List.getElem?_set]at hx;split at hx
  ·rename_i e;subst e;split at hx
   ·cases hx;rename_i hlt;obtain⟨v,g1,g2,g3⟩:=h4.2.1 j _ (dG hlt);exact⟨v,g1,hy _ v (dG hlt) g2,g3⟩
   ·cases hx
  ·exact h4.2.1 i x hx
 |mp b=>
  obtain⟨es,cl,h1,hle,h2,h3⟩:=h;refine⟨es,cl,h1,hle,λe=>?_,h3⟩;have:=h2 e
  match hes:es.toList,this with
  |[e1],this=>simp only[cy]at this ⊢;exact⟨bj.set _ _ j hy this.1,trivial⟩
  |[],this=>simp[cy]at this
  |_::_::_,this=>simp[cy]at this
theorem adU(y:DV X):∀(l:List (DV X))(j:Nat),bJ (l.set j y)=(bJ l).set j (den y)
 |[],_=>by simp[bJ]
 |x::l,0=>by simp[bJ]
 |x::l,j+1=>by simp[bJ,adU y l j]
theorem af7{ds:List Nat}{s:dc X}{q j:Nat}{c:CT X.ι}(hl:Low s):Low (DG s q j c)/\Ext (· ∈ds) s (DG s q j c)/\Says s (DG s q j c):=by
 unfold DG;split
 ·rename_i sz row hq;split
  ·rename_i hn;split
   ·rename_i hlt;have hqn:q<s.nx:=(hl.obj q _ hq).1;have hrefs:∀k∈aS row,k<s.nx:=λk hk=>(hl.obj q _ hq).2 k (by simpa[dE]using hk);have hO:∀k,fY ((q,some (.cells sz [row.set j (.own s.nx 0 0)]))::(s.nx,some (.de c []))::s.obj) k=if q=k then some (.cells sz [row.set j (.own s.nx 0 0)])else if s.nx=k then some (.de c [])else fY s.obj k:=λk=>by
     simp only[fY,lk];by_cases e:q=k
     ·simp[e]
     ·by_cases e':s.nx=k<;>simp[e,e']
    refine⟨⟨by show s.nx+1<=1000000;omega,by have:=hl.ge;show 1000<=s.nx+1;omega,λk i hk=>by have:=hl.env k i hk;show i<s.nx+1;omega,λk o ho=>?_⟩,⟨λ _ _=> .inl rfl,⟨[q,s.nx],rfl,λk hk hnk=>?_⟩,by show s.nx<=s.nx+1;omega⟩,λP w0 O0 N β I a w hr=>?_⟩
    ·rw[hO]at ho;split at ho
     ·rename_i e;cases ho;subst e;refine⟨by show q<s.nx+1;omega,λi hi=>?_⟩;show i<s.nx+1;simp only[dE,aC,map_nil,flatten_cons,List.flatten_nil,append_nil]at hi;rcases Xf _ _ _ _ hi with h1 |h1
      ·have:=hrefs i h1;omega
      ·simp only[bm,aY]at h1;omega
     ·split at ho
      ·rename_i e;cases ho;subst e;exact⟨by show s.nx<s.nx+1;omega,by simp[dE]⟩
      ·have⟨h1,h2⟩:=hl.obj k o ho;exact⟨by show k<s.nx+1;omega,λi hi=>by have:=h2 i hi;show i<s.nx+1;omega⟩
    ·left;simp only[aO,jv,or_false,not_or]at hnk;rw[hO,aM (Ne.symm hnk.1),aM (Ne.symm hnk.2)]
    ·have⟨β2,CL,hr2⟩:=hl.room hr;have⟨hS,hM⟩:=Mem.pd (i:=s.nx) (o:=bF (.de c []:br X)) hr2.mem CL rfl;refine⟨ins β2 s.nx .none,hr2.defers,hr2.size,λk=>eK.mono hS.ext hS.same hS.inc (hr2.env k),?_⟩;refine hM.weak λk o' ho=>?_;simp only[dc.st]at ho;rw[hO]at ho;by_cases e:q=k
     ·subst e;rw[aN rfl,Option.map_some]at ho;cases ho;refine⟨bF (.cells sz [row]),by simp only[bT];rw[aM (by omega)];simp[dc.st,hq],λB _ hB=>?_⟩;simp only[bF,aC,map_nil,adU]at hB ⊢;refine OR.set1 (λ x v hx hv=>?_) hB;rw[og,List.getElem?_map,hn]at hx;cases hx;simp only[den,VR]at hv ⊢;exact .inl ⟨by simp[ins],hv,trivial,trivial⟩
     ·rw[aM e]at ho;refine⟨o',?_,λ_ _ h=>h⟩;simp only[bT];by_cases e':s.nx=k
      ·subst e';rw[aN rfl]at ho ⊢;simpa using ho
      ·rw[aM e']at ho;rw[aM (Ne.symm e')];exact ho
   ·exact⟨hl,Ext.refl _ s,λ_ _ _ _ β _ _ _ h=>⟨β,h⟩⟩
  ·exact⟨hl,Ext.refl _ s,λ_ _ _ _ β _ _ _ h=>⟨β,h⟩⟩
 ·exact⟨hl,Ext.refl _ s,λ_ _ _ _ β _ _ _ h=>⟨β,h⟩⟩
theorem OJ{ds:List Nat}:∀(l:List (Nat×CT X.ι)){s:dc X},Low s->(∀ p∈l,(bif Nat.ble 1000000 p.1 then !Nat.ble 1099511627776 p.1 || ds.contains (p.1 -1099511627776)else ds.contains p.1)=true)->Low (Q6 l s)/\Ext (· ∈ds) s (Q6 l s)/\Says s (Q6 l s)
 |[],s,hl,_=>⟨hl,Ext.refl _ s,λ_ _ _ _ β _ _ _ h=>⟨β,h⟩⟩
 |(t,c)::r,s,hl,hd=>by
  generalize hs:(bif Nat.ble 1000000 t then bif Nat.ble 1099511627776 t then xl true s (t -1099511627776) c else DG s ((t -1000000)/4096) ((t -1000000)%4096) c else xl false s t c)=s1;have h0:Low s1/\Ext (· ∈ds) s s1/\Says s s1:=by
   have hd0:=hd (t,c) (by simp);simp only at hd0;subst hs;cases hb:Nat.ble 1000000 t with
   |true=>
    rw[hb]at hd0;cases hb2:Nat.ble 1099511627776 t with
    |true=>rw[hb2]at hd0;exact Xe hl (by simpa using hd0)
    |false=>exact af7 hl
   |false=>rw[hb]at hd0;exact Xe hl (by simpa using hd0)
  obtain⟨h1,h2,h3⟩:=h0;simp only[Q6,hs];obtain⟨g1,g2,g3⟩:=OJ r h1 (λ p hp=>hd p (by simp[hp]));refine⟨g1,h2.trans g2,λP w0 O0 N β I a w hr=>?_⟩;have⟨β',hr'⟩:=h3 P w0 O0 N β I a w hr;exact g3 P w0 O0 N β' I a w hr'
theorem lN{A:Type}{sh:Sh X.ι}{ds:List Nat}{s0 s':dc X}{k:VT (X:=X) sh.vars->Option A}{r:A}(hl0:Low s0)(hl':Low s')(hx:Ext (· ∈ds) s0 s')(h:qI sh ds s0 s' k=some r):
 ∃v,k v=some r/\Low (encS sh s0 v)/\Ext (· ∈ds) s0 (encS sh s0 v)/\Says s' (encS sh s0 v):=by
 unfold qI at h;have⟨h1,h2⟩:=dx h;obtain⟨g1,g2,g3⟩:=OJ (ds:=ds) sh.yi hl' (λ p hp=>all_eq_true.1 h1 p hp);have⟨v,i1,i2,i3,i4⟩:=abX hl0 (hx.trans g2) h2;refine⟨v,i1,i2,i3,λP w0 O0 N β I a w hr=>?_⟩;have⟨β',hr'⟩:=g3 P w0 O0 N β I a w hr;exact i4 P w0 O0 N β' I a w hr'
end
def gG:Code->List Nat
 | .region _ am _=>am.toList.filterMap (·.dst)
 | .seq a b=>gG a++gG b
 | .cond _ a b=>gG a++gG b
 | .block _ b=>gG b
 | .loop b=>gG b
 |_=>[]
section
variable {X:SX}
section
variable {P:Program} {N:Nat}
def MO{A:Type}(ds:List Nat)(s:dc X)(k:Exit->dc X->Option A)(r:A)(e:Exit)(σ:St):Prop:=∃s',Low s'/\Ext (· ∈ds) s s'/\σ=s'.st/\k e s'=some r
theorem ahJ{c:Code}{Q Q':Exit->St->Prop}{σ:St}(h:Ev P N c Q σ)(ht:∀e σ,Q e σ->∀w0 O0 β I a w,Rel P w0 O0 N β I σ a w->∃ β' σ',Rel P w0 O0 N β' I σ' a w/\sq σ'/\Q' e σ'):Ev P N c Q' σ:=by
 intro w0 O0 β I a w hr ho;refine wp_mono (h w0 O0 β I a w hr ho) ?_;rintro e a' w' ⟨β',I',σ',h1,_,h3⟩;have⟨β2,σ2,g1,g2,g3⟩:=ht e σ' h3 w0 O0 β' I' a' w' h1;exact⟨β2,I',σ2,g1,g2,g3⟩
end
end
inductive Hn(ι:Type) where
 |z
 |f (l:List Nat)
 |s (a b:Hn ι)
 |b (a:Hn ι)
 |j (sh:Sh ι) (a:Hn ι)
 |jx (sh:Sh ι) (a:Hn ι)
 |l (head:Sh ι) (id:Nat) (ab:Sh ι) (a:Hn ι)
 |lx (head:Sh ι) (id:Nat) (ab:Sh ι) (a:Hn ι)
 |rg (head:Sh ι) (a:Hn ι)
 |un (a r:Hn ι)
def Hn.fz{ι:Type}:Hn ι->List Nat
 | .f is=>is
 |_=>[]
def Hn.fst{ι:Type}:Hn ι->Hn ι
 | .s a _=>a
 |_=> .z
def Hn.snd{ι:Type}:Hn ι->Hn ι
 | .s _ y=>y
 |_=> .z
def Hn.sub{ι:Type}:Hn ι->Hn ι
 | .b a=>a
 |_=> .z
def iter{V O:Type}(step:V->Option (V⊕O)):Nat->V->Option O
 | 0,_=>none
 |n+1,v=>(step v).bind λr=>match r with
  | .inl v=>iter step n v
  | .inr o=>some o
def Is{X:SX}{A:Type}(body:Hn X.ι->dc X->(Exit->dc X->Option A)->Option A):Hn X.ι->dc X->(Exit->dc X->Option A)->Option A
 | .un a r,s,k=>body a s λe s'=>match e with
  | .normal=>Is body r s' k
  |e=>k e s'
 |_,_,_=>none
def dm{W A:Type}(o:Option (W⊕A))(f:W->Option A):Option A:=o.bind λr=>match r with
 | .inl w=>f w
 | .inr a=>some a
noncomputable def both{A:Type}(x y:Option A):Option A:=open Classical in if x=y then x else none
theorem aiH{A:Type}{x y:Option A}{r:A}(h:both x y=some r):x=some r/\y=some r:=by
 unfold both at h;split at h
 ·rename_i e;exact⟨h,e ▸ h⟩
 ·cases h
theorem aiI{A:Type}(x:Option A):both x x=x:=by simp[both]
section
variable {X:SX}
def Ek(ds:List Nat)(s:dc X)(h:Hn X.ι){A:Type}(k:Exit->dc X->Option A)(body:(B:Type)->Hn X.ι->(Exit->dc X->Option B)->Option B):Option A:=
 match h with
 | .j sh h'=>(body (VT (X:=X) sh.vars) h' λe s'=>match e with
  | .normal=>qI sh ds s s' some
  |_=>none).bind λv=>k .normal (encS sh s v)
 | .jx sh h'=>dm (body (VT (X:=X) sh.vars⊕A) h' λe s'=>match e with
  | .normal=>qI sh ds s s' λv=>some (.inl v)
  |e=>(k e s').map .inr) λv=>k .normal (encS sh s v)
 |h=>body A h k
variable (Γ:FuncId->Option (bz X)) (T:dC) (ao:TypeId->Option (CT X.ι)) (N n:Nat)
noncomputable def run:Code->(A:Type)->Hn X.ι->dc X->(Exit->dc X->Option A)->Option A
 | .skip,_,_,s,k=>k .normal s
 | .region id am d,A,h,s,k=>Ek (gG (.region id am d)) s h k λ_ h k=>VV Γ h.fz T ao N am d s (k .normal)
 | .seq x y,A,h,s,k=>Ek (gG (.seq x y)) s h k λB h k=>run x B h.fst s λe s'=>match e with
  | .normal=>run y B h.snd s' k
  |e=>k e s'
 | .cond c x y,A,h,s,k=>Ek (gG (.cond c x y)) s h k λB h k=>match Zh (eC s.env) c with
  | .c .bool v=>bif v then run x B h.fst s k else run y B h.snd s k
  | .ub=>both (run x B h.fst s k) (run y B h.snd s k)
  |_=>none
 | .block id b,A,h,s,k=>Ek (gG (.block id b)) s h k λB h k=>run b B h.sub s λe s'=>match e with
  | .exit j=>if j=id then k .normal s' else k (.exit j) s'
  |e=>k e s'
 | .loop b,A,h,s,k=>match h with
  | .l hd id ab h'=>qI hd (gG b) s s λv0=>(iter (λ v=>run b (VT (X:=X) hd.vars⊕VT (X:=X) ab.vars) h' (encS hd s v) λe s'=>match e with
   | .normal=>qI hd (gG b) s s' λv=>some (.inl v)
   | .exit j=>if j=id then qI ab (gG b) s s' λw=>some (.inr w)else none
   |_=>none) n v0).bind λw=>k (.exit id) (encS ab s w)
  | .lx hd id ab h'=>qI hd (gG b) s s λv0=>dm (iter (λ v=>run b (VT (X:=X) hd.vars⊕(VT (X:=X) ab.vars⊕A)) h' (encS hd s v) λe s'=>match e with
   | .normal=>qI hd (gG b) s s' λv=>some (.inl v)
   | .exit j=>if j=id then qI ab (gG b) s s' λw=>some (.inr (.inl w))else(k (.exit j) s').map λa=> .inr (.inr a)
   |e=>(k e s').map λa=> .inr (.inr a)) n v0) λw=>k (.exit id) (encS ab s w)
  | .un a r=>Is (λ h s k=>run b A h s k) (.un a r) s k
  |_=>none
 | .exit id,_,_,s,k=>k (.exit id) s
 | .ret,_,_,s,k=>k .ret s
 | .label _,_,_,s,k=>k .normal s
 |_,_,_,_,_=>none
section
variable {Γ:FuncId->Option (bz X)} {T:dC} {ao:TypeId->Option (CT X.ι)} {N n:Nat} {P:Program}
theorem Ext.wide{ds ds':Nat->Prop}{a b:dc X}(h:Ext ds a b)(hd:∀t,ds t->ds' t):Ext ds' a b:=⟨λ t ht=>h.env t λhh=>ht (hd t hh),h.obj,h.nx⟩
theorem map_inr{α β:Type}{o:Option β}{r:α⊕β}(h:o.map Sum.inr=some r):∃b,o=some b/\r= .inr b:=by
 cases o with
 |none=>cases h
 |some b=>injection h with h;exact⟨b,rfl,h.symm⟩
theorem Gz{c:Code}{s:dc X}{h:Hn X.ι}{A:Type}{k:Exit->dc X->Option A}{r:A}{body:(B:Type)->Hn X.ι->(Exit->dc X->Option B)->Option B}(hl:Low s)
 (hb:∀(B:Type)(h:Hn X.ι)(k:Exit->dc X->Option B)(r:B),body B h k=some r->Ev P N c (MO (gG c) s k r) s.st) (hr:Ek (gG c) s h k body=some r):Ev P N c (MO (gG c) s k r) s.st:=by
 unfold Ek at hr;split at hr
 ·rename_i sh h';rw[ai]at hr;obtain⟨v,h1,hr⟩:=hr;refine ahJ (hb _ _ _ _ h1) ?_;rintro e σ ⟨s',g1,g2,rfl,g4⟩ w0 O0 β I a w hrel;cases e<;>simp only[reduceCtorEq]at g4;have⟨v',i1,i2,i3,i4⟩:=lN hl g1 g2 g4;cases i1;have⟨β',i5⟩:=i4 P w0 O0 N β I a w hrel;exact⟨β',_,i5,i2.old,_,i2,i3,rfl,hr⟩
 ·rename_i sh h';unfold dm at hr;have⟨v,h1,hr⟩:=ai.1 hr;refine ahJ (hb _ _ _ _ h1) ?_;rintro e σ ⟨s',g1,g2,rfl,g4⟩ w0 O0 β I a w hrel;have other:(k e s').map Sum.inr=some v->∃ β' σ',Rel P w0 O0 N β' I σ' a w/\sq σ'/\MO (gG c) s k r e σ':=by
   intro hm;obtain⟨b,hk,rfl⟩:=map_inr hm;cases hr;exact⟨β,_,hrel,g1.old,s',g1,g2,rfl,hk⟩
  cases e with
  |normal=>
   simp only at g4;have⟨v',i1,i2,i3,i4⟩:=lN hl g1 g2 g4;cases i1;have⟨β',i5⟩:=i4 P w0 O0 N β I a w hrel;exact⟨β',_,i5,i2.old,_,i2,i3,rfl,hr⟩
  |_=>exact other g4
 ·exact hb _ _ _ _ hr
theorem aiJ{id:Nat}{am:Array Oper}{d:Bool}{t:Nat}(h:Te am t):t∈gG (.region id am d):=by
 obtain⟨j,op,h1,h2⟩:=h;simp only[gG,List.mem_filterMap];exact⟨op,by rw[<- Array.getElem?_toList]at h1;exact bZ h1,h2⟩
theorem Xg{b:Code}{s:dc X}{hd:Sh X.ι}{O:Type}{step:VT (X:=X) hd.vars->Option (VT (X:=X) hd.vars⊕O)}{kb:Exit->dc X->Option (VT (X:=X) hd.vars⊕O)}{Q:Exit->St->Prop}(hl:Low s)
 (hkn:∀s',kb .normal s'=qI hd (gG b) s s' λv=>some (.inl v))
 (hstep:∀v r,Low (encS hd s v)->step v=some r->Ev P N b (MO (gG b) (encS hd s v) kb r) (encS hd s v).st)
 {o:O} (hQ:∀e s',e≠ .normal->Low s'->Ext (· ∈gG b) s s'->kb e s'=some (.inr o)->∀w0 O0 β I a w,Rel P w0 O0 N β I s'.st a w->∃ β' σ',Rel P w0 O0 N β' I σ' a w/\sq σ'/\Q e σ')
 (hno:∀e s' v,e≠ .normal->kb e s'=some (.inl v)->False) (n:Nat) (v0:VT (X:=X) hd.vars) (h:iter step n v0=some o) (hl0:Low (encS hd s v0)) (hx0:Ext (· ∈gG b) s (encS hd s v0)):Ev P N (.loop b) Q (encS hd s v0).st:=by
 intro w0 O0 β I a w hr ho;refine aak (λ n a w=>∃ β I v,Rel P w0 O0 N β I (encS hd s v).st a w/\iter step n v=some o/\Low (encS hd s v)/\Ext (· ∈gG b) s (encS hd s v)) (λ a w ⟨_,_,v,_,h,_⟩=>by cases h) ?_ n a w ⟨β,I,v0,hr,h,hl0,hx0⟩;rintro n a w ⟨β,I,v,hr,hi,hlv,hxv⟩;simp only[iter]at hi;have⟨r,h1,hi⟩:=ai.1 hi;refine wp_mono (hstep v r hlv h1 w0 O0 β I a w hr hlv.old) ?_;rintro e a' w' ⟨β',I',σ',g1,_,s',g2,g3,rfl,g4⟩;have hxs:=hxv.trans g3;by_cases he:e= .normal
 ·subst he;rw[hkn]at g4;have⟨v',i1,i2,i3,i4⟩:=lN hl g2 hxs g4;cases i1;have⟨β2,i5⟩:=i4 P w0 O0 N β' I' a' w' g1;exact⟨β2,I',v',i5,hi,i2,i3⟩
 ·cases r with
  |inl v'=>exact(hno e s' v' he g4).elim
  |inr o'=>
   cases hi;have⟨β2,σ2,i1,i2,i3⟩:=hQ e s' he g2 hxs g4 w0 O0 β' I' a' w' g1;cases e with
   |normal=>exact(he rfl).elim
   |_=>exact⟨β2,I',σ2,i1,i2,i3⟩
theorem Xh{A:Type}{sh:Sh X.ι}{ds:List Nat}{s0 s':dc X}{k:VT (X:=X) sh.vars->Option A}{r:A}(h:qI sh ds s0 s' k=some r):∃v,k v=some r:=by
 unfold qI at h;have⟨_,h⟩:=dx h;unfold Mp at h;have⟨m1,h1,h⟩:=ai.1 h;have⟨m,h2,h⟩:=ai.1 h;have⟨h3,h⟩:=dx h;have⟨v,h4,h⟩:=ai.1 h;exact⟨v,(pW h).2⟩
theorem adV{α β γ:Type}{o:Option γ}{r:α⊕(β⊕γ)}(h:o.map (λ a=>Sum.inr (Sum.inr a))=some r):∃b,o=some b/\r= .inr (.inr b):=by
 cases o with
 |none=>cases h
 |some b=>injection h with h;exact⟨b,rfl,h.symm⟩
def Hn.len{ι:Type}:Hn ι->Nat
 | .un _ r=>r.len+1
 |_=>0
theorem aiK{b:Code}{A:Type}{body:Hn X.ι->dc X->(Exit->dc X->Option A)->Option A}{s0:dc X}{k:Exit->dc X->Option A}{r:A}
 (hb:∀(h:Hn X.ι)(s:dc X)(k:Exit->dc X->Option A)(r:A),Low s->body h s k=some r->Ev P N b (MO (gG b) s k r) s.st)
 {h:Hn X.ι} (hl:Low s0) (hr:Is body h s0 k=some r):Ev P N (.loop b) (MO (gG (.loop b)) s0 k r) s0.st:=by
 refine alz (λ n σ=>∃(h:Hn X.ι)(s:dc X),σ=s.st/\h.len=n/\Low s/\Ext (· ∈gG b) s0 s/\Is body h s k=some r) ?_ ?_ h.len ⟨h,s0,rfl,rfl,hl,Ext.refl _ s0,hr⟩
 ·rintro σ ⟨h,s,_,h1,_,_,h2⟩;cases h<;>first |cases h2 |cases h1
 ·rintro n σ ⟨h,s,rfl,h1,h2,h3,h4⟩;cases h<;>try cases h4
  rename_i a q;simp only[Hn.len,Nat.add_right_cancel_iff]at h1;refine(hb a s _ r h2 h4).mono ?_;rintro e σ ⟨s',g1,g2,rfl,g4⟩;have hx:=h3.trans g2;cases e with
  |normal=>exact⟨q,s',rfl,h1,g1,hx,g4⟩
  |_=>exact⟨s',g1,hx,rfl,g4⟩
theorem kW(hT:eY P T)(hm:P.follows .mixedOrders=true)(hΓ:ry P Γ):∀(c:Code)(A:Type)(h:Hn X.ι)(s:dc X)(k:Exit->dc X->Option A)(r:A),Low s->run Γ T ao N n c A h s k=some r->Ev P N c (MO (gG c) s k r) s.st
 | .skip,A,h,s,k,r,hl,hr=>alv ⟨s,hl,Ext.refl _ s,rfl,hr⟩
 | .exit id,A,h,s,k,r,hl,hr=>alx ⟨s,hl,Ext.refl _ s,rfl,hr⟩
 | .ret,A,h,s,k,r,hl,hr=>amO ⟨s,hl,Ext.refl _ s,rfl,hr⟩
 | .label l,A,h,s,k,r,hl,hr=>ajP ⟨s,hl,Ext.refl _ s,rfl,hr⟩
 | .region id am d,A,h,s,k,r,hl,hr=>by
  refine Gz hl (λ B h k r hb=>?_) hr;have⟨s',g1,g2,g3,g4⟩:=abV (id:=id) hT hm hΓ hl hb;exact g4.mono λe σ ⟨he,hσ⟩=>⟨s',g2,g3.wide λt ht=>aiJ ht,hσ,by rw[he];exact g1⟩
 | .seq x y,A,h,s,k,r,hl,hr=>by
  refine Gz hl (λ B h k r hb=>?_) hr;refine amP ((kW hT hm hΓ x B _ s _ r hl hb).mono ?_);rintro e σ ⟨s',g1,g2,rfl,g4⟩;have wide:Ext (· ∈gG (.seq x y)) s s':=g2.wide λt ht=>by simp[gG,ht]
  cases e with
  |normal=>
   exact(kW hT hm hΓ y B _ s' k r g1 g4).mono λe σ ⟨s2,i1,i2,i3,i4⟩=>⟨s2,i1,wide.trans (i2.wide λt ht=>by simp[gG,ht]),i3,i4⟩
  |_=>exact⟨s',g1,wide,rfl,g4⟩
 | .cond c x y,A,h,s,k,r,hl,hr=>by
  refine Gz hl (λ B h k r hb=>?_) hr;split at hb
  ·rename_i v hv;refine aly v (λ _ _=>rfl) ?_ ?_
   ·have:=Wo (eC s.env) c;rw[hv]at this;exact this.symm
   ·cases v with
    |true=>exact(kW hT hm hΓ x B _ s k r hl hb).mono λe σ ⟨s2,i1,i2,i3,i4⟩=>⟨s2,i1,i2.wide λt ht=>by simp[gG,ht],i3,i4⟩
    |false=>exact(kW hT hm hΓ y B _ s k r hl hb).mono λe σ ⟨s2,i1,i2,i3,i4⟩=>⟨s2,i1,i2.wide λt ht=>by simp[gG,ht],i3,i4⟩
  ·rename_i hv;have⟨hb1,hb2⟩:=aiH hb;refine afD (λ _ _=>rfl) ?_ ?_ ?_
   ·have:=Wo (eC s.env) c;rw[hv]at this;exact this.symm
   ·exact(kW hT hm hΓ x B _ s k r hl hb1).mono λe σ ⟨s2,i1,i2,i3,i4⟩=>⟨s2,i1,i2.wide λt ht=>by simp[gG,ht],i3,i4⟩
   ·exact(kW hT hm hΓ y B _ s k r hl hb2).mono λe σ ⟨s2,i1,i2,i3,i4⟩=>⟨s2,i1,i2.wide λt ht=>by simp[gG,ht],i3,i4⟩
  ·cases hb
 | .block id b,A,h,s,k,r,hl,hr=>by
  refine Gz hl (λ B h k r hb=>?_) hr;refine ajQ ((kW hT hm hΓ b B _ s _ r hl hb).mono ?_);rintro e σ ⟨s',g1,g2,rfl,g4⟩;cases e with
  |exit j=>
   simp only[VC];simp only at g4;split
   ·rw[aN ‹_›]at g4;exact⟨s',g1,g2,rfl,g4⟩
   ·rw[aM ‹_›]at g4;exact⟨s',g1,g2,rfl,g4⟩
  |_=>exact⟨s',g1,g2,rfl,g4⟩
 | .loop b,A,h,s,k,r,hl,hr=>by
  simp only[run]at hr;split at hr
  ·rename_i hd id ab h';obtain⟨v0,h1,h2,h3,h4⟩:=lN hl hl (Ext.refl _ s) hr;rw[ai]at h1;obtain⟨w,h5,h6⟩:=h1;intro w0 O0 β I a ww hrel ho;have⟨β',hrel'⟩:=h4 P w0 O0 N β I a ww hrel;refine Xg (Q:=MO (gG (.loop b)) s k r) hl (λ s'=>rfl) (λ v r hlv hs=>kW hT hm hΓ b _ h' (encS hd s v) _ r hlv hs) (λ e s' he hls hxs hk=>?_) (λ e s' v he hk=>?_) n v0 h5 h2 h3 w0 O0 β' I a ww hrel' h2.old
   ·cases e with
    |exit j=>
     simp only at hk;split at hk
     ·rename_i hj;subst hj;have⟨w',i1,i2,i3,i4⟩:=lN hl hls hxs hk;injection i1 with i1;cases i1;intro w0 O0 β I a ww hrel;have⟨β',hrel'⟩:=i4 P w0 O0 N β I a ww hrel;exact⟨β',_,hrel',i2.old,_,i2,i3,rfl,h6⟩
     ·cases hk
    |normal=>exact(he rfl).elim
    |_=>cases hk
   ·cases e with
    |exit j=>
     simp only at hk;split at hk
     ·have⟨w',i1⟩:=Xh hk;injection i1 with i1;cases i1
     ·cases hk
    |normal=>exact he rfl
    |_=>cases hk
  ·rename_i hd id ab h';obtain⟨v0,h1,h2,h3,h4⟩:=lN hl hl (Ext.refl _ s) hr;unfold dm at h1;rw[ai]at h1;obtain⟨w,h5,h6⟩:=h1;intro w0 O0 β I a ww hrel ho;have⟨β',hrel'⟩:=h4 P w0 O0 N β I a ww hrel;refine Xg (Q:=MO (gG (.loop b)) s k r) hl (λ s'=>rfl) (λ v r hlv hs=>kW hT hm hΓ b _ h' (encS hd s v) _ r hlv hs) (λ e s' he hls hxs hk=>?_) (λ e s' v he hk=>?_) n v0 h5 h2 h3 w0 O0 β' I a ww hrel' h2.old
   ·intro w0 O0 β I a ww hrel;have other:(k e s').map (λ a=>Sum.inr (Sum.inr a))=some (Sum.inr w:VT (X:=X) hd.vars⊕(VT (X:=X) ab.vars⊕A))->∃ β' σ',Rel P w0 O0 N β' I σ' a ww/\sq σ'/\MO (gG (.loop b)) s k r e σ':=by
     intro hm;have⟨q,hq,hr⟩:=adV hm;cases hr;cases h6;exact⟨β,_,hrel,hls.old,s',hls,hxs,rfl,hq⟩
    cases e with
    |exit j=>
     simp only at hk;split at hk
     ·rename_i hj;subst hj;have⟨w',i1,i2,i3,i4⟩:=lN hl hls hxs hk;injection i1 with i1;cases i1;have⟨β',hrel'⟩:=i4 P w0 O0 N β I a ww hrel;exact⟨β',_,hrel',i2.old,_,i2,i3,rfl,h6⟩
     ·exact other hk
    |normal=>exact(he rfl).elim
    |_=>exact other hk
   ·have other:(k e s').map (λ a=>Sum.inr (Sum.inr a))=some (Sum.inl v:VT (X:=X) hd.vars⊕(VT (X:=X) ab.vars⊕A))->False:=by
     intro hm;have⟨q,hq,hr⟩:=adV hm;cases hr
    cases e with
    |exit j=>
     simp only at hk;split at hk
     ·have⟨w',i1⟩:=Xh hk;injection i1 with i1;cases i1
     ·exact other hk
    |normal=>exact he rfl
    |_=>exact other hk
  ·exact aiK (body:=λh s k=>run Γ T ao N n b A h s k) (λ h s k r hl h1=>kW hT hm hΓ b A h s k r hl h1) hl hr
  ·cases hr
 | .rangeFunc ..,_,_,_,_,_,_,hr=>by cases hr
 | .scope _,_,_,_,_,_,_,hr=>by cases hr
 | .goto _,_,_,_,_,_,_,hr=>by cases hr
 | .refuse _,_,_,_,_,_,_,hr=>by cases hr
end
end
section
variable {X:SX}
def jF:Nat->(l:List (AT X.ι))->jc X l->List (DV X)
 |_,[],_=>[]
 |n,.d c::l,a=> .c c a.1::jF n l a.2
 |n,.ref c::l,a=> .rp c a.1 0::jF n l a.2
 |n,.cV as r::l,a=> .cV as r a.1::jF n l a.2
 |n,.mut _::l,a=> .own n 0 (List.length a.1)::jF (n+1) l a.2
 |n,.fm _::l,a=> .ptr n 0 0::jF (n+1) l a.2
 |n,.nil::l,a=> .nil::jF n l a.2
def Dq:(l:List (AT X.ι))->jc X l->List (br X)
 |[],_=>[]
 | .mut c::l,a=> .de c a.1::Dq l a.2
 | .fm c::l,a=> .cells (CT.sz X c) [vL c a.1]::Dq l a.2
 | .d _::l,a=>Dq l a.2
 | .ref _::l,a=>Dq l a.2
 | .cV _ _::l,a=>Dq l a.2
 | .nil::l,a=>Dq l a.2
theorem sW:∀(n:Nat)(l:List (AT X.ι))(a:jc X l),bJ (jF n l a)=dN n l a
 |_,[],_=>rfl
 |n,.d c::l,a=>by simp only[jF,bJ,den,dN,sW n l a.2]
 |n,.ref c::l,a=>by simp only[jF,bJ,den,dN,sW n l a.2]
 |n,.cV as r::l,a=>by simp only[jF,bJ,dN,sW n l a.2]
 |n,.mut c::l,a=>by simp only[jF,bJ,den,dN,sW (n+1) l a.2]
 |n,.fm c::l,a=>by simp only[jF,bJ,den,dN,sW (n+1) l a.2]
 |n,.nil::l,a=>by simp only[jF,bJ,den,dN,sW n l a.2]
theorem xh:∀(l:List (AT X.ι))(a:jc X l),(Dq l a).map bF=(qF l a).map hZ
 |[],_=>rfl
 | .d _::l,a=>xh l a.2
 | .ref _::l,a=>xh l a.2
 | .cV _ _::l,a=>xh l a.2
 | .nil::l,a=>xh l a.2
 | .mut c::l,a=>by simp only[Dq,qF,aC,xh l a.2];rfl
 | .fm c::l,a=>by simp only[Dq,qF,aC,xh l a.2,bF,hZ,sD,aL,map_nil,nM]
theorem pE:∀(n:Nat)(l:List (AT X.ι))(a:jc X l),∀k∈aS (jF n l a),k<n+qH l
 |_,[],_,k,hk=>by simp[jF,aS]at hk
 |n,.d c::l,a,k,hk=>by
  have:=pE n l a.2 k (by simpa[jF,aS,bm]using hk);simpa[qH,AT.im]using this
 |n,.ref c::l,a,k,hk=>by
  have:=pE n l a.2 k (by simpa[jF,aS,bm]using hk);simpa[qH,AT.im]using this
 |n,.cV as r::l,a,k,hk=>by
  have:=pE n l a.2 k (by simpa[jF,aS,bm]using hk);simpa[qH,AT.im]using this
 |n,.nil::l,a,k,hk=>by
  have:=pE n l a.2 k (by simpa[jF,aS,bm]using hk);simpa[qH,AT.im]using this
 |n,.mut c::l,a,k,hk=>by
  simp only[jF,aS,bm,List.singleton_append,aO]at hk;simp only[qH,AT.im,if_true];rcases hk with rfl |hk
  ·omega
  ·have:=pE (n+1) l a.2 k hk;omega
 |n,.fm c::l,a,k,hk=>by
  simp only[jF,aS,bm,List.singleton_append,aO]at hk;simp only[qH,AT.im,if_true];rcases hk with rfl |hk
  ·omega
  ·have:=pE (n+1) l a.2 k hk;omega
theorem lQ:∀(n:Nat)(l:List (AT X.ι))(a:jc X l),(dN n l a).length=l.length
 |_,[],_=>rfl
 |n,.d c::l,a=>by simp only[dN,bE,lQ n l a.2]
 |n,.ref c::l,a=>by simp only[dN,bE,lQ n l a.2]
 |n,.cV as r::l,a=>by simp only[dN,bE,lQ n l a.2]
 |n,.mut c::l,a=>by simp only[dN,bE,lQ (n+1) l a.2]
 |n,.fm c::l,a=>by simp only[dN,bE,lQ (n+1) l a.2]
 |n,.nil::l,a=>by simp only[dN,bE,lQ n l a.2]
theorem lT:∀(l:List (AT X.ι))(a:jc X l),(qF l a).length=qH l
 |[],_=>rfl
 | .d _::l,a=>by simpa[qH,AT.im,qF]using lT l a.2
 | .ref _::l,a=>by simpa[qH,AT.im,qF]using lT l a.2
 | .cV _ _::l,a=>by simpa[qH,AT.im,qF]using lT l a.2
 | .nil::l,a=>by simpa[qH,AT.im,qF]using lT l a.2
 | .mut _::l,a=>by simp only[qF,bE,lT l a.2,qH,AT.im,if_true];omega
 | .fm _::l,a=>by simp only[qF,bE,lT l a.2,qH,AT.im,if_true];omega
def vf(l:List (AT X.ι))(a:jc X l):dc X:=⟨(List.range l.length).zip (jF 0 l a),(List.range (Dq l a).length).zip ((Dq l a).map some),1000,[]⟩
theorem ahK(l:List (AT X.ι))(a:jc X l)(k:Nat):fY (vf l a).obj k=(Dq l a)[k]? :=by
 have h:(List.range (Dq l a).length).zip ((Dq l a).map some)=(List.range ((Dq l a).map some).length).zip ((Dq l a).map some):=by rw[length_map]
 simp only[vf,fY];rw[h,Dj,List.getElem?_map];cases (Dq l a)[k]?<;>rfl
theorem am4(l:List (AT X.ι))(a:jc X l):(vf l a).st=qS.st ⟨(List.range (Ah l a).length).zip (Ah l a),(List.range ((qF l a).map hZ).length).zip ((qF l a).map hZ)⟩:=by
 have ho:∀k,((fY (vf l a).obj k).map bF)=lk ((List.range ((qF l a).map hZ).length).zip ((qF l a).map hZ)) k:=by
  intro k;rw[Dj,ahK,<- xh,List.getElem?_map]
 simp only[dc.st,qS.st,St.mk.injEq,and_true];refine⟨?_,funext ho⟩;funext t;simp only[vf];rw[lQ,Ah,<- sW];generalize jF 0 l a=ds;have:∀(ks:List Nat)(ds:List (DV X)),den (eC (ks.zip ds) t)=(lk (ks.zip (bJ ds)) t).getD .undef:=by
  intro ks
  induction ks with
  |nil=>intro ds;rfl
  |cons k ks ih=>
   intro ds;cases ds with
   |nil=>rfl
   |cons d ds=>
    simp only[List.zip_cons_cons,eC,lk,bJ];by_cases h:k=t
    ·simp[h]
    ·simp only[aM h];exact ih ds
 exact this _ _
theorem alQ(l:List (AT X.ι))(a:jc X l)(hm:qH l<=1000):Low (vf l a):=by
 refine⟨by show 1000<=1000000;decide,aP _,λt k hk=>?_,λk o ho=>?_⟩
 ·have h0:=pE 0 l a;simp only[vf]at hk;generalize jF 0 l a=ds at hk h0;have:∀(ks:List Nat)(ds:List (DV X)),(∀ k∈aS ds,k<0+qH l)->∀k∈bm (eC (ks.zip ds) t),k<1000:=by
   intro ks
   induction ks with
   |nil=>intro ds _ k hk;simp[eC,lk,bm]at hk
   |cons k ks ih=>
    intro ds h j hj;cases ds with
    |nil=>simp[eC,lk,bm]at hj
    |cons d ds=>
     simp only[List.zip_cons_cons,eC,lk]at hj;by_cases e:k=t
     ·simp only[aN e,Option.getD_some]at hj;have:=h j (by simp[aS,hj]);omega
     ·simp only[aM e]at hj;exact ih ds (λ k hk=>h k (by simp[aS,hk])) j hj
  exact this _ _ h0 k hk
 ·rw[ahK]at ho;have hl:(Dq l a).length=qH l:=by rw[<- lT l a];simpa using congrArg List.length (xh l a)
  refine⟨by have:=(cO.1 ho).1;show k<1000;omega,λj hj=>?_⟩;have hz:∀(l:List (AT X.ι))(a:jc X l),∀o∈Dq l a,dE o=[]:=by
   intro l
   induction l with
   |nil=>intro a o ho;simp[Dq]at ho
   |cons q l ih=>
    intro a o ho;cases q<;>simp only[Dq,aO]at ho
    case «mut» c=>rcases ho with rfl |ho;rfl;exact ih _ o ho
    case fm c=>
     rcases ho with rfl |ho
     ·have h1:aS (vL c a.1)=[]:=by
       rw[<- iq,nM];generalize CT.row X.toSE c a.1=r
       induction r with
       |nil=>rfl
       |cons y ys ih=>simp only[aC,eD,refs,ih,bO]
      simp[dE,h1]
     ·exact ih _ o ho
    all_goals exact ih _ o ho
  rw[hz l a o (bZ ho)]at hj;cases hj
variable (T:dC)
def B8(s:dc X):ResultVar->Option (DV X)
 | .tmp t=>some (eC s.env t)
 | .cell a t=>(T t).bind λti=>match eC s.env a with
  | .ptr kk row aa=>(fY s.obj kk).bind λo=>match o with
   | .cells _ rows=>(rows[row]?).bind λr=>JQ ti.agg ti.size ((r.drop aa).take ti.size)
   | .de b l=>(X.ar t).bind λa=>(gB (.sl b) (.sl a.c) l).bind λl=>if row=0/\aa=0/\ti.agg=true/\(X.cW a.i).length=ti.size/\2<=ti.size then(a.g (sub l 0 ti.size)).bind λy=>some (.c (.st a.i) y)else none
   |_=>none
  |_=>none
def Ti(s:dc X):List ResultVar->Option (List (DV X))
 |[]=>some []
 |r::rs=>(B8 T s r).bind λv=>(Ti s rs).bind λvs=>some (v::vs)
theorem akh{s:dc X}{r:ResultVar}{d:DV X}(h:B8 T s r=some d):QK T s.st r=some (den d):=by
 cases r with
 |tmp t=>simp only[B8,aA]at h;subst h;rfl
 |cell a t=>
  simp only[B8]at h;rw[ai]at h;obtain⟨ti,h1,h⟩:=h;split at h
  ·rename_i kk row aa hp;rw[ai]at h;obtain⟨o,h2,h⟩:=h;split at h
   ·rename_i sz rows;rw[ai]at h;obtain⟨q,h3,h⟩:=h;have h4:=EQ h;rw[kr]at h4
    show(match Le T t (den (eC s.env a)) (λ k=>(fY s.obj k).map bF)with
     |some ⟨v,[],[]⟩=>some v
     |_=>none)=some (den d)
    simp only[Le,EM,h1,ah,hp,den,h2,Option.map_some,bF,List.getElem?_map,h3,h4,pv]
   ·rename_i b l0;rw[ai]at h;obtain⟨ar,h3,h⟩:=h;rw[ai]at h;obtain⟨l,h4,h⟩:=h;split at h
    ·rename_i hc;obtain⟨rfl,rfl,c1,c2,c3⟩:=hc;have⟨y,h5,h⟩:=ai.1 h;cases h;have ho:=(X.m6 t ar h3).1;have hk:(λ k=>(fY s.obj k).map bF) kk=some ⟨1,eu (l.map λx=>den (.c ar.c x:DV X))⟩:=by
      have h6:C5 (fY s.obj) kk ar.c=some l:=(by unfold C5;rw[h2];exact h4);have⟨o,g1,g2⟩:=WM ho h6;simp only[g1,Option.map_some,g2]
     have hA:=WN (T:=T) (g:=λk=>(fY s.obj k).map bF) h1 h3 c1 c2 hk h5;have hN:EM T t (den (.ptr kk 0 0:DV X)) .none (λ k=>(fY s.obj k).map bF)=none:=by
      simp only[EM,h1,ah,den,hk];cases l with
      |nil=>rfl
      |cons z zs=>
       simp only[aC,eu,List.getElem?_cons_zero,ah,List.drop_zero];have:part' ti.agg ti.size (List.take ti.size [den (.c ar.c z:DV X)])=none:=by
        unfold part';rw[aM];simp only[List.length_take,bE,List.length_nil];omega
       show(part' ti.agg ti.size (List.take ti.size [den (.c ar.c z:DV X)])).bind pv=none;rw[this];rfl
     show(match Le T t (den (eC s.env a)) (λ k=>(fY s.obj k).map bF)with
      |some ⟨v,[],[]⟩=>some v
      |_=>none)=some (den (.c (.st ar.i) y:DV X))
     rw[hp];simp only[Le,hN,hA]
    ·cases h
   ·cases h
  ·cases h
def Xi{A:Type}(s:dc X):List ResultVar->(List (DV X)->Option A)->Option A
 |[],k=>k []
 | .tmp t::rs,k=>Xi s rs λvs=>k (eC s.env t::vs)
 | .cell a t::rs,k=>(T t).bind λti=>match eC s.env a with
  | .ptr kk row aa=>(fY s.obj kk).bind λo=>match o with
   | .cells _ rows=>(rows[row]?).bind λr=>(JQ ti.agg ti.size ((r.drop aa).take ti.size)).bind λv=>Xi s rs λvs=>k (v::vs)
   | .de b l=>(X.ar t).bind λa=>(gB (.sl b) (.sl a.c) l).bind λl=>if row=0/\aa=0/\ti.agg=true/\(X.cW a.i).length=ti.size/\2<=ti.size then(a.g (sub l 0 ti.size)).bind λy=>Xi s rs λvs=>k (.c (.st a.i) y::vs)else none
   |_=>none
  |_=>none
theorem Fb{A:Type}{s:dc X}:∀{rs:List ResultVar}{k:List (DV X)->Option A}{r:A},Xi T s rs k=some r->∃ds,Ti T s rs=some ds/\k ds=some r
 |[],k,r,h=>⟨[],rfl,h⟩
 | .tmp t::rs,k,r,h=>by
  have⟨ds,h1,h2⟩:=Fb (rs:=rs) h;exact⟨_,by simp only[Ti,B8,h1,ah],h2⟩
 | .cell a t::rs,k,r,h=>by
  simp only[Xi]at h;rw[ai]at h;obtain⟨ti,h1,h⟩:=h;split at h
  ·rename_i kk row aa hp;rw[ai]at h;obtain⟨o,h2,h⟩:=h;split at h
   ·rw[ai]at h;obtain⟨q,h3,h⟩:=h;rw[ai]at h;obtain⟨v,h4,h⟩:=h;have⟨ds,h5,h6⟩:=Fb (rs:=rs) h;exact⟨_,by simp only[Ti,B8,h1,hp,h2,h3,h4,h5,ah],h6⟩
   ·rw[ai]at h;obtain⟨ar,h3,h⟩:=h;rw[ai]at h;obtain⟨l,h4,h⟩:=h;split at h
    ·rename_i hc;have⟨y,h5,h⟩:=ai.1 h;have⟨ds,h6,h7⟩:=Fb (rs:=rs) h;exact⟨_,by simp only[Ti,B8,h1,hp,h2,h3,h4,h5,h6,ah];rw[aN hc];rfl,h7⟩
    ·cases h
   ·cases h
  ·cases h
theorem Q7{s:dc X}:∀{rs:List ResultVar}{ds:List (DV X)},Ti T s rs=some ds->nL T s.st rs=some (bJ ds)
 |[],ds,h=>by simp only[Ti,aA]at h;subst h;rfl
 |r::rs,ds,h=>by
  simp only[Ti]at h;have⟨d,h1,h⟩:=ai.1 h;have⟨ds',h2,h⟩:=ai.1 h;cases h;simp only[nL,akh T h1,Q7 h2,ah,bJ]
def Q8:List (RT X.ι)->List (DV X)->Option Nat
 | .mu _::l,ds=>Q8 l ds
 | .mr _::l,ds=>Q8 l ds
 | .mv::l,ds=>Q8 l ds
 | .fresh _::l,d::ds=>match d with
  | .own k _ _=>some k
  |_=>Q8 l ds
 | .d _::l,_::ds=>Q8 l ds
 | .whole _::l,_::ds=>Q8 l ds
 |_,_=>none
def wc:List (RT X.ι)->List (DV X)->List (Nat×Nat)
 | .mu _::l,ds=>wc l ds
 | .mr _::l,ds=>wc l ds
 | .mv::l,ds=>wc l ds
 | .whole j::l,d::ds=>match d with
  | .own _ _ len=>(j,len)::wc l ds
  |_=>wc l ds
 | .d _::l,_::ds=>wc l ds
 | .fresh _::l,_::ds=>wc l ds
 |_,_=>[]
def xk:Nat->List (RT X.ι)->List Nat
 |_,[]=>[]
 |n,.mu _::l=>n::xk (n+1) l
 |n,.mr _::l=>n::xk (n+1) l
 |n,.mv::l=>xk (n+1) l
 |n,_::l=>xk n l
def rb:Nat->List (RT X.ι)->List Nat
 |_,[]=>[]
 |n,.mu _::l=>n::rb (n+1) l
 |n,.mr _::l=>rb (n+1) l
 |n,.mv::l=>rb (n+1) l
 |n,_::l=>rb n l
def H2(bad:List Nat)(ks:List Nat):Bool:=ks.all λk=>!bad.contains k
def Wg(get:Nat->Option (br X))(row:List (DV X))(c:CT X.ι):Option (CT.T X.toSE c×List Bool):=
 match c with
 | .st i=>(yj get row (X.cW i)).bind λh=>some (X.make i h.1,h.2)
 |c=>match row with
  |[d]=>SS get d c
  |_=>none
def J5(get:Nat->Option (br X))(c:CT X.ι):List (List (DV X))->Option (List (CT.T X.toSE c)×List Bool)
 |[]=>some ([],[])
 |r::rs=>(Wg get r c).bind λx=>(J5 get c rs).bind λy=>some (x.1::y.1,x.2++y.2)
def OL(get:Nat->Option (br X))(bad qu:List Nat)(fk:Option Nat)(wl:List (Nat×Nat))(n:Nat):(q:RT X.ι)->List (DV X)->Option ((RT.T X q×List Bool)×List (DV X))
 | .d c,d::ds=>if H2 bad (bm d)then(Io get d c).bind λx=>some (x,ds)else none
 | .fresh e,d::ds=>match d with
  | .nil=>some (([],[]),ds)
  | .own k 0 len=>if fk=some k then(get k).bind λo=>match o with
   | .de b l=>(gB (.sl b) (.sl e) l).bind λ(l:List (CT.T X.toSE e))=>some ((sub l 0 len,[bk (sub l 0 len).length len]),ds)
   | .cells sz rows=>if sz=CT.sz X e/\H2 bad (rows.map aS).flatten=true then(J5 get e rows).bind λx=>some ((x.1,bk len (List.length x.1)::x.2),ds)else none
   | .map _ _ _=>none
   else none
  |_=>none
 | .whole j,d::ds=>match d with
  | .own k 0 len=>if k=j/\qu.contains j=true then(lk wl j).bind λef=>some (((),[bk len ef]),ds)else none
  |_=>none
 | .mu c,ds=>(get n).bind λo=>match o with
  | .de b l=>(gB (.sl b) (.sl c) l).bind λ(l:List (CT.T X.toSE c))=>match lk wl n with
   |some len=>some ((sub l 0 len,[bk (sub l 0 len).length len]),ds)
   |none=>some ((l,[]),ds)
  |_=>none
 | .mr c,ds=>(get n).bind λo=>match o with
  | .cells sz [row]=>if sz=CT.sz X c/\H2 bad (aS row)=true then(Wg get row c).bind λx=>some (x,ds)else none
  |_=>none
 | .mv,ds=>some (((),[]),ds)
 |_,[]=>none
def OM(get:Nat->Option (br X))(bad qu:List Nat)(fk:Option Nat)(wl:List (Nat×Nat)):Nat->(l:List (RT X.ι))->(ds:List (DV X))->Option (tV X l×List Bool)
 |_,[],ds=>match ds with
  |[]=>some ((),[])
  |_=>none
 |n,[q],ds=>(OL get bad qu fk wl n q ds).bind λp=>match p.2 with
  |[]=>some p.1
  |_=>none
 |n,q::q'::l,ds=>(OL get bad qu fk wl n q ds).bind λp=>(OM get bad qu fk wl (if q.out then n+1 else n) (q'::l) p.2).bind λy=>some ((p.1.1,y.1),p.1.2++y.2)
def Mo(s:dc X)(l:List (RT X.ι))(ds:List (DV X)):Option (tV X l×List Bool):=
 if H2 (xk 0 l) (Q8 l ds).toList then OM (fY s.obj) (xk 0 l++(Q8 l ds).toList) (rb 0 l) (Q8 l ds) (wc l ds) 0 l ds else none
def anJ(rs:List ResultVar)(l:List (RT X.ι)):Exit->dc X->Option (tV X l)
 | .normal,s=>Xi T s rs λds=>(Mo s l ds).bind λx=>Ws x.2 (some x.1)
 | .ret,s=>Xi T s rs λds=>(Mo s l ds).bind λx=>Ws x.2 (some x.1)
 |_,_=>none
def exit(A:Type)(k:dc X->Option A):Exit->dc X->Option A
 | .normal,s=>k s
 | .ret,s=>k s
 |_,_=>none
variable {T}
section
variable {get:Nat->Option (br X)} {fk:Option Nat} {os':List (Option eZ)} {bad:List Nat}
theorem GA{ks:List Nat}(h:H2 bad ks=true):∀j∈ks,j∉bad:=λj hj=>by simpa using all_eq_true.1 h j hj
theorem Q9(hbad:∀j,j∉bad->fk≠some j/\¬kept os' j){d:DV X}{c:CT X.ι}{x:CT.T X.toSE c×List Bool}(hc:c.one=true)(h:SS get d c=some x)(hb:∀b∈x.2,b=true)(mT:∀j∈bm d,j∉bad):∃t,CT.tv X.toSE c x.1= .s t/\QJ (fB get) fk os' (den d) t:=by
 obtain⟨t,h1,h2⟩:=row_one hc x.1;refine⟨t,h2,?_⟩;have hbase:∀y,LW d c=some y->y=x.1->QJ (fB get) fk os' (den d) t:=by
  intro y hy he;subst he;have h3:=wV hy;rw[h2]at h3;have h4:=WP hc hy;unfold LW at hy;split at hy
  ·rw[(iQ hy).1];simp only[den,h2,TV.av,QJ]
  ·simp only[den,Gb.wk,TV.av,AV.t.injEq]at h3;simp only[den,QJ];exact h3.symm
  ·simp only[den,Gb.wk,TV.av,AV.t.injEq]at h3;simp only[den,QJ];exact h3.symm
  ·cases hy
 unfold SS at h;split at h
 ·rename_i kk aa len e;rw[ai]at h;obtain⟨o,h3,h⟩:=h;split at h
  ·rename_i b l0;rw[ai]at h;obtain⟨l,h4,h⟩:=h;cases h;have h5:(sub l aa len).length=len:=(by simpa[bk]using hb (bk (sub l aa len).length len) (by simp));have⟨h6,h7⟩:=ji h4;obtain⟨hf1,hf2⟩:=hbad kk (mT kk (by simp[bm]));simp only[den,QJ];refine⟨hf1,hf2,bF (.de b l0),(sub l aa len).map (CT.row X.toSE e),by simp[fB,h3],?_,by simpa using h5,?_⟩
   ·simp only[bF,h7];simp[aL,sub,map_take,map_drop]
   ·simpa[CT.row]using h1.symm
  ·cases h
 ·rename_i kk aa len;rw[ai]at h;obtain⟨o,h3,h⟩:=h;split at h
  ·rename_i b l0;cases h;have h5:(sub l0 aa len).length=len:=(by simpa[bk]using hb (bk (sub l0 aa len).length len) (by simp));obtain⟨hf1,hf2⟩:=hbad kk (mT kk (by simp[bm]));simp only[den,QJ];refine⟨hf1,hf2,bF (.de b l0),(sub l0 aa len).map (CT.row X.toSE b),by simp[fB,h3],?_,by simpa using h5,?_⟩
   ·simp only[bF];simp[aL,sub,map_take,map_drop]
   ·simpa[CT.row]using h1.symm
  ·cases h
 ·rename_i kk len e;rw[ai]at h;obtain⟨o,h3,h⟩:=h;split at h
  ·rename_i b l0;have⟨l,h4,h⟩:=ai.1 h;cases h;have h5:(sub l 0 len).length=len:=(by simpa[bk]using hb (bk (sub l 0 len).length len) (by simp));have⟨h6,h7⟩:=ji h4;obtain⟨hf1,hf2⟩:=hbad kk (mT kk (by simp[bm]));simp only[den,QJ];refine⟨hf1,hf2,bF (.de b l0),(sub l 0 len).map (CT.row X.toSE e),by simp[fB,h3],?_,by simpa using h5,?_⟩
   ·simp only[bF,h7];simp[aL,sub,map_take,map_drop]
   ·simpa[CT.row]using h1.symm
  ·cases h
 ·have⟨y,h3,h⟩:=ai.1 h;injection h with h;exact hbase y h3 (by rw[<- h])
theorem M9(hbad:∀j,j∉bad->fk≠some j/\¬kept os' j):∀{ds:List (DV X)}{l:List (CT X.ι)}{h:HL X.toSE l×List Bool},yj get ds l=some h->(∀ b∈h.2,b=true)->l.all CT.one=true->(∀ j∈aS ds,j∉bad)->lf (fB get) fk os' (bJ ds) (HL.row X.toSE l h.1)
 |[],[],h,_,_,_,_=>trivial
 |d::ds,c::l,h,hr,hb,ha,mT=>by
  simp only[yj]at hr;have⟨x,h1,hr⟩:=ai.1 hr;have⟨g,h2,hr⟩:=ai.1 hr;cases hr;simp only[all_cons,aJ]at ha;obtain⟨t,i1,i2⟩:=Q9 hbad ha.1 h1 (λ b hb'=>hb b (by simp[hb'])) (λ j hj=>mT j (by simp[aS,hj]));have i3:=M9 hbad h2 (λ b hb'=>hb b (by simp[hb'])) ha.2 (λ j hj=>mT j (by simp[aS,hj]));obtain⟨t',j1,j2⟩:=row_one ha.1 x.1;rw[i1]at j2;cases j2;show lf (fB get) fk os' (den d::bJ ds) (CT.row X.toSE c x.1++HL.row X.toSE l g.1);rw[j1];exact⟨i2,i3⟩
 |[],_::_,_,hr,_,_,_=>by simp[yj]at hr
 |_::_,[],_,hr,_,_,_=>by simp[yj]at hr
theorem Tj(hbad:∀j,j∉bad->fk≠some j/\¬kept os' j){row:List (DV X)}{c:CT X.ι}{x:CT.T X.toSE c×List Bool}(h:Wg get row c=some x)(hb:∀b∈x.2,b=true)(mT:∀j∈aS row,j∉bad):lf (fB get) fk os' (bJ row) (CT.row X.toSE c x.1):=by
 cases c
 case st i=>
  replace h:(yj get row (X.cW i)).bind (λ h=>some (X.make i h.1,h.2))=some x:=h
  have⟨g,h1,h⟩:=ai.1 h;cases h;have:=M9 hbad h1 hb (X.flat i) mT;show lf (fB get) fk os' (bJ row) (X.row i (X.make i g.1));rw[X.gh];exact this
 all_goals
  match row,h,mT with
  |[d],h,mT=>
   obtain⟨t,i1,i2⟩:=Q9 (fk:=fk) hbad rfl h hb (λ j hj=>mT j (by simp[aS,hj]));obtain⟨t',j1,j2⟩:=row_one rfl x.1;rw[i1]at j2;cases j2;rw[j1];exact⟨i2,trivial⟩
  |[],h,_=>cases h
  |_::_::_,h,_=>cases h
theorem OO(hbad:∀j,j∉bad->fk≠some j/\¬kept os' j){c:CT X.ι}:∀{rows:List (List (DV X))}{x:List (CT.T X.toSE c)×List Bool},J5 get c rows=some x->(∀ b∈x.2,b=true)->(∀ j∈(rows.map aS).flatten,j∉bad)->ej (fB get) fk os' (rows.map bJ) (x.1.map (CT.row X.toSE c))/\rows.length=List.length x.1
 |[],x,h,_,_=>by simp only[J5,aA]at h;subst h;exact⟨trivial,rfl⟩
 |r::rs,x,h,hb,mT=>by
  simp only[J5]at h;have⟨y,h1,h⟩:=ai.1 h;have⟨z,h2,h⟩:=ai.1 h;cases h;have i1:=Tj hbad h1 (λ b hb'=>hb b (by simp[hb'])) (λ j hj=>mT j (by simp[hj]));obtain⟨i2,i3⟩:=OO hbad h2 (λ b hb'=>hb b (by simp[hb'])) (λ j hj=>mT j (by simp only[aC,flatten_cons,aV];exact .inr hj));exact⟨⟨i1,i2⟩,by simp[i3]⟩
theorem aki{x:AV}{t:Tree}(h:QJ (fB get) fk os' x t):DA (fB get) fk os' x (.d (.s t)):=by cases x<;>first |exact h |exact h.elim
theorem GD(sz:CT X.ι)(l:List (CT.T X.toSE sz)):ej (fB get) fk os' (aL (l.map (CT.row X.toSE sz))) (l.map (CT.row X.toSE sz)):=by
 generalize l.map (CT.row X.toSE sz)=rows
 induction rows with
 |nil=>trivial
 |cons r rs ih=>
  refine⟨?_,ih⟩;show lf (fB get) fk os' (r.map AV.t) r
  induction r with
  |nil=>trivial
  |cons y ys ih2=>exact⟨rfl,ih2⟩
theorem akj(hbad:∀j,j∉bad->fk≠some j/\¬kept os' j){c:CT X.ι}{d:DV X}{x:CT.T X.toSE c×List Bool}(h:Io get d c=some x)(mT:∀j∈bm d,j∉bad)(hb:∀b∈x.2,b=true):DA (fB get) fk os' (den d) (.d (CT.tv X.toSE c x.1)):=by
 cases c
 case st i=>
  replace h:DM get d i=some x:=h
  cases d
  case agg cs=>
   simp only[DM]at h;have⟨g,h1,h⟩:=ai.1 h;cases h;have:=M9 (fk:=fk) hbad h1 hb (X.flat i) (by simpa[bm]using mT);show lf (fB get) fk os' (bJ cs) (X.row i (X.make i g.1));rw[X.gh];exact this
  case c a y=>
   simp only[DM]at h;have⟨z,h1,h⟩:=ai.1 h;cases h;rw[(iQ h1).1];show lf (fB get) fk os' ((X.row i z).map AV.t) (X.row i z);generalize X.row i z=l
   induction l with
   |nil=>trivial
   |cons y ys ih=>exact⟨rfl,ih⟩
  all_goals cases h
 all_goals
  have⟨t,i1,i2⟩:=Q9 (fk:=fk) hbad rfl h hb mT;rw[i1];exact aki i2
theorem Xj{qu:List Nat}{wl:List (Nat×Nat)}{ns:List Nat}{n:Nat}(hbad:∀j,j∉bad->fk≠some j/\¬kept os' j)(p7:∀k,fk=some k->¬kept os' k)(hns:∀j ef,j∈qu->lk wl j=some ef->ns.getD j 0=ef)(hmu:∀j∈qu,kept os' j){q:RT X.ι}{ds:List (DV X)}{p:(RT.T X q×List Bool)×List (DV X)}(h:OL get bad qu fk wl n q ds=some p)(hb:∀b∈p.1.2,b=true):
 (∀ cs,m7 (fB get) fk os' (bJ p.2) cs->m7 (fB get) fk os' (bJ ds) (WH ns q p.1.1++cs))/\
 (∀ t,qG q p.1.1=[some t]->∃o,get n=some o/\(bF o).sz=t.1/\ej (fB get) fk os' ((bF o).rows.take t.2.length) t.2)/\
 (∀ ef c,q= .mu c->lk wl n=some ef->Zl q p.1.1=[ef]):=by
 cases q
 case d c=>
  cases ds with
  |nil=>simp[OL]at h
  |cons d ds=>
   simp only[OL]at h;split at h
   ·rename_i hnb;rw[ai]at h;obtain⟨x,h1,h⟩:=h;cases h;exact⟨λ cs hcs=>⟨akj hbad h1 (GA hnb) hb,hcs⟩,λt ht=>by simp[qG]at ht,λ_ _ h=>by cases h⟩
   ·cases h
 case fresh e=>
  cases ds with
  |nil=>simp[OL]at h
  |cons d ds=>
   refine⟨λ cs hcs=>?_,λt ht=>by simp[qG]at ht,λ_ _ h=>by cases h⟩;simp only[OL]at h;split at h
   ·cases h;exact⟨rfl,hcs⟩
   ·rename_i k len;split at h
    ·rename_i mT;rw[ai]at h;obtain⟨o,h1,h⟩:=h;split at h
     ·rename_i b l0;rw[ai]at h;obtain⟨l,h2,h⟩:=h;cases h;have⟨h3,h4⟩:=ji h2;have h5:(sub l 0 len).length=len:=(by simpa[bk]using hb (bk (sub l 0 len).length len) (by simp));refine⟨⟨mT,p7 k mT,rfl,bF (.de b l0),by simp[fB,h1],by simp only[bF];exact h3,?_,by simpa using h5⟩,hcs⟩;have e1:(bF (.de b l0)).rows.take len=aL ((sub l 0 len).map (CT.row X.toSE e)):=by
       simp only[bF,h4];simp[aL,sub,map_take]
      rw[e1];exact GD e _
     ·rename_i sz rows;split at h
      ·rename_i hc;rw[ai]at h;obtain⟨x,h2,h⟩:=h;cases h;obtain⟨i1,i2⟩:=OO (fk:=fk) hbad h2 (λ b hb'=>hb b (by simp[hb'])) (GA hc.2);have h5:len=List.length x.1:=(by simpa[bk]using hb (bk len (List.length x.1)) (by simp));refine⟨⟨mT,p7 k mT,rfl,bF (.cells sz rows),by simp[fB,h1],hc.1,?_,by simpa using h5.symm⟩,hcs⟩;simp only[bF];rw[List.take_of_length_le (by simp;omega)];exact i1
      ·cases h
     ·cases h
    ·cases h
   ·cases h
 case whole j=>
  cases ds with
  |nil=>simp[OL]at h
  |cons d ds=>
   refine⟨λ cs hcs=>?_,λt ht=>by simp[qG]at ht,λ_ _ h=>by cases h⟩;simp only[OL]at h;split at h
   ·rename_i k len;split at h
    ·rename_i hc;obtain⟨rfl,hm⟩:=hc;rw[ai]at h;obtain⟨ef,h1,h⟩:=h;cases h;have h5:len=ef:=(by simpa[bk]using hb (bk len ef) (by simp));have hm:k∈qu:=(by simpa using hm);refine⟨⟨rfl,rfl,?_,hmu k hm⟩,hcs⟩;rw[h5];exact hns k ef hm h1
    ·cases h
   ·cases h
 case mu c=>
  simp only[OL]at h;rw[ai]at h;obtain⟨o,h1,h⟩:=h;split at h
  ·rename_i b l0;rw[ai]at h;obtain⟨l,h2,h⟩:=h;have⟨h3,h4⟩:=ji h2;split at h
   ·rename_i len hl;cases h;have h5:(sub l 0 len).length=len:=(by simpa[bk]using hb (bk (sub l 0 len).length len) (by simp));refine⟨λ cs hcs=>hcs,λt ht=>?_,λef c' _ hl'=>?_⟩
    ·simp only[qG,List.cons.injEq,aA,and_true]at ht;subst ht;refine⟨_,h1,by simp only[bF,sD];exact h3,?_⟩;have e1:(bF (.de b l0)).rows.take (sD c (sub l 0 len)).2.length=aL (sD c (sub l 0 len)).2:=by
      simp only[bF,h4,sD,length_map,h5];simp[aL,sub,map_take]
     rw[e1];exact GD c _
    ·rw[hl]at hl';injection hl' with hl';subst hl';simp only[Zl,h5]
   ·rename_i hl;cases h;refine⟨λ cs hcs=>hcs,λt ht=>?_,λef c' _ hl'=>by rw[hl]at hl';cases hl'⟩;simp only[qG,List.cons.injEq,aA,and_true]at ht;subst ht;refine⟨_,h1,by simp only[bF,sD];exact h3,?_⟩;have e1:(bF (.de b l0)).rows.take (sD c l).2.length=aL (sD c l).2:=by
     simp only[bF,h4,sD];rw[List.take_of_length_le (by simp[aL])]
    rw[e1];exact GD c _
  ·cases h
 case mr c=>
  simp only[OL]at h;rw[ai]at h;obtain⟨o,h1,h⟩:=h;split at h
  ·rename_i sz row;split at h
   ·rename_i hc;have⟨x,h2,h⟩:=ai.1 h;cases h;refine⟨λ cs hcs=>hcs,λt ht=>?_,λ_ _ h=>by cases h⟩;simp only[qG,List.cons.injEq,aA,and_true]at ht;subst ht;refine⟨_,h1,by simp only[bF,sD];exact hc.1,?_⟩;exact⟨Tj hbad h2 hb (GA hc.2),trivial⟩
   ·cases h
  ·cases h
 case mv=>
  simp only[OL,aA]at h;subst h;exact⟨λ cs hcs=>hcs,λt ht=>by simp[qG]at ht,λ_ _ h=>by cases h⟩
theorem J6{q:RT X.ι}{x:RT.T X q}:(qG q x).length=(if q.out then 1 else 0)/\(Zl q x).length=(if q.out then 1 else 0):=by cases q<;>exact⟨rfl,rfl⟩
theorem J7{n j:Nat}{q:RT X.ι}{l:List (RT X.ι)}:j∈rb n (q::l)->(j=n/\∃c,q= .mu c)\/j∈rb (if q.out then n+1 else n) l:=by
 cases q<;>simp only[rb,RT.out,if_true,Bool.false_eq_true,if_false,aO]
 case mu c=>exact λh=>h.imp (λ h=>⟨h,c,rfl⟩) id
 all_goals exact .inr
theorem VM{j:Nat}:∀{l:List (RT X.ι)}{n:Nat},j∈rb n l->n<=j
 |[],n,h=>by simp[rb]at h
 |q::l,n,h=>by
  rcases J7 h with ⟨rfl,_⟩ |h
  ·exact aP _
  ·have:=VM h;split at this<;>omega
theorem adX:∀{l:List (RT X.ι)}{x:tV X l}{n j:Nat},j∈rb n l->∃p,(oh l x)[j -n]? =some (some p)
 |[],x,n,j,h=>by simp[rb]at h
 |[q],x,n,j,h=>by
  rcases J7 h with ⟨rfl,c,rfl⟩ |h
  ·exact⟨_,by simp only[Nat.sub_self];rfl⟩
  ·simp[rb]at h
 |q::q'::l,x,n,j,h=>by
  rcases J7 h with ⟨rfl,c,rfl⟩ |h
  ·exact⟨_,by simp only[Nat.sub_self];rfl⟩
  ·have⟨p,hp⟩:=adX (l:=q'::l) (x:=x.2) h;have hge:=VM h;refine⟨p,?_⟩;show(qG q x.1++oh (q'::l) x.2)[j -n]? =_;have hl:=(J6 (q:=q) (x:=x.1)).1;split at hl
   ·rename_i e;rw[aN e]at hp hge;rw[iH (by omega),hl,show j -n -1=j -(n+1)by omega];exact hp
   ·rename_i e;rw[aM e]at hp hge;rw[iH (by omega),hl,Nat.sub_zero];exact hp
theorem Fe:∀{l:List (RT X.ι)}{x:tV X l}{n j:Nat}{p:eZ},(oh l x)[j]? =some (some p)->n+j∈xk n l
 |[],x,n,j,p,h=>by simp[oh]at h
 |[q],x,n,j,p,h=>by
  have h:(qG q x)[j]? =some (some p):=h;cases q<;>simp only[qG,List.getElem?_nil,reduceCtorEq]at h
  case mu c=>cases j<;>simp at h<;>simp[xk]
  case mr c=>cases j<;>simp at h<;>simp[xk]
  case mv=>cases j<;>simp at h
 |q::q'::l,x,n,j,p,h=>by
  have h:(qG q x.1++oh (q'::l) x.2)[j]? =some (some p):=h;cases q
  case mu c=>
   cases j with
   |zero=>simp[xk]
   |succ j=>
    have:=Fe (l:=q'::l) (x:=x.2) (n:=n+1) (by simpa[qG]using h);simp only[xk,aO];right;rw[show n+(j+1)=n+1+j by omega];exact this
  case mr c=>
   cases j with
   |zero=>simp[xk]
   |succ j=>
    have:=Fe (l:=q'::l) (x:=x.2) (n:=n+1) (by simpa[qG]using h);simp only[xk,aO];right;rw[show n+(j+1)=n+1+j by omega];exact this
  case mv=>
   cases j with
   |zero=>simp[qG]at h
   |succ j=>
    have:=Fe (l:=q'::l) (x:=x.2) (n:=n+1) (by simpa[qG]using h);simp only[xk];rw[show n+(j+1)=n+1+j by omega];exact this
  all_goals
   simp only[xk];exact Fe (l:=q'::l) (x:=x.2) (by simpa[qG]using h)
theorem adY{qu:List Nat}{wl:List (Nat×Nat)}{n:Nat}{q:RT X.ι}{ds:List (DV X)}{p:(RT.T X q×List Bool)×List (DV X)}(h:OL get bad qu fk wl n q ds=some p)(hb:∀b∈p.1.2,b=true):∀ef c,q= .mu c->lk wl n=some ef->Zl q p.1.1=[ef]:=by
 rintro ef c rfl hl;simp only[OL]at h;rw[ai]at h;obtain⟨o,h1,h⟩:=h;split at h
 ·rename_i b l0;have⟨l,h2,h⟩:=ai.1 h;rw[hl]at h;cases h;have h5:(sub l 0 ef).length=ef:=by simpa[bk]using hb (bk (sub l 0 ef).length ef) (by simp)
  simp only[Zl,h5]
 ·cases h
theorem Na{qu:List Nat}{wl:List (Nat×Nat)}:∀{n:Nat}{l:List (RT X.ι)}{ds:List (DV X)}{x:tV X l×List Bool},OM get bad qu fk wl n l ds=some x->(∀ b∈x.2,b=true)->∀j ef,n+j∈rb n l->lk wl (n+j)=some ef->(vy l x.1).getD j 0=ef
 |n,[],ds,x,h,hb,j,ef,hm,_=>by simp[rb]at hm
 |n,[q],ds,x,h,hb,j,ef,hm,hl=>by
  simp only[OM]at h;have⟨p,h1,h⟩:=ai.1 h;split at h
  ·cases h;rcases J7 hm with ⟨e,c,rfl⟩ |hm
   ·have e:j=0:=(by omega);subst e;have:=(adY h1 hb) ef c rfl hl;show(Zl _ p.1.1).getD 0 0=ef;rw[this];rfl
   ·simp[rb]at hm
  ·cases h
 |n,q::q'::l,ds,x,h,hb,j,ef,hm,hl=>by
  simp only[OM]at h;have⟨p,h1,h⟩:=ai.1 h;have⟨y,h2,h⟩:=ai.1 h;cases h;have hlen:=(J6 (q:=q) (x:=p.1.1)).2;rcases J7 hm with ⟨e,c,rfl⟩ |hm
  ·have e:j=0:=(by omega);subst e;have:=(adY h1 (λ b hb'=>hb b (by simp[hb']))) ef c rfl hl;show(Zl _ p.1.1++vy (q'::l) y.1).getD 0 0=ef;rw[this];rfl
  ·have hge:=VM hm;show(Zl _ p.1.1++vy (q'::l) y.1).getD j 0=ef;by_cases hq:q.out=true
   ·rw[aN hq]at h2 hm hge hlen;have:=Na h2 (λ b hb'=>hb b (by simp[hb'])) (j -1) ef (by rw[show n+1+(j -1)=n+j by omega];exact hm) (by rw[show n+1+(j -1)=n+j by omega];exact hl);rw[List.getD_eq_getElem?_getD,iH (by omega),hlen,<- List.getD_eq_getElem?_getD];exact this
   ·rw[aM hq]at h2 hm hge hlen;have:=Na h2 (λ b hb'=>hb b (by simp[hb'])) j ef hm hl;rw[List.getD_eq_getElem?_getD,iH (by omega),hlen,Nat.sub_zero,<- List.getD_eq_getElem?_getD];exact this
theorem aaM{qu:List Nat}{wl:List (Nat×Nat)}{ns:List Nat}(hbad:∀j,j∉bad->fk≠some j/\¬kept os' j)(p7:∀k,fk=some k->¬kept os' k)(hns:∀j ef,j∈qu->lk wl j=some ef->ns.getD j 0=ef)(hmu:∀j∈qu,kept os' j):∀{n:Nat}{l:List (RT X.ι)}{ds:List (DV X)}{x:tV X l×List Bool},OM get bad qu fk wl n l ds=some x->(∀ b∈x.2,b=true)->
 m7 (fB get) fk os' (bJ ds) (Dn ns l x.1)/\∀j t,(oh l x.1)[j]? =some (some t)->∃o,get (n+j)=some o/\(bF o).sz=t.1/\ej (fB get) fk os' ((bF o).rows.take t.2.length) t.2
 |n,[],ds,x,h,_=>by
  simp only[OM]at h;split at h
  ·exact⟨trivial,λj t ht=>by simp[oh]at ht⟩
  ·cases h
 |n,[q],ds,x,h,hb=>by
  simp only[OM]at h;rw[ai]at h;obtain⟨p,h1,h⟩:=h;split at h
  ·rename_i hp;cases h;have⟨i1,i2,_⟩:=Xj (ns:=ns) hbad p7 hns hmu h1 hb;rw[hp]at i1;have:=i1 [] trivial;rw[append_nil]at this;refine⟨this,λj t ht=>?_⟩;have ht:(qG q p.1.1)[j]? =some (some t):=ht;have hl:=(J6 (q:=q) (x:=p.1.1)).1;have hj:=(cO.1 ht).1;have hj0:j=0:=(by split at hl<;>omega);subst hj0;refine i2 t ?_
   match ho:qG q p.1.1,ht,hl with
   |[z],ht,_=>simpa using ht
   |[],ht,_=>simp at ht
   |_::_::_,_,hl=>simp only[bE]at hl;split at hl<;>omega
  ·cases h
 |n,q::q'::l,ds,x,h,hb=>by
  simp only[OM]at h;have⟨p,h1,h⟩:=ai.1 h;have⟨y,h2,h⟩:=ai.1 h;cases h;obtain⟨i1,i2,_⟩:=Xj (ns:=ns) hbad p7 hns hmu h1 (λ b hb'=>hb b (by simp[hb']));obtain⟨k1,k2⟩:=aaM (ns:=ns) hbad p7 hns hmu h2 (λ b hb'=>hb b (by simp[hb']));refine⟨i1 _ k1,λj t ht=>?_⟩;have ht:(qG q p.1.1++oh (q'::l) y.1)[j]? =some (some t):=ht;have hl:=(J6 (q:=q) (x:=p.1.1)).1;by_cases hq:q.out=true
  ·rw[aN hq]at k2 hl;cases j with
   |zero=>
    refine i2 t ?_
    match ho:qG q p.1.1,ht,hl with
    |[z],ht,_=>simpa using ht
    |[],_,hl=>simp at hl
    |_::_::_,_,hl=>simp at hl
   |succ j=>
    rw[iH (by omega),hl,Nat.add_sub_cancel]at ht;rw[show n+(j+1)=n+1+j by omega];exact k2 j t ht
  ·rw[aM hq]at k2 hl;rw[iH (by omega),hl,Nat.sub_zero]at ht;exact k2 j t ht
end
theorem m7.R{get:Nat->Option aU}{fk:Option Nat}{os':List (Option eZ)}:∀{xs:List AV}{cs:List RC},m7 get fk os' xs cs->Do get fk os' xs (match cs with |[c]=> .one c |cs=> .fh cs)
 |[],[],_=>rfl
 |[_],[_],h=>h.1
 |_::_::_,_::_::_,h=>h
 |[],_::_,h=>h.elim
 |_::_,[],h=>h.elim
 |[_],_::_::_,h=>h.2.elim
 |_::_::_,[_],h=>h.2.elim
theorem akk{s:dc X}{rs:List ResultVar}{l:List (RT X.ι)}{r:tV X l}(h:(Xi T s rs λds=>(Mo s l ds).bind λx=>Ws x.2 (some x.1))=some r):∃xs fk,nL T s.st rs=some xs/\Do s.st.obj fk (oh l r) xs (tZ l r)/\J1 s.st.obj fk (oh l r):=by
 have⟨ds,h1,h⟩:=Fb T h;rw[ai]at h;obtain⟨x,h2,h⟩:=h;have⟨h3,h⟩:=pW h;cases h;unfold Mo at h2;split at h2
 ·rename_i hnb;have hkn:∀j,kept (oh l x.1) j->j∈xk 0 l:=λj ⟨p,hp⟩=>by
   have:=Fe (n:=0) hp;simpa using this
  have hbad:∀j,j∉xk 0 l++(Q8 l ds).toList->Q8 l ds≠some j/\¬kept (oh l x.1) j:=by
   intro j hj;simp only[aV,Option.mem_toList,not_or]at hj;exact⟨hj.2,λh=>hj.1 (hkn j h)⟩
  have p7:∀k,Q8 l ds=some k->¬kept (oh l x.1) k:=λk hk hkk=>GA hnb k (by simp[hk]) (hkn k hkk);have hmu:∀j∈rb 0 l,kept (oh l x.1) j:=λj hj=>by
   have⟨p,hp⟩:=adX (x:=x.1) hj;exact⟨p,by simpa using hp⟩
  obtain⟨i1,i2⟩:=aaM (ns:=vy l x.1) hbad p7 (λ j ef hj hl=>Na h2 h3 j ef (by simpa using hj) (by simpa using hl)) hmu h2 h3;have jj:s.st.obj=fB (fY s.obj):=rfl;refine⟨bJ ds,Q8 l ds,Q7 T h1,?_,λj p hp=>?_⟩
  ·rw[jj];exact i1.R
  ·have⟨o,g1,g2,g3⟩:=i2 j p hp;rw[Nat.zero_add]at g1;exact⟨λ e=>p7 j e ⟨p,hp⟩,bF o,by rw[jj];simp[fB,g1],g2,by rw[jj];exact g3⟩
 ·cases h2
variable {Γ:FuncId->Option (bz X)} {ao:TypeId->Option (CT X.ι)} {P:Program}
theorem anK(hT : eY P T)(hm : P.follows .mixedOrders = true)(hΓ : ry P Γ){f : FuncId}{fn : Func}{c : Code}(hfn : P.funcs[f]? = some fn)(hb : fn.body = some c)(hname : (fn.name == "runtime.NumGoroutine") = false)(sa : List (AT X.ι))(sr : List (RT X.ι))(hN : sa.length <= fn.ntmps /\ qH sa <= 1000 /\ (sr.filter RT.out).length = qH sa)
 (h:Hn X.ι) (n:Nat) {a:jc X sa} {r:tV X sr} (hr:run Γ T ao fn.ntmps n c (tV X sr) h (vf sa a) (anJ T fn.results.toList sr)=some r):rI P f (Ah sa a) (qF sa a) (oh sr r) (tZ sr r):=by
 have hl:(oh sr r).length=(qF sa a).length:=by
  rw[lT,<- hN.2.2];have:∀(sr:List (RT X.ι))(r:tV X sr),(oh sr r).length=(sr.filter RT.out).length:=by
   intro sr
   induction sr with
   |nil=>intro r;rfl
   |cons q l ih=>
    intro r;have hq:∀x:RT.T X q,(qG q x).length=(if q.out then 1 else 0):=λx=>J6.1;cases l with
    |nil=>
     show(qG q r).length=_;rw[hq];by_cases e:q.out=true<;>simp[e]
    |cons q' l=>
     show(qG q r.1++oh (q'::l) r.2).length=_;rw[dF,hq,ih r.2];by_cases e:q.out=true<;>simp[List.filter_cons,e];omega
  exact this sr r
 refine aii hT hfn hb hname (by rw[lQ];exact hN.1) (λ k hk=>?_) (by rw[lT];exact hN.2.1) hl ?_
 ·rw[Ah,<- sW,iq]at hk;have:=pE 0 sa a k hk;have:=hN.2.1;omega
 ·rw[<- am4];refine(kW hT hm hΓ c _ h _ _ r (alQ sa a hN.2.1) hr).mono ?_;rintro e σ ⟨s',_,_,rfl,g4⟩;cases e<;>first |exact akk g4 |cases g4
theorem nH{f : FuncId}{fn : Func}{c : Code}(hfn : P.funcs[f]? = some fn)(hb : fn.body = some c)(hname : (fn.name == "runtime.NumGoroutine") = false): iL P f := ⟨fn, hfn, by rw [hb]; rfl, hname⟩
abbrev CC(P:Program)(f:FuncId)(s:bz X):Prop:=iL P f/\(∀ a r,s.fn a=some r->rI P f (Ah s.args a) (qF s.args a) (oh s.res r) (tZ s.res r))/\∀g,s.gen=some g->HK P f g
theorem xd{P:Program}{f:FuncId}{s:bz X}(h:iL P f)(h1:∀a r,s.fn a=some r->rI P f (Ah s.args a) (qF s.args a) (oh s.res r) (tZ s.res r))(hg:s.gen=none):CC P f s:=⟨h,h1,λg e=>by rw[hg]at e;cases e⟩
theorem Tl{P:Program}{f:FuncId}{g:cT X}(h:iL P f)(hg:HK P f g):CC P f ⟨[],[.d .bool],λ_=>none,some g⟩:=⟨h,λ_ _ e=>(by cases e),λ_ e=>(by cases e;exact hg)⟩
def oB(s t:bz X):bz X:=⟨s.args,s.res,s.fn,t.gen⟩
def vm(l:List (FuncId×bz X)):FuncId->Option (bz X):=λf=>lk l f
theorem aB:ry P (vm ([]:List (FuncId×bz X))):=λ_ _ h=>by cases h
theorem au{f:FuncId}{s:bz X}{l:List (FuncId×bz X)}(h:CC P f s)(hl:ry P (vm l)):ry P (vm ((f,s)::l)):=by
 intro g q hg;simp only[vm,lk]at hg;split at hg
 ·rename_i e;cases hg;subst e;exact h
 ·exact hl g q hg
end
end Go.Gb
