import Derived.Test.YtakagljmnddfdaaGreatW2
open List (mem_map all_eq_true cons_append length_map append_nil map_map map_congr_left flatten_cons map_nil all_cons map_take map_drop map_append mem_append_right)
namespace Go.Gb
open Go.RowKit
section
variable {X:SX} {A:Type}
theorem ah9:∀(l:U (CT X.ι))(v:VT (X:=X) l),(xq l v).map (·.c)=l
 |[],_=>rfl
 |[_],_=>rfl
 |c::c'::l,v=>by simp only[xq,aF,ah9 (c'::l) v.2]
theorem Ri:∀{l:U Tree},(∀ t∈l,t.flat)->qE (l.map AV.t)
 |[],_=>trivial
 |t::l,h=>⟨h t (by simp),Ri (λ u hu=>h u (by simp[hu]))⟩
theorem adI{c:CT X.ι}(h:yx c=true)(x:CT.T X.toSE c):vY (CT.tv X.toSE c x).av:=by
 have hf:=wo h x;cases c
 case st i=>exact Ri hf
 all_goals first |exact hf _ (aY.2 rfl) |cases h
section
variable {ol:Nat->Nat}
mutual
theorem aoJ:∀(p:Pt X.ι)(L:List (DC X))(cs:List (CT X.ι)),L.map (·.c)=p.vars++cs->p.vars.all yx=true->vY (den (eP ol p L).1)/\(eP ol p L).2.map (·.c)=cs
 | .v c,L,cs,h,hs=>by
  match L,h with
  |d::r,h=>
   simp only[Pt.vars,aF,List.singleton_append,List.cons.injEq]at h;simp only[Pt.vars,all_cons,List.all_nil,Bool.and_true]at hs;exact⟨adI (h.1 ▸ hs) d.x,h.2⟩
  |[],h=>simp[Pt.vars]at h
 | .o k,L,cs,h,_=>⟨trivial,by simpa[Pt.vars,eP]using h⟩
 | .p k,L,cs,h,_=>⟨trivial,by simpa[Pt.vars,eP]using h⟩
 | .mp k,L,cs,h,_=>⟨trivial,by simpa[Pt.vars,eP]using h⟩
 | .oz k,L,cs,h,_=>⟨trivial,by simpa[Pt.vars,eP]using h⟩
 | .nil,L,cs,h,_=>⟨trivial,by simpa[Pt.vars,eP]using h⟩
 | .od k,L,cs,h,_=>by
  match L,h with
  |d::r,h=>
   simp only[Pt.vars,aF,List.singleton_append,List.cons.injEq]at h;exact⟨trivial,h.2⟩
  |[],h=>simp[Pt.vars]at h
 | .f F fs ps,L,cs,h,hs=>by
  simp only[Pt.vars,List.all_append,aG]at hs;simp only[Pt.vars,aM]at h;obtain⟨a1,a2⟩:=DU fs L _ h hs.1;obtain⟨b1,b2⟩:=DU ps _ _ a2 hs.2;exact⟨⟨a1,b1⟩,b2⟩
 | .a ps,L,cs,h,hs=>by
  simp only[Pt.vars]at h hs;exact DU ps L cs h hs
theorem DU:∀(ps:List (Pt X.ι))(L:List (DC X))(cs:List (CT X.ι)),L.map (·.c)=cI ps++cs->(cI ps).all yx=true->qE (bM (k8 ol ps L).1)/\(k8 ol ps L).2.map (·.c)=cs
 |[],L,cs,h,_=>⟨trivial,by simpa[cI,k8]using h⟩
 |p::ps,L,cs,h,hs=>by
  simp only[cI,List.all_append,aG]at hs;simp only[cI,aM]at h;obtain⟨a1,a2⟩:=aoJ p L _ h hs.1;obtain⟨b1,b2⟩:=DU ps _ _ a2 hs.2;exact⟨⟨a1,b1⟩,b2⟩
end
mutual
theorem aoK:∀(p:Pt X.ι)(L:List (DC X)),∀j∈bm (eP ol p L).1,j∈p.refs
 | .v c,L,j,h=>by cases L<;>simp[eP,bm]at h
 | .o k,L,j,h=>by simpa[eP,bm,Pt.refs]using h
 | .p k,L,j,h=>by simpa[eP,bm,Pt.refs]using h
 | .mp k,L,j,h=>by simpa[eP,bm,Pt.refs]using h
 | .oz k,L,j,h=>by simpa[eP,bm,Pt.refs]using h
 | .nil,L,j,h=>by simp[eP,bm]at h
 | .od k,L,j,h=>by cases L<;>simp[eP,bm]at h<;>simp[Pt.refs,h]
 | .f F fs ps,L,j,h=>by
  simp only[eP,bm,bg]at h;simp only[Pt.refs,bg];exact h.imp (zC fs _ j) (zC ps _ j)
 | .a ps,L,j,h=>by
  simp only[eP,bm]at h;simp only[Pt.refs];exact zC ps _ j h
theorem zC:∀(ps:List (Pt X.ι))(L:List (DC X)),∀j∈aR (k8 ol ps L).1,j∈Ck ps
 |[],L,j,h=>by simp[k8,aR]at h
 |p::ps,L,j,h=>by
  simp only[k8,aR,bg]at h;simp only[Ck,bg];exact h.imp (aoK p _ j) (zC ps _ j)
end
theorem ML:∀(rs:U (List (Pt X.ι)))(L:U (DC X))(cs:U (CT X.ι)),L.map (·.c)=xk rs++cs->(xu ol rs L).2.map (·.c)=cs/\((xk rs).all yx=true->∀r∈(xu ol rs L).1,qE (bM r))
 |[],L,cs,h=>⟨by simpa[xk,xu]using h,by simp[xu]⟩
 |r::rs,L,cs,h=>by
  simp only[xk,aM]at h;have step:(k8 ol r L).2.map (·.c)=xk rs++cs:=t6 r L _ h;obtain⟨b1,b2⟩:=ML rs _ _ step;refine⟨b1,λhs q hq=>?_⟩;simp only[xk,List.all_append,aG]at hs;simp only[xu,aO]at hq;rcases hq with rfl |hq
  .exact(DU r L _ h hs.1).1
  .exact b2 hs.2 q hq
where
 t6 (ps:U (Pt X.ι)) (L:U (DC X)) (cs:U (CT X.ι)) (h:L.map (·.c)=cI ps++cs):(k8 ol ps L).2.map (·.c)=cs:=pc ps L cs h
 DB:∀(p:Pt X.ι)(L:U (DC X))(cs:U (CT X.ι)),L.map (·.c)=p.vars++cs->(eP ol p L).2.map (·.c)=cs
  | .v c,L,cs,h=>by
   match L,h with
   |d::r,h=>simp only[Pt.vars,aF,List.singleton_append,List.cons.injEq]at h;exact h.2
   |[],h=>simp[Pt.vars]at h
  | .o k,L,cs,h=>by simpa[Pt.vars,eP]using h
  | .p k,L,cs,h=>by simpa[Pt.vars,eP]using h
  | .mp k,L,cs,h=>by simpa[Pt.vars,eP]using h
  | .oz k,L,cs,h=>by simpa[Pt.vars,eP]using h
  | .nil,L,cs,h=>by simpa[Pt.vars,eP]using h
  | .od k,L,cs,h=>by
   match L,h with
   |d::r,h=>simp only[Pt.vars,aF,List.singleton_append,List.cons.injEq]at h;exact h.2
   |[],h=>simp[Pt.vars]at h
  | .f F fs ps,L,cs,h=>by
   simp only[Pt.vars,aM]at h;exact pc ps _ _ (pc fs L _ h)
  | .a ps,L,cs,h=>by
   simp only[Pt.vars]at h;exact pc ps L cs h
 pc:∀(ps:U (Pt X.ι))(L:U (DC X))(cs:U (CT X.ι)),L.map (·.c)=cI ps++cs->(k8 ol ps L).2.map (·.c)=cs
  |[],L,cs,h=>by simpa[cI,k8]using h
  |p::ps,L,cs,h=>by
   simp only[cI,aM]at h;exact pc ps _ _ (DB p L _ h)
theorem X4:∀(rs:U (List (Pt X.ι)))(L:U (DC X)),∀j∈((xu ol rs L).1.map aR).flatten,j∈rs.flatMap Ck
 |[],L,j,h=>by simp[xu]at h
 |r::rs,L,j,h=>by
  simp only[xu,aF,flatten_cons,bg]at h;simp only[List.flatMap_cons,bg];exact h.imp (zC r _ j) (X4 rs _ j)
theorem zD:∀(O:U (Nat×OP X.ι))(L:U (DC X)),((dF (cB ol O L)).map (·.1)).Sublist (O.map (·.1))/\(∀ p∈dF (cB ol O L),∃op,(p.1,op)∈O/\∀j∈dE p.2,j∈op.refs)/\
 (L.map (·.c)=cC O->(O.all λq=>match q.2 with | .l c=>yx c | .m _ _=>false | .c _ rows=>(xk rows).all yx)=true->∀p∈dF (cB ol O L),∀r∈(bG p.2).rows,qE r)
 |[],L=>⟨by simp[cB,dF],by simp[cB,dF],by simp[cB,dF]⟩
 |(k,.l c)::O,L=>by
  match L with
  |[]=>exact⟨by simp[cB,dF],by simp[cB,dF],by simp[cB,dF]⟩
  |⟨.sl c',x⟩::L=>
   have⟨h1,h2,h3⟩:=zD O L;refine⟨?_,?_,?_⟩
   .simp only[cB,dF,aF];exact h1.cons_cons _
   .intro p hp;simp only[cB,dF,aO]at hp;rcases hp with rfl |hp
    .exact⟨.l c,by simp,by simp[dE]⟩
    .have⟨op,g1,g2⟩:=h2 p hp;exact⟨op,fF _ g1,g2⟩
   .intro hL hs p hp r hr;simp only[aF,cC,List.cons.injEq]at hL;simp only[all_cons,aG]at hs;simp only[cB,dF,aO]at hp;rcases hp with rfl |hp
    .obtain⟨e,_⟩:=hL;injection e with e;simp only[bG,aL,mem_map]at hr;obtain⟨q,⟨y,hy,rfl⟩,rfl⟩:=hr;exact Ri (wo (e ▸ hs.1) y)
    .exact h3 hL.2 hs.2 p hp r hr
  |⟨.int _,x⟩::L=>exact⟨by simp[cB,dF],by simp[cB,dF],by simp[cB,dF]⟩
  |⟨.bool,x⟩::L=>exact⟨by simp[cB,dF],by simp[cB,dF],by simp[cB,dF]⟩
  |⟨.str,x⟩::L=>exact⟨by simp[cB,dF],by simp[cB,dF],by simp[cB,dF]⟩
  |⟨.any,x⟩::L=>exact⟨by simp[cB,dF],by simp[cB,dF],by simp[cB,dF]⟩
  |⟨.mp _ _,x⟩::L=>exact⟨by simp[cB,dF],by simp[cB,dF],by simp[cB,dF]⟩
  |⟨.st _,x⟩::L=>exact⟨by simp[cB,dF],by simp[cB,dF],by simp[cB,dF]⟩
 |(k,.m kc vc)::O,L=>by
  match L with
  |[]=>exact⟨by simp[cB,dF],by simp[cB,dF],by simp[cB,dF]⟩
  |⟨.mp tS tI,x⟩::L=>
   have⟨h1,h2,h3⟩:=zD O L;refine⟨?_,?_,?_⟩
   .simp only[cB,dF,aF];exact h1.cons_cons _
   .intro p hp;simp only[cB,dF,aO]at hp;rcases hp with rfl |hp
    .exact⟨.m kc vc,by simp,by simp[dE]⟩
    .have⟨op,g1,g2⟩:=h2 p hp;exact⟨op,fF _ g1,g2⟩
   .intro hL hs;simp at hs
  |⟨.sl _,x⟩::L=>exact⟨by simp[cB,dF],by simp[cB,dF],by simp[cB,dF]⟩
  |⟨.int _,x⟩::L=>exact⟨by simp[cB,dF],by simp[cB,dF],by simp[cB,dF]⟩
  |⟨.bool,x⟩::L=>exact⟨by simp[cB,dF],by simp[cB,dF],by simp[cB,dF]⟩
  |⟨.str,x⟩::L=>exact⟨by simp[cB,dF],by simp[cB,dF],by simp[cB,dF]⟩
  |⟨.any,x⟩::L=>exact⟨by simp[cB,dF],by simp[cB,dF],by simp[cB,dF]⟩
  |⟨.st _,x⟩::L=>exact⟨by simp[cB,dF],by simp[cB,dF],by simp[cB,dF]⟩
 |(k,.c sz rows)::O,L=>by
  have⟨h1,h2,h3⟩:=zD O (xu ol rows L).2;refine⟨?_,?_,?_⟩
  .simp only[cB,dF,aF];exact h1.cons_cons _
  .intro p hp;simp only[cB,dF,aO]at hp;rcases hp with rfl |hp
   .exact⟨.c sz rows,by simp,λj hj=>X4 rows L j hj⟩
   .have⟨op,g1,g2⟩:=h2 p hp;exact⟨op,fF _ g1,g2⟩
  .intro hL hs p hp r hr;simp only[cC]at hL;simp only[all_cons,aG]at hs;obtain⟨e1,e2⟩:=ML (ol:=ol) rows L _ hL;simp only[cB,dF,aO]at hp;rcases hp with rfl |hp
   .simp only[bG,mem_map]at hr;obtain⟨q,hq,rfl⟩:=hr;exact e2 hs.1 q hq
   .exact h3 e1 hs.2 p hp r hr
end
theorem Rj(k:Nat):∀os:U (Nat×bp X),nq (rV os) k=(tz os k).map bG
 |[]=>rfl
 |(j,o)::r=>by
  simp only[rV,aF,nq,tz];split
  .rfl
  .exact Rj k r
theorem X5(f:Nat->Nat)(c:CT X.ι)(x:CT.T X.toSE c):fx f (CT.tv X.toSE c x).av=(CT.tv X.toSE c x).av:=(Bo f (.c c x)).symm
theorem aft(f:Nat->Nat)(o:bp X):bG (ox f o)=La f (bG o):=by
 cases o with
 |cells sz rows=>simp only[ox,bG,La,map_map];congr 1;exact map_congr_left λr _=>DR f r
 |da c l=>simp only[ox,bG,La,aL,map_map];congr 1;exact map_congr_left λr _=>(ah7 f _).symm
 |map kc vc l=>simp only[ox,bG,La,map_map];congr 1;exact map_congr_left λr _=>by simp only[Function.comp_apply,Av,X5]
theorem akY(i:Nat)(ae:U Nat)(os:U (Nat×bp X)):iA (OK i ae os)=ym i ae (rV os):=by
 simp only[OK,ym,uh];congr 1
 .simp only[iA,map_map];refine map_congr_left λp _=>?_;simp only[Function.comp_apply,Rj,Option.map_map];congr 1;cases tz os p.2<;>simp[aft]
 .simp only[iA,rV,List.filter_map,map_map];refine map_congr_left λq _=>?_;simp[aft]
theorem X6{ds:U (DV X)}:(∀ j∈refs (den (zx ds)),j∈aR ds)/\(qE (bM ds)->vY (den (zx ds))):=by
 match ds with
 |[]=>exact⟨λ j hj=>by simp[zx,den,bM,refs,eX]at hj,λ_=>by simp only[zx,den,vY];exact trivial⟩
 |[d]=>exact⟨λ j hj=>by simp only[zx,jc]at hj;simpa[aR]using hj,λh=>h.1⟩
 |d::e::r=>exact⟨λ j hj=>by simp only[zx,den,refs,iD]at hj;exact hj,λh=>h⟩
theorem acj:∀xs:U (Nat×bp X),dF (xs.map λp=>(p.1,some p.2))=xs
 |[]=>rfl
 |p::xs=>by simp only[aF,dF,acj xs]
theorem adJ{P:Program}{g:cH X}{F:FuncId}(hg:GE P F g){i:Nat}{first args caps:U (DV X)}{get:Nat->J (bp X)}{k:KK X A}{r:A}(h:ah8 g i (first++args++caps) get k=some r):
 ∃cm rd wr dv upd ab,lQ P i (den (.fn F first caps)) (bM args) cm (dJ rd (fE get))=some ab/\kE ab.obs/\ab.v=den dv/\ab.upd=iA upd/\(∀ p∈upd,p.1=cx i\/p.1∈wr)/\k dv upd rd wr=some r:=by
 unfold ah8 at h;rw[ai]at h;obtain⟨m1,h1,h⟩:=h;rw[ai]at h;obtain⟨m,h2,h⟩:=h;have⟨h3,h⟩:=dL h;rw[ai]at h;obtain⟨v,h4,h⟩:=h;have⟨h5,h⟩:=qF h;rw[ai]at h;obtain⟨rr,h6,h⟩:=h;simp only[aG]at h3;obtain⟨hok,BE⟩:=h3;simp only at h;generalize jz:(List.range g.io.length).map (qq m)=ae at h BE;simp only[cH.ok,aG,aJ]at hok;obtain⟨⟨⟨⟨n1,n2⟩,n3⟩,n4⟩,n5⟩:=hok;simp only[okG,aG,aJ]at BE;obtain⟨⟨hnd,hnm⟩,Bm⟩:=BE;have hlen:ae.length=g.io.length:=by rw[<- jz];simp
 have hi:∀q∈m.nm,ae[q.2]? =some q.1:=by
  intro q hq;have:=all_eq_true.1 hnm q hq;split at this
  .rename_i k' e;rw[e,Nat.eq_of_beq_eq_true this]
  .cases this
 have hv:∀k∈m.vr,k∉ae:=λk hk=>by
  have:=all_eq_true.1 Bm k hk;simpa using this
 have hrd:∀k,(∃ q,(k,q)∈m.nm)\/k∈m.vr->k∈ae++m.vr:=by
  rintro k (⟨q,hq⟩ |hk)
  .exact List.mem_append_left _ (cO (hi _ hq))
  .exact mem_append_right _ hk
 have hm2:=(mQ _ _ _ h2).1;have vl:=XP h4;obtain⟨_,nA,dA,lA⟩:=xA _ _ _ _ h1;simp only[bI]at dA;obtain⟨nB,dB,lB⟩:=Fb (NM:=m.nm) _ _ _ h2 (λ q hq=>hq);have hL:m.ek=nA++nB:=by rw[dB,dA]
 have hdrop:(xq _ v).drop (cI g.pn).length=nB:=by rw[vl,hL,<- lA,List.drop_left]
 have htake:(xq _ v).take (cI g.pn).length=nA:=by rw[vl,hL,<- lA,List.take_left]
 have ho:∀q∈m.nm,∀c l,get q.1=some (.da c l)->E5 g.io nB q.2=l.length:=by
  rintro⟨p,q⟩ hq c l hl;have hq2:=hi _ hq;have hqn:q<g.io.length:=by rw[<- hlen];exact(dh.1 hq2).1
  obtain⟨p',o,g1,g2,g3⟩:=lB [] q (by rw[n1];exact List.mem_range.2 hqn);have:p'=p:=by
   have e1:=hi _ g1;rw[hq2]at e1;injection e1 with e1;exact e1.symm
  subst this;simp only at hl;rw[hl]at g2;injection g2 with g2;have h3:=g3 c l g2.symm;rw[append_nil]at h3;have hk:=(Fe g.io nB).nodup (by rw[n1];exact List.nodup_range);simp only[E5,wh hk h3,Option.getD_some]
 obtain⟨R2,IR,ds',eA,⟨hs,obs,pA,qA⟩,rA⟩:=ze (P:=P) (ae:=ae) (rd:=ae++m.vr) (NM:=m.nm) (pD:=m.vr) (dg:=E5 g.io nB) hi hv hrd ho _ _ _ _ h1 (λ q hq=>hm2.1 q hq) (λ c hc=>h5 c (hm2.2.1 c hc)) (λ q hq=>hm2.2.2 q hq);obtain⟨R1,Wa,xs,eB,bs,mo,pB,qB,rB⟩:=Bp (P:=P) (ae:=ae) (rd:=ae++m.vr) (NM:=m.nm) (pD:=m.vr) (dg:=E5 g.io nB) hi hv hrd ho _ _ _ h2 (λ q hq=>hq) h5 (λ q hq=>hq);have V0:R2=nA:=by simp only[bI]at IR;rw[<- IR,dA]
 have VV:R1=nB:=List.append_cancel_left (Wa.symm.trans dB);subst V0 VV;have IN:=eA [];have IM:=eB [];rw[append_nil]at IN IM;have hargs:g.args v=ds':=by simp only[cH.args,XR,hdrop,htake,IN]
 have tx:g.cD v=xs:=by simp only[cH.cD,LN,hdrop,IM,acj]
 have S8:(g.io.map λp=>(ae[p.1]?).getD 0)=ae:=by
  have:(g.io.map λp=>(ae[p.1]?).getD 0)=(g.io.map (·.1)).map λj=>(ae[j]?).getD 0:=by rw[map_map];rfl
  rw[this,n1];refine List.ext_getElem (by simp[hlen]) λj a b=>?_;simp[bX b]
 rw[S8]at qB rB;have qA0:=qA [];rw[append_nil,iP,iP]at qA0;have hcon:=hg v rr h6;rw[hargs,tx]at hcon;obtain⟨s1,s2,s3⟩:=zD (ol:=E5 g.il ((xq (gA (ld 0 g.fj)++cC g.il) rr).drop (cI g.fj).length)) g.il ((xq _ rr).drop (cI g.fj).length);have A1:∀k,HA g.io.length k=true->AK ae.length k:=by
  intro k hk;simp only[HA,Bool.or_eq_true,aG,Nat.blt_eq,Nat.ble_eq]at hk;simp only[AK,hlen];exact hk
 have good:G3 ae.length (rV (g.outs rr)) (den (g.res rr)):=by
  refine⟨?_,?_,?_,?_⟩
  .intro q hq;simp only[rV,mem_map]at hq;obtain⟨p,hp,rfl⟩:=hq;have⟨op,g1,_⟩:=s2 p hp;have:=all_eq_true.1 n3 _ g1;simp only[aG]at this;exact A1 _ this.1
  .have:(rV (g.outs rr)).map (·.1)=(g.outs rr).map (·.1):=(by simp[rV]);rw[this];exact s1.nodup n4
  .intro q hq r' hr' j hj;simp only[rV,mem_map]at hq;obtain⟨p,hp,rfl⟩:=hq;have⟨op,g1,g2⟩:=s2 p hp;have:=all_eq_true.1 n3 _ g1;simp only[aG]at this;refine A1 _ (all_eq_true.1 this.2 j (g2 j ?_));obtain⟨pk,po⟩:=p;cases po with
   |cells sz rows=>exact OC (List.mem_flatMap.2 ⟨r',hr',hj⟩)
   |da c l=>
    simp only[bG,aL,mem_map]at hr';obtain⟨z,_,rfl⟩:=hr';rw[adH]at hj;simp at hj
   |map kc vc l=>
    simp only[bG,mem_map]at hr';obtain⟨z,_,rfl⟩:=hr';simp only[eX,Bj,append_nil]at hj;simp at hj
  .intro j hj;have:=(X6 (ds:=XR g.fj g.il (xq _ rr))).1 j hj;exact A1 _ (all_eq_true.1 n5 j (zC g.fj _ j this))
 have flat:g.flat=true->mS (rV (g.outs rr)) (den (g.res rr)):=by
  intro hf;simp only[cH.flat,aG]at hf;have hc:(xq (gA (ld 0 g.fj)++cC g.il) rr).map (·.c)=cI g.fj++cC g.il:=(ah9 _ rr).trans (by rw[Rb]);refine⟨(X6 (ds:=XR g.fj g.il (xq _ rr))).2 ?_,?_⟩
  .refine(DU (ol:=_) g.fj _ [] ?_ hf.1).1;rw[append_nil,map_take,hc,List.take_left]
  .intro q hq r' hr';simp only[rV,mem_map]at hq;obtain⟨p,hp,rfl⟩:=hq;exact s3 (by rw[map_drop,hc,List.drop_left]) hf.2 p hp r' hr'
 have cL:Xo (dJ (ae++m.vr) (fE get)) (bM first++bM args++bM caps) ae m.vr bs:=by
  refine⟨hv,λj hj hn=>?_,λj hs' q o e1 e2 e3 z hz hn=>?_⟩
  .rw[<- iP,<- iP,iD]at hj;rcases rA j hj with ⟨q,hq⟩ |hj
   .exact absurd (cO (hi _ hq)) hn
   .exact hj
  .rcases rB j hs' q o e1 e2 e3 z hz with ⟨q',hq⟩ |hz
   .exact absurd (cO (hi _ hq)) hn
   .exact hz
 refine⟨.tE ae m.vr bs hs (rV (g.outs rr)) (den (g.res rr)) g.flat,ae++m.vr,_,_,_,
  ⟨fx (cn i ae) (den (g.res rr)),ym i ae (rV (g.outs rr))++(if g.flat then []else m.vr.map λk=>(k,none)),obs++mo++[yy P F (bM ds') (xs.map λp=>bG p.2) (rV (g.outs rr)) (den (g.res rr)),G3 ae.length (rV (g.outs rr)) (den (g.res rr)),Xo (dJ (ae++m.vr) (fE get)) (bM first++bM args++bM caps) ae m.vr bs]++(if g.flat then [mS (rV (g.outs rr)) (den (g.res rr))]else [])⟩,?_,?_,(Bo _ _).symm,?_,?_,h⟩
 .simp only[den,lQ,Od,qB,qA0,af];rw[aT ⟨hnd,by omega⟩]
 .refine sK _ (gZ (gZ (gZ pA pB) ?_) ?_)
  .intro z hz;simp only[aO,fM,or_false]at hz;rcases hz with rfl |rfl |rfl
   .exact hcon
   .exact good
   .exact cL
  .intro z hz;cases hf:g.flat with
   |true=>rw[hf]at hz;simp only[if_true,aY]at hz;subst hz;exact flat hf
   |false=>rw[hf]at hz;simp at hz
 .simp only[uh,akY];congr 1;cases g.flat with
  |true=>rfl
  |false=>exact(DJ m.vr).symm
 .intro p hp;refine .inr ?_;rcases bg.1 hp with hp |hp
  .exact List.mem_append_left _ (mem_append_right _ (mem_map.2 ⟨p,hp,rfl⟩))
  .cases hf:g.flat with
   |true=>rw[hf]at hp;simp at hp
   |false=>
    rw[hf]at hp;simp only[Bool.false_eq_true,if_false,mem_map]at hp;obtain⟨z,hz,rfl⟩:=hp;exact mem_append_right _ hz
end
section
variable {X:SX} {A:Type}
def X7:RT X.ι->Bool
 | .d c=>yx c
 | .fresh e=>yx e
 | .whole _=>true
 | .mu c=>yx c
 | .mr c=>yx c
 | .mv=>true
theorem afu{c:CT X.ι}(h:yx c=true)(x:CT.T X.toSE c):(CT.tv X.toSE c x).flat:=by
 cases c
 case st i=>exact wo h x
 all_goals first |exact trivial |cases h
theorem X8{ns:U Nat}{q:RT X.ι}{x:RT.T X q}(h:X7 q=true):∀c∈XT ns q x,c.flat:=by
 intro c hc;cases q<;>simp only[XT,aY,fM]at hc
 case d c=>subst hc;exact afu h x
 case fresh e=>
  subst hc;intro row hr;obtain⟨y,_,rfl⟩:=mem_map.1 hr;exact wo h y
 case whole j=>subst hc;exact trivial
theorem Ub{ns:U Nat}:∀{l:U (RT X.ι)}{x:uF X l},l.all X7=true->∀c∈Cj ns l x,c.flat
 |[],x,_,c,hc=>by simp[Cj]at hc
 |[q],x,h,c,hc=>X8 (by simpa using h) c hc
 |q::q'::l,x,h,c,hc=>by
  simp only[all_cons,aG]at h;simp only[Cj,bg]at hc;rcases hc with hc |hc
  .exact X8 h.1 c hc
  .exact Ub (by simp only[all_cons,aG];exact h.2) c hc
theorem X9{l:U (RT X.ι)}(x:uF X l)(h:l.all X7=true):(uJ l x).flat:=by
 have:=Ub (ns:=yr l x) (x:=x) h;unfold uJ;split
 .rename_i c hc;exact this c (by rw[hc];simp)
 .exact this
theorem ack{q:RT X.ι}{x:RT.T X q}(h:X7 q=true):Xd (rq q x):=by
 intro p hp;cases q<;>simp only[rq,aY,fM,ay,reduceCtorEq]at hp
 case mu c=>
  subst hp;intro r hr;obtain⟨y,_,rfl⟩:=mem_map.1 hr;exact wo h y
 case mr c=>
  subst hp;intro r hr;obtain⟨y,_,rfl⟩:=mem_map.1 hr;exact wo h y
theorem acn:∀{l:U (RT X.ι)}{x:uF X l},l.all X7=true->Xd (oO l x)
 |[],x,_=>λp hp=>by simp[oO]at hp
 |[q],x,h=>ack (q:=q) (by simpa using h)
 |q::q'::l,x,h=>by
  simp only[all_cons,aG]at h;intro p hp;rcases bg.1 (show some p∈rq q x.1++oO (q'::l) x.2 from hp)with hp |hp
  .exact ack h.1 p hp
  .exact acn (l:=q'::l) (by simp only[all_cons,aG];exact h.2) p hp
def Jb(i:Nat)(ae ns:U Nat):(q:RT X.ι)->RT.T X q->U (DV X)×List (Nat×Option (bp X))
 | .d c,x=>([.c c x],[])
 | .fresh e,l=>([.own (cx i) 0 l.length],[(cx i,some (.da e l))])
 | .whole j,_=>([match ae[j]? with |some k=> .own k 0 (ns.getD j 0) |none=> .undef],[])
 |_,_=>([],[])
def Mh(i:Nat)(ae ns:U Nat):(l:U (RT X.ι))->uF X l->J (List (DV X)×List (Nat×Option (bp X)))
 |[],_=>some ([],[])
 |[q],x=>some (Jb i ae ns q x)
 |q::q'::l,x=>(Mh i ae ns (q'::l) x.2).bind λp=>if (Jb i ae ns q x.1).2.isEmpty || p.2.isEmpty then some ((Jb i ae ns q x.1).1++p.1,(Jb i ae ns q x.1).2++p.2)else none
def aq2:U (DV X)->DV X
 |[d]=>d
 |ds=> .eC ds
def Gk(i:Nat)(ae:U Nat)(l:U (RT X.ι))(x:uF X l):J (DV X×List (Nat×Option (bp X))):=
 (Mh i ae (yr l x) l x).bind λp=>some (aq2 p.1,p.2)
theorem adK(u:U (Nat×Option (bp X))):(iA u).isEmpty=u.isEmpty:=by cases u<;>rfl
theorem aco(i:Nat)(ae ns:U Nat)(q:RT X.ι)(x:RT.T X q):(∃ c,XT ns q x=[c]/\∃d,(Jb i ae ns q x).1=[d]/\K9 i ae c=(den d,iA (Jb i ae ns q x).2))\/(XT ns q x=[]/\Jb i ae ns q x=([],[])):=by
 cases q
 case d c=>exact .inl ⟨_,rfl,_,rfl,rfl⟩
 case fresh e=>exact .inl ⟨_,rfl,_,rfl,by simp[K9,Jb,den,iA,bG,aL]⟩
 case whole j=>
  refine .inl ⟨_,rfl,_,rfl,?_⟩;simp only[K9,iA,Jb,map_nil,Prod.mk.injEq,and_true];cases ae[j]?<;>rfl
 all_goals exact .inr ⟨rfl,rfl⟩
theorem afv(i:Nat)(ae:U Nat)(c:RC):NZ i ae [c]=some ([(K9 i ae c).1],(K9 i ae c).2):=by simp[NZ]
theorem acp(i:Nat)(ae ns:U Nat):∀(l:U (RT X.ι))(x:uF X l)(p:U (DV X)×List (Nat×Option (bp X))),Mh i ae ns l x=some p->NZ i ae (Cj ns l x)=some (bM p.1,iA p.2)
 |[],_,p,h=>by simp only[Mh,ay]at h;subst h;rfl
 |[q],x,p,h=>by
  simp only[Mh,ay]at h;subst h;simp only[Cj];rcases aco i ae ns q x with ⟨c,h1,d,h2,h3⟩ |⟨h1,h2⟩
  .rw[h1,afv,h2,h3];simp[bM]
  .rw[h1,h2];rfl
 |q::q'::l,x,p,h=>by
  simp only[Mh]at h;rw[ai]at h;obtain⟨p',h1,h⟩:=h;have ih:=acp i ae ns (q'::l) x.2 p' h1;split at h
  .rename_i hc;cases h;simp only[Cj];rcases aco i ae ns q x.1 with ⟨c,h1,d,h2,h3⟩ |⟨h1,h2⟩
   .rw[h1];simp only[List.singleton_append,NZ,ih,af,h3,adK];rw[aT hc,h2];simp[bM,iA]
   .rw[h1,h2];simp only[bI];exact ih
  .cases h
theorem afw{i:Nat}{ae:U Nat}{l:U (RT X.ι)}{x:uF X l}{p:DV X×List (Nat×Option (bp X))}(h:Gk i ae l x=some p):imp i ae (uJ l x)=some (den p.1,iA p.2):=by
 unfold Gk at h;rw[ai]at h;obtain⟨p',h1,h⟩:=h;cases h;have ih:=acp i ae _ l x p' h1;unfold uJ;split
 .rename_i c hc;rw[hc,afv]at ih;simp only[ay,Prod.mk.injEq]at ih;obtain⟨ds,u⟩:=p'
  match ds,ih with
  |[d],ih=>
   simp only[bM,List.cons.injEq,and_true]at ih;simp only[imp,aq2,<- ih.1,<- ih.2]
  |[],ih=>simp[bM]at ih
  |_::_::_,ih=>simp[bM]at ih
 .rename_i hne;simp only[imp,ih,af];obtain⟨ds,u⟩:=p'
  match ds,ih with
  |[],_=>rfl
  |_::_::_,_=>rfl
  |[d],ih=>
   exfalso;generalize hcs:Cj (yr l x) l x=cs at ih hne
   match cs,ih,hne with
   |[],ih,_=>simp[NZ,bM]at ih
   |[c],_,hne=>exact hne c rfl
   |c::c'::cs,ih,_=>
    simp only[NZ]at ih;cases h3:NZ i ae cs with
    |none=>rw[h3]at ih;simp at ih
    |some q=>
     rw[h3]at ih;simp only[af]at ih;split at ih
     .simp only[af]at ih;split at ih
      .simp[bM]at ih
      .cases ih
     .simp at ih
def No:(q:RT X.ι)->RT.T X q->U (Option (bp X))
 | .mu c,x=>[some (.da c x)]
 | .mr c,x=>[some (.cells (CT.sz X c) [wm c x])]
 | .mv,_=>[none]
 |_,_=>[]
def Ya:(l:U (RT X.ι))->uF X l->U (Option (bp X))
 |[],_=>[]
 |[q],x=>No q x
 |q::q'::l,x=>No q x.1++Ya (q'::l) x.2
def Jc:U Nat->U (Option (bp X))->U (Nat×Option (bp X))
 |k::ae,p::os=>(k,p)::Jc ae os
 |_,_=>[]
theorem afx(q:RT X.ι)(x:RT.T X q):(No q x).map (·.map bG)=(rq q x).map (·.map gj):=by
 cases q<;>try rfl
 case mr c=>simp only[No,rq,aF,map_nil,Option.map_some,bG,gj,tQ,aL,nV]
theorem Rk:∀(l:U (RT X.ι))(x:uF X l),(Ya l x).map (·.map bG)=(oO l x).map (·.map gj)
 |[],_=>rfl
 |[q],x=>afx q x
 |q::q'::l,x=>by simp only[Ya,oO,map_append,afx,Rk (q'::l) x.2]
theorem acr:∀(ae:U Nat)(os:U (Option (bp X)))(os':U (Option fe)),os.map (·.map bG)=os'.map (·.map gj)->iA (Jc ae os)=Ce ae os'
 |[],_,_,_=>by simp[Jc,Ce,iA]
 |_::_,[],[],_=>rfl
 |k::ae,p::os,p'::os',h=>by
  simp only[aF,List.cons.injEq]at h;have:=acr ae os os' h.2;simp only[iA]at this;simp only[Jc,Ce,iA,aF,h.1,this]
 |_::_,[],_::_,h=>by simp at h
 |_::_,_::_,[],h=>by simp at h
theorem MN:∀{ae:U Nat}{os:U (Option (bp X))}{p:Nat×Option (bp X)},p∈Jc ae os->p.1∈ae
 |[],_,_,h=>by simp[Jc]at h
 |_::_,[],_,h=>by simp[Jc]at h
 |k::ae,q::os,p,h=>by
  simp only[Jc,aO]at h;rcases h with rfl |h
  .simp
  .exact fF _ (MN h)
def adL(get:Nat->J (bp X))(d:DV X)(c:CT X.ι):J (List (CT.T X.toSE c)×Nat×List Bool):=
 match d with
 | .own k 0 len=>(get k).bind λo=>match o with
  | .da b l=>(gF (.sl b) (.sl c) l).bind λ(l:List (CT.T X.toSE c))=>some (l,k,[be len (List.length l)])
  |_=>none
 |_=>none
def Yb(get:Nat->J (bp X))(d:DV X)(c:CT X.ι):J (CT.T X.toSE c×Nat):=
 match d with
 | .ptr k 0 0=>(get k).bind λo=>match o with
  | .cells sz [row]=>if sz=CT.sz X c then(Ot c row).bind λx=>some (x,k)else none
  |_=>none
 |_=>none
def qh(Γ:FuncId->J (bz X))(get:Nat->J (bp X)):U (DV X)->(l:U (AT X.ι))->J (je X l×List Nat×List Bool)
 |[],[]=>some ((),[],[])
 |d::ds,.mut c::l=>(adL get d c).bind λx=>(qh Γ get ds l).bind λh=>some ((x.1,h.1),x.2.1::h.2.1,x.2.2++h.2.2)
 |d::ds,.i7 c::l=>(Yb get d c).bind λx=>(qh Γ get ds l).bind λh=>some ((x.1,h.1),x.2::h.2.1,h.2.2)
 |d::ds,.d c::l=>(TW Γ get 3 [d] [.d c]).bind λx=>(qh Γ get ds l).bind λh=>some ((x.1.1,h.1),h.2.1,x.2++h.2.2)
 |d::ds,.ref c::l=>(TW Γ get 3 [d] [.ref c]).bind λx=>(qh Γ get ds l).bind λh=>some ((x.1.1,h.1),h.2.1,x.2++h.2.2)
 |d::ds,.du as r::l=>(TW Γ get 3 [d] [.du as r]).bind λx=>(qh Γ get ds l).bind λh=>some ((x.1.1,h.1),h.2.1,x.2++h.2.2)
 |d::ds,.nil::l=>match d with
  | .nil=>(qh Γ get ds l).bind λh=>some (((),h.1),h.2.1,h.2.2)
  |_=>none
 |_,_=>none
def KL:U (DV X)->U (AT X.ι)->U Nat
 |d::ds,a::l=>(if a.im then []else bm d)++KL ds l
 |_,_=>[]
def Rl(get:Nat->J (bp X)):U (DV X)->(l:U (CT X.ι))->J (HL X.toSE l×List Bool)
 |[],[]=>some ((),[])
 |d::ds,c::l=>(Gs get d c).bind λx=>(Rl get ds l).bind λh=>some ((x.1,h.1),x.2++h.2)
 |_,_=>none
variable (Γ:FuncId->Option (bz X))
def Zs(i:Nat)(f:DV X)(args:U (DV X))(get:Nat->J (bp X))(k:KK X A):J A:=
 match f with
 | .fn F first caps=>(Γ F).bind λs=>match s.gen.filter λg=>(sg get g.pn (first++args++caps) ⟨[],[],[],[]⟩).isSome with
  |some g=>ah8 g i (first++args++caps) get k
  |none=>if (s.args.all (λ q=>q.pl)&&s.res.all (λ q=>!q.out))=true then(TW Γ get 3 (first++args++caps) s.args).bind λa=>XE a.2 ((s.fn a.1).bind λx=>(Gk i [] s.res x).bind λp=>
   if s.res.all X7 then k p.1 p.2 (aR (first++args++caps)) []
   else k p.1 (p.2++Oz (aR (first++args++caps))) (aR (first++args++caps)) (aR (first++args++caps)))
  else(qh Γ get (first++args++caps) s.args).bind λa=>XE a.2.2 ((s.fn a.1).bind λx=>(Gk i a.2.1 s.res x).bind λp=>
   if (decide a.2.1.Nodup&&(KL (first++args++caps) s.args).all (λ j=>!a.2.1.contains j)&&decide ((Ya s.res x).length=a.2.1.length))=true then
    if s.res.all X7 then k p.1 (p.2++Jc a.2.1 (Ya s.res x)) (aR (first++args++caps)) a.2.1
    else k p.1 (p.2++(Jc a.2.1 (Ya s.res x)++Oz ((aR (first++args++caps)).filter λj=>!a.2.1.contains j))) (aR (first++args++caps)) (a.2.1++(aR (first++args++caps)).filter λj=>!a.2.1.contains j)
   else none)
 | .du as q φ=>(Rl get args as).bind λh=>XE h.2 ((φ h.1).bind λy=>
  if yx q then k (.c q y) [] (aR args) []else k (.c q y) (Oz (aR args)) (aR args) (aR args))
 |_=>none
def DQ(fz:U Nat)(T:dC)(an:TypeId->J (CT X.ι))(i:Nat)(o:Op)(ρ:Operand->DV X)(get:Nat->J (bp X))(k:KK X A):J A:=
 match o with
 | .call { callee:= .value f,args:=args,argTypes:=_ }=>Zs Γ i (ρ f) (args.toList.map ρ) get k
 |o=>if aqY o ρ then WF T an i o ρ get k else if aqZ o ρ || fz.contains i then WD T an i o ρ get k else if aq1 o ρ then Wk T i o ρ get k else if aq0 T o ρ then Wr T an o ρ get k else Mn T an i o ρ get k
variable {Γ}
theorem OD{P:Program}{get:Nat->J (bp X)}{rd:U Nat}:∀{ds:U (DV X)}{l:U (CT X.ι)}{h:HL X.toSE l×List Bool},Rl get ds l=some h->(∀ b∈h.2,b=true)->(∀ j∈aR ds,j∈rd)->
 ∃hs obs,(∀ p∈obs,p)/\∀ag,mZ P (dJ rd (fE get)) (bM ds) (hs++ag)=some ((HL.nh X.toSE l h.1).map TV.av,ag,obs)
 |[],[],h,_,_,_=>⟨[],[],by simp,λag=>rfl⟩
 |d::ds,c::l,h,hr,hc,hrd=>by
  simp only[Rl]at hr;have⟨x,h1,hr⟩:=ai.1 hr;have⟨g,h2,hr⟩:=ai.1 hr;cases hr;obtain⟨hs1,o1,p1,q1⟩:=Bl (P:=P) (rd:=rd) h1 (λ b hb=>hc b (by simp[hb])) (λ j hj=>hrd j (by simp[aR,hj]));obtain⟨hs2,o2,p2,q2⟩:=OD (P:=P) (rd:=rd) h2 (λ b hb=>hc b (by simp[hb])) (λ j hj=>hrd j (by simp[aR,hj]));refine⟨hs1++hs2,o1++o2,gZ p1 p2,λag=>?_⟩;simp only[bM,mZ,aM,q1,af,q2];rfl
 |[],_::_,_,hr,_,_=>by simp[Rl]at hr
 |_::_,[],_,hr,_,_=>by simp[Rl]at hr
theorem Yc{i:Nat}{ae ns:U Nat}{q:RT X.ι}{x:RT.T X q}:∀p∈(Jb i ae ns q x).2,p.1=cx i:=by cases q<;>simp[Jb]
theorem Yd{i:Nat}{ae ns:U Nat}:∀{l:U (RT X.ι)}{x:uF X l}{p:U (DV X)×List (Nat×Option (bp X))},Mh i ae ns l x=some p->∀q∈p.2,q.1=cx i
 |[],_,p,h=>by simp only[Mh,ay]at h;subst h;simp
 |[q],x,p,h=>by simp only[Mh,ay]at h;subst h;exact Yc
 |q::q'::l,x,p,h=>by
  simp only[Mh]at h;have⟨p',h1,h⟩:=ai.1 h;split at h
  .cases h;intro z hz;rcases bg.1 hz with hz |hz
   .exact Yc z hz
   .exact Yd h1 z hz
  .cases h
theorem acs{i:Nat}{ae:U Nat}{l:U (RT X.ι)}{x:uF X l}{p:DV X×List (Nat×Option (bp X))}(h:Gk i ae l x=some p):∀q∈p.2,q.1=cx i:=by
 unfold Gk at h;have⟨p',h1,h⟩:=ai.1 h;cases h;exact Yd h1
theorem Jd{P:Program}{get:Nat->J aS}{x:AV}{hs ag:U LH}{y:AV}{o:U Prop}(h:mZ P get [x] hs=some ([y],ag,o)):oM P get x hs=some (y,ag,o):=by
 simp only[mZ,af,append_nil,ai,ay,Prod.mk.injEq,List.cons.injEq,and_true]at h;obtain⟨q,h1,h2,h3,h4⟩:=h;rw[h1,<- h2,<- h3,<- h4]
theorem lV{d:DV X}{ds:U (DV X)}{a:AT X.ι}{l:U (AT X.ι)}{P:Nat->Prop}(h:∀j∈KL (d::ds) (a::l),P j):(a.im=false->∀j∈bm d,P j)/\∀j∈KL ds l,P j:=by
 simp only[KL,bg]at h;exact⟨λ e j hj=>h j (.inl (by rw[e];simpa using hj)),λj hj=>h j (.inr hj)⟩
theorem aqj{c:CT X.ι}{l:U (CT.T X.toSE c)}:eu ((aL (l.map (CT.row X.toSE c))).take (l.map (CT.row X.toSE c)).length)=aL (l.map (CT.row X.toSE c)):=by
 rw[List.take_of_length_le (by simp[aL])];simp only[eu,aL,map_map];exact map_congr_left λy _=>by
  simp only[Function.comp,map_map];exact map_congr_left λz _=>rfl
theorem aa1{get:Nat->J (bp X)}{d:DV X}{c:CT X.ι}{x:U (CT.T X.toSE c)×Nat×List Bool}(h:adL get d c=some x)(hc:∀b∈x.2.2,b=true):
 d= .own x.2.1 0 (List.length x.1)/\∃o,get x.2.1=some o/\(bG o).sz=(tQ c x.1).1/\eu ((bG o).rows.take (tQ c x.1).2.length)=aL (tQ c x.1).2:=by
 unfold adL at h;split at h
 .rename_i k len;rw[ai]at h;obtain⟨o,h1,h⟩:=h;split at h
  .rename_i b l;rw[ai]at h;obtain⟨l',h2,h⟩:=h;cases h;have⟨h3,h4⟩:=jw h2;have h5:len=List.length l':=(by simpa[be]using hc (be len (List.length l')) (by simp));refine⟨by rw[h5],.da b l,h1,by simp only[bG,tQ];exact h3,?_⟩;simp only[bG,tQ,h4];exact aqj
  .cases h
 .cases h
theorem Ye{get:Nat->J (bp X)}{d:DV X}{c:CT X.ι}{x:CT.T X.toSE c×Nat}(h:Yb get d c=some x):
 d= .ptr x.2 0 0/\∃o,get x.2=some o/\(bG o).sz=(tQ c [x.1]).1/\eu ((bG o).rows.take (tQ c [x.1]).2.length)=aL (tQ c [x.1]).2:=by
 unfold Yb at h;split at h
 .rename_i k;rw[ai]at h;obtain⟨o,h1,h⟩:=h;split at h
  .rename_i sz row;split at h
   .rename_i hsz;have⟨y,h2,h⟩:=ai.1 h;cases h;refine⟨rfl,_,h1,by simp only[bG,tQ];exact hsz,?_⟩;simp only[bG,tQ,aF,map_nil,List.length_singleton,List.take_succ_cons,List.take_zero,eu,aL];rw[za h2]
   .cases h
  .cases h
 .cases h
theorem nW{P:Program}{Γ:FuncId->J (bz X)}(hΓ:sA P Γ){get:Nat->J (bp X)}{rd ae:U Nat}:∀{n:Nat}{ds:U (DV X)}{l:U (AT X.ι)}{a:je X l×List Nat×List Bool},qh Γ get ds l=some a->(∀ b∈a.2.2,b=true)->(∀ j∈aR ds,j∈rd)->(∀ j∈KL ds l,j∉ae)->ae.drop n=a.2.1->
 (∃ hs obs,(∀ p∈obs,p)/\∀ag,mM P (dJ rd (fE get)) ae (bM ds) (hs++ag)=some (dN n l a.1,ag,obs))/\∃mo,Cc (dJ rd (fE get)) a.2.1 (rf l a.1)=some mo/\∀p∈mo,p
 |n,[],[],a,h,_,_,_,_=>by
  simp only[qh,ay]at h;subst h;exact⟨⟨[],[],by simp,λag=>rfl⟩,[],rfl,by simp⟩
 |n,d::ds,.mut c::l,a,h,hc,hrd,hnr,hid=>by
  simp only[qh]at h;have⟨x,h1,h⟩:=ai.1 h;have⟨q,h2,h⟩:=ai.1 h;cases h;obtain⟨rfl,o,g1,g2,g3⟩:=aa1 h1 (λ b hb=>hc b (by simp[hb]));have B7:ae[n]? =some x.2.1:=by rw[<- List.head?_drop,hid];rfl
  have B8:ae.drop (n+1)=q.2.1:=by rw[<- List.tail_drop,hid];rfl
  obtain⟨⟨hs,obs,p1,p2⟩,mo,m1,m2⟩:=nW hΓ (n:=n+1) h2 (λ b hb=>hc b (by simp[hb])) (λ j hj=>hrd j (by simp[aR,hj])) (lV hnr).2 B8;refine⟨⟨.mut n::hs,obs,p1,λag=>?_⟩,((bG o).sz=(tQ c x.1).1/\eu ((bG o).rows.take (tQ c x.1).2.length)=aL (tQ c x.1).2)::mo,?_,?_⟩
  .simp only[bM,den,mM,cons_append,qf,B7,if_true,af,p2,dN,bI]
  .simp only[rf,Cc,dS (hrd x.2.1 (by simp[aR,bm])) g1,af,m1]
  .intro p hp;rcases aO.1 hp with rfl |hp
   .exact⟨g2,g3⟩
   .exact m2 p hp
 |n,d::ds,.i7 c::l,a,h,hc,hrd,hnr,hid=>by
  simp only[qh]at h;have⟨x,h1,h⟩:=ai.1 h;have⟨q,h2,h⟩:=ai.1 h;cases h;obtain⟨rfl,o,g1,g2,g3⟩:=Ye h1;have B7:ae[n]? =some x.2:=by rw[<- List.head?_drop,hid];rfl
  have B8:ae.drop (n+1)=q.2.1:=by rw[<- List.tail_drop,hid];rfl
  obtain⟨⟨hs,obs,p1,p2⟩,mo,m1,m2⟩:=nW hΓ (n:=n+1) h2 (λ b hb=>hc b (by simp[hb])) (λ j hj=>hrd j (by simp[aR,hj])) (lV hnr).2 B8;refine⟨⟨.mut n::hs,obs,p1,λag=>?_⟩,((bG o).sz=(tQ c [x.1]).1/\eu ((bG o).rows.take (tQ c [x.1]).2.length)=aL (tQ c [x.1]).2)::mo,?_,?_⟩
  .simp only[bM,den,mM,cons_append,qf,B7,if_true,af,p2,dN,bI]
  .simp only[rf,Cc,dS (hrd x.2 (by simp[aR,bm])) g1,af,m1]
  .intro p hp;rcases aO.1 hp with rfl |hp
   .exact⟨g2,g3⟩
   .exact m2 p hp
 |n,d::ds,.d c::l,a,h,hc,hrd,hnr,hid=>by
  simp only[qh]at h;have⟨x,h1,h⟩:=ai.1 h;have⟨q,h2,h⟩:=ai.1 h;cases h;obtain⟨hs1,o1,p1,q1⟩:=ug (P:=P) hΓ 3 (n:=n) h1 (λ b hb=>hc b (by simp[hb])) (rd:=rd) (λ j hj=>hrd j (by simp only[aR,append_nil]at hj;simp[aR,hj]));obtain⟨⟨hs,obs,p2,q2⟩,mo,m1,m2⟩:=nW hΓ (n:=n) h2 (λ b hb=>hc b (by simp[hb])) (λ j hj=>hrd j (by simp[aR,hj])) (lV hnr).2 hid;refine⟨⟨wx (den d) hs1++hs,o1++obs,gZ p1 p2,λag=>?_⟩,mo,m1,m2⟩;have:=zb (Jd (q1 (hs++ag))) (λ k hk=>(lV hnr).1 rfl k (by rwa [jc]at hk));rw[OA]at this;simp only[bM,mM,aM,this,af,q2,dN]
 |n,d::ds,.ref c::l,a,h,hc,hrd,hnr,hid=>by
  simp only[qh]at h;have⟨x,h1,h⟩:=ai.1 h;have⟨q,h2,h⟩:=ai.1 h;cases h;obtain⟨hs1,o1,p1,q1⟩:=ug (P:=P) hΓ 3 (n:=n) h1 (λ b hb=>hc b (by simp[hb])) (rd:=rd) (λ j hj=>hrd j (by simp only[aR,append_nil]at hj;simp[aR,hj]));obtain⟨⟨hs,obs,p2,q2⟩,mo,m1,m2⟩:=nW hΓ (n:=n) h2 (λ b hb=>hc b (by simp[hb])) (λ j hj=>hrd j (by simp[aR,hj])) (lV hnr).2 hid;refine⟨⟨wx (den d) hs1++hs,o1++obs,gZ p1 p2,λag=>?_⟩,mo,m1,m2⟩;have:=zb (Jd (q1 (hs++ag))) (λ k hk=>(lV hnr).1 rfl k (by rwa [jc]at hk));rw[OA]at this;simp only[bM,mM,aM,this,af,q2,dN]
 |n,d::ds,.du as r::l,a,h,hc,hrd,hnr,hid=>by
  simp only[qh]at h;have⟨x,h1,h⟩:=ai.1 h;have⟨q,h2,h⟩:=ai.1 h;cases h;obtain⟨hs1,o1,p1,q1⟩:=ug (P:=P) hΓ 3 (n:=n) h1 (λ b hb=>hc b (by simp[hb])) (rd:=rd) (λ j hj=>hrd j (by simp only[aR,append_nil]at hj;simp[aR,hj]));obtain⟨⟨hs,obs,p2,q2⟩,mo,m1,m2⟩:=nW hΓ (n:=n) h2 (λ b hb=>hc b (by simp[hb])) (λ j hj=>hrd j (by simp[aR,hj])) (lV hnr).2 hid;refine⟨⟨wx (den d) hs1++hs,o1++obs,gZ p1 p2,λag=>?_⟩,mo,m1,m2⟩;have:=zb (Jd (q1 (hs++ag))) (λ k hk=>(lV hnr).1 rfl k (by rwa [jc]at hk));rw[OA]at this;simp only[bM,mM,aM,this,af,q2,dN]
 |n,d::ds,.nil::l,a,h,hc,hrd,hnr,hid=>by
  simp only[qh]at h;split at h
  .have⟨q,h2,h⟩:=ai.1 h;cases h;obtain⟨⟨hs,obs,p2,q2⟩,mo,m1,m2⟩:=nW hΓ (n:=n) h2 hc (λ j hj=>hrd j (by simp[aR,hj])) (lV hnr).2 hid;refine⟨⟨.nil::hs,obs,p2,λag=>?_⟩,mo,m1,m2⟩;have:=zb (P:=P) (get':=dJ rd (fE get)) (ae:=ae) (x:= .cM) (hs:= .nil::(hs++ag)) (p:=(.cM,hs++ag,[])) rfl (λ k hk=>by simp[refs]at hk);simp only[wx]at this;simp only[bM,den,mM,cons_append,this,af,q2,dN,bI]
  .cases h
 |_,[],_::_,_,h,_,_,_,_=>by simp[qh]at h
 |_,_::_,[],_,h,_,_,_,_=>by simp[qh]at h
theorem afy{P:Program}(hΓ:sA P Γ){i:Nat}{f:DV X}{args:U (DV X)}{get:Nat->J (bp X)}{k:KK X A}{r:A}(h:Zs Γ i f args get k=some r):
 ∃cm rd wr dv upd ab,lQ P i (den f) (bM args) cm (dJ rd (fE get))=some ab/\kE ab.obs/\ab.v=den dv/\ab.upd=iA upd/\(∀ p∈upd,p.1=cx i\/p.1∈wr)/\k dv upd rd wr=some r:=by
 unfold Zs at h;split at h
 .rename_i F first caps
  rw[ai]at h;obtain⟨s,h1,h⟩:=h;split at h
  .rename_i g hgen;exact adJ ((hΓ F s h1).2.2 g (Option.filter_eq_some_iff.1 hgen).1) h
  split at h
  .rename_i hpure;rw[ai]at h;obtain⟨⟨a,cs⟩,h2,h⟩:=h;have⟨hcs,h⟩:=qF h;rw[ai]at h;obtain⟨x,h3,h⟩:=h;rw[ai]at h;obtain⟨p,h4,h⟩:=h;have hf0:=(hΓ F s h1).2.1 a x h3;simp only[aG]at hpure;rw[zA (aqV hpure.1),afj hpure.2]at hf0;have hf:=Xz hf0;have hi:=afw h4;have hk:=acs h4;obtain⟨hs,obs,g1,g2⟩:=ug (P:=P) hΓ 3 h2 hcs (rd:=aR (first++args++caps)) (λ j hj=>hj);have g3:=g2 [];rw[append_nil,iP,iP]at g3;have hrefs:eX (bM first++bM args++bM caps)=aR (first++args++caps):=(by rw[<- iP,<- iP,iD]);split at h
   .rename_i hfl;refine⟨.call hs (uJ s.res x) true,_,[],p.1,p.2,⟨den p.1,iA p.2,obs++[tf P F (zy s.args a) (uJ s.res x),(uJ s.res x).flat]⟩,?_,?_,rfl,rfl,λq hq=> .inl (hk q hq),h⟩
    .simp only[den,lQ,rU,Be,hi,af,g3];rfl
    .exact sK _ (gZ g1 (by
      intro q hq;simp only[aO,fM,or_false]at hq;rcases hq with rfl |rfl
      .exact hf
      .exact X9 x hfl))
   .refine⟨.call hs (uJ s.res x) false,_,_,p.1,_,⟨den p.1,iA p.2++(aR (first++args++caps)).map (λ k=>(k,none)),obs++[tf P F (zy s.args a) (uJ s.res x)]⟩,?_,?_,rfl,?_,?_,h⟩
    .simp only[den,lQ,rU,Be,hi,af,g3,hrefs];rfl
    .exact sK _ (gZ g1 (by
      intro q hq;simp only[aY]at hq;subst hq;exact hf))
    .simp only[uh,DJ]
    .intro q hq;rcases bg.1 hq with hq |hq
     .exact .inl (hk q hq)
     .exact .inr (KH hq)
  .rename_i hpure;rw[ai]at h;obtain⟨⟨a,ae,cs⟩,h2,h⟩:=h;have⟨hcs,h⟩:=qF h;rw[ai]at h;obtain⟨x,h3,h⟩:=h;rw[ai]at h;obtain⟨p,h4,h⟩:=h;split at h
   .rename_i hc;simp only[aG,aJ]at hc;obtain⟨⟨hnd,hnr⟩,hlen⟩:=hc;have hf:=(hΓ F s h1).2.1 a x h3;have hi:=afw h4;have hk:=acs h4;obtain⟨⟨hs,obs,g1,g2⟩,mo,m1,m2⟩:=nW (P:=P) hΓ (rd:=aR (first++args++caps)) (ae:=ae) (n:=0) h2 hcs (λ j hj=>hj) (λ j hj=>by simpa using all_eq_true.1 hnr j hj) rfl;have g3:=g2 [];rw[append_nil,iP,iP]at g3;have hrefs:eX (bM first++bM args++bM caps)=aR (first++args++caps):=(by rw[<- iP,<- iP,iD]);have hlen':(oO s.res x).length=ae.length:=by
     rw[<- hlen];simpa using (congrArg List.length (Rk s.res x)).symm
    have hout:iA (Jc ae (Ya s.res x))=Ce ae (oO s.res x):=acr _ _ _ (Rk s.res x);split at h
    .rename_i hfl;refine⟨.tD ae (rf s.args a) (oO s.res x) hs (uJ s.res x) true,_,ae,p.1,_,⟨den p.1,iA p.2++Ce ae (oO s.res x),obs++mo++[p6 P F (zy s.args a) (rf s.args a) (oO s.res x) (uJ s.res x),(uJ s.res x).flat,Xd (oO s.res x)]⟩,?_,?_,rfl,?_,?_,h⟩
     .simp only[den,lQ,rU,IU,hi,af,m1,g3];rw[aT ⟨hnd,hlen'⟩];rfl
     .refine sK _ (gZ (gZ g1 m2) ?_);intro q hq;simp only[aO,fM,or_false]at hq;rcases hq with rfl |rfl |rfl
      .exact hf
      .exact X9 x hfl
      .exact acn hfl
     .simp only[uh,hout]
     .intro q hq;rcases bg.1 hq with hq |hq
      .exact .inl (hk q hq)
      .exact .inr (MN hq)
    .refine⟨.tD ae (rf s.args a) (oO s.res x) hs (uJ s.res x) false,_,_,p.1,_,⟨den p.1,iA p.2++(Ce ae (oO s.res x)++((aR (first++args++caps)).filter λj=>!ae.contains j).map (λ k=>(k,none))),obs++mo++[p6 P F (zy s.args a) (rf s.args a) (oO s.res x) (uJ s.res x)]⟩,?_,?_,rfl,?_,?_,h⟩
     .simp only[den,lQ,rU,IU,hi,af,m1,g3,IQ,hrefs];rw[aT ⟨hnd,hlen'⟩];rfl
     .refine sK _ (gZ (gZ g1 m2) ?_);intro q hq;simp only[aY]at hq;subst hq;exact hf
     .simp only[uh,hout,DJ]
     .intro q hq;rcases bg.1 hq with hq |hq
      .exact .inl (hk q hq)
      .rcases bg.1 hq with hq |hq
       .exact .inr (List.mem_append_left _ (MN hq))
       .exact .inr (mem_append_right _ (KH hq))
   .cases h
 .rename_i as q φ;rw[ai]at h;obtain⟨⟨hh,cs⟩,h1,h⟩:=h;have⟨hcs,h⟩:=qF h;rw[ai]at h;obtain⟨y,h2,h⟩:=h;obtain⟨hs,obs,g1,g2⟩:=OD (P:=P) h1 hcs (rd:=aR args) (λ j hj=>hj);have g3:=g2 [];rw[append_nil]at g3;have hφ:∃h' x',φ h'=some x'/\HL.nh X.toSE as hh=HL.nh X.toSE as h'/\CT.tv X.toSE q y=CT.tv X.toSE q x':=⟨hh,y,h2,rfl,rfl⟩;split at h
  .rename_i hfl;refine⟨.DE hs (HL.nh X.toSE as hh) (CT.tv X.toSE q y) true,_,[],.c q y,[],⟨(CT.tv X.toSE q y).av,[],obs++[(HL.nh X.toSE as hh).map TV.av=(HL.nh X.toSE as hh).map TV.av,(∃ h' x',φ h'=some x'/\HL.nh X.toSE as hh=HL.nh X.toSE as h'/\CT.tv X.toSE q y=CT.tv X.toSE q x'),(CT.tv X.toSE q y).flat]⟩,?_,?_,rfl,rfl,by simp,h⟩
   .simp only[den,lQ,rU,Be,g3,af];rfl
   .exact sK _ (gZ g1 (by
     intro z hz;simp only[aO,fM,or_false]at hz;rcases hz with rfl |rfl |rfl
     .trivial
     .exact hφ
     .exact afu hfl y))
  .refine⟨.DE hs (HL.nh X.toSE as hh) (CT.tv X.toSE q y) false,_,_,.c q y,_,⟨(CT.tv X.toSE q y).av,(aR args).map (λ k=>(k,none)),obs++[(HL.nh X.toSE as hh).map TV.av=(HL.nh X.toSE as hh).map TV.av,(∃ h' x',φ h'=some x'/\HL.nh X.toSE as hh=HL.nh X.toSE as h'/\CT.tv X.toSE q y=CT.tv X.toSE q x')]⟩,?_,?_,rfl,(DJ _).symm,λz hz=> .inr (KH hz),h⟩
   .simp only[den,lQ,rU,Be,g3,af,iD];rfl
   .exact sK _ (gZ g1 (by
     intro z hz;simp only[aO,fM,or_false]at hz;rcases hz with rfl |rfl
     .trivial
     .exact hφ))
 .cases h
theorem aib{P:Program}(hΓ:sA P Γ){fz:U Nat}{T:dC}{an:TypeId->J (CT X.ι)}{i:Nat}{o:Oper}{ρ:Operand->DV X}{get:Nat->J (bp X)}{k:KK X A}{r:A}(h:DQ Γ fz T an i o.op ρ get k=some r):cN P T i o ρ get k r:=by
 obtain⟨dst,op,ty,aq,after,guard⟩:=o;unfold DQ at h;simp only at h;split at h
 .rename_i f args cX;have:=afy hΓ h;simp only[<- Wl]at this;obtain⟨cm,rd,wr,dv,upd,ab,g1,g2⟩:=this;exact .call g1 g2
 .split at h
  .exact ah3 (o:=⟨dst,op,ty,aq,after,guard⟩) h
  .split at h
   .exact ah4 (o:=⟨dst,op,ty,aq,after,guard⟩) h
   .split at h
    .exact ah6 (o:=⟨dst,op,ty,aq,after,guard⟩) h
    split at h
    .exact ah5 (o:=⟨dst,op,ty,aq,after,guard⟩) h
    .rename_i hne _ _ _ _;have⟨cm,rd,wr,dv,upd,ab,g1,g2⟩:=ab8 (o:=⟨dst,op,ty,aq,after,guard⟩) h;exact cN.op (λ f args cX e=>hne f args cX e) g1 g2
end
def k9(x y:AV):Prop:=∀P β w I v,VR P β w I x v->VR P β w I y v
theorem k9.refl(x:AV):k9 x x:=λ_ _ _ _ _ h=>h
theorem k9.undef(x:AV):k9 x .undef:=λ_ _ _ _ _ _=>by simp[VR]
theorem k9.wk(x:AV):k9 x (wk x):=λ_ _ _ _ _ h=>h.wk
section
variable {P:Program} {w0:World} {O0:i9} {N:Nat} {β:Nat->Option cE} {I:Nat->Prop} {a:Act} {w:World} {f g:Nat->Nat} {D:Nat->Prop}
mutual
theorem VR.rn(hgf:∀k,D k->g (f k)=k):∀(x:AV)(v:Value),(∀ k∈refs x,D k)->VR P β w I x v->VR P (λ j=>β (g j)) w I (fx f x) v
 | .own k aa len,v,hd,h=>by simp only[fx,VR,hgf k (hd k (by simp[refs]))]at h ⊢;exact h
 | .ptr k row aa,v,hd,h=>by simp only[fx,VR,hgf k (hd k (by simp[refs]))]at h ⊢;exact h
 | .agg cs,v,hd,h=>by
  simp only[fx,VR]at h ⊢;obtain⟨vs,h1,h2⟩:=h;exact⟨vs,h1,bj.rn hgf cs _ (by simpa[refs]using hd) h2⟩
 | .eC cs,v,hd,h=>by
  simp only[fx,VR]at h ⊢;obtain⟨vs,h1,h2⟩:=h;exact⟨vs,h1,bj.rn hgf cs _ (by simpa[refs]using hd) h2⟩
 | .fn F first caps,v,hd,h=>by
  simp only[fx,VR]at h ⊢;obtain⟨fs,cs,h1,h2,h3⟩:=h;exact⟨fs,cs,h1,bj.rn hgf first _ (λ k hk=>hd k (by simp[refs,hk])) h2,bj.rn hgf caps _ (λ k hk=>hd k (by simp[refs,hk])) h3⟩
 | .t x,v,_,h=>by simpa[fx,VR]using h
 | .ej r o,v,_,h=>by simpa[fx,VR]using h
 | .du φ,v,_,h=>by simpa[fx,VR]using h
 | .mp k,v,hd,h=>by simp only[fx,VR,hgf k (hd k (by simp[refs]))]at h ⊢;exact h
 | .oz k len,v,hd,h=>by simp only[fx,VR,hgf k (hd k (by simp[refs]))]at h ⊢;exact h
 | .cM,v,_,h=>by simpa[fx,VR]using h
 | .ub,v,_,h=>by simpa[fx,VR]using h
 | .undef,v,_,h=>by simp[fx,VR]
theorem bj.rn(hgf:∀k,D k->g (f k)=k):∀(xs:List AV)(vs:List Value),(∀ k∈eX xs,D k)->bj P β w I xs vs->bj P (λ j=>β (g j)) w I (Av f xs) vs
 |[],[],_,_=>by simp[Av,bj]
 |x::xs,v::vs,hd,h=>by
  simp only[bj]at h;simp only[Av,bj];exact⟨VR.rn hgf x v (λ k hk=>hd k (by simp[eX,hk])) h.1,bj.rn hgf xs vs (λ k hk=>hd k (by simp[eX,hk])) h.2⟩
 |[],_::_,_,h=>by simp[bj]at h
 |_::_,[],_,h=>by simp[bj]at h
end
def mm(D:Nat->Prop)(f:Nat->Nat):U AV->U AV->Prop
 |[],[]=>True
 |x::xs,y::ys=>((∀ k∈refs x,D k)/\k9 (fx f x) y)/\mm D f xs ys
 |_,_=>False
def hZ(D:Nat->Prop)(f:Nat->Nat):U (List AV)->U (List AV)->Prop
 |[],[]=>True
 |r::rs,q::qs=>mm D f r q/\hZ D f rs qs
 |_,_=>False
theorem mm.length:∀{r q:U AV},mm D f r q->q.length=r.length
 |[],[],_=>rfl
 |_::xs,_::ys,h=>by simp[mm.length h.2]
 |[],_::_,h=>h.elim
 |_::_,[],h=>h.elim
theorem cQ.re(hgf:∀k,D k->g (f k)=k):∀{r q:U AV}{c:Array Value}{aa:Nat},mm D f r q->cQ P β w I r c aa->cQ P (λ j=>β (g j)) w I q c aa
 |[],[],_,_,_,_=>trivial
 |x::xs,y::ys,c,aa,hr,⟨⟨v,h1,h2,h3⟩,h4⟩=>⟨⟨v,h1,hr.1.2 _ _ _ _ _ (VR.rn hgf x v hr.1.1 h2),h3⟩,cQ.re hgf hr.2 h4⟩
 |[],_::_,_,_,h,_=>h.elim
 |_::_,[],_,_,h,_=>h.elim
theorem bo.re(hgf:∀k,D k->g (f k)=k):∀{rs qs:U (List AV)}{c:Array Value}{aa sz:Nat},hZ D f rs qs->bo P β w I rs c aa sz->bo P (λ j=>β (g j)) w I qs c aa sz
 |[],[],_,_,_,_,_=>trivial
 |r::rs,q::qs,c,aa,sz,hr,⟨h1,h2,h3⟩=>⟨by rw[hr.1.length];exact h1,cQ.re hgf hr.1 h2,bo.re hgf hr.2 h3⟩
 |[],_::_,_,_,_,h,_=>h.elim
 |_::_,[],_,_,_,h,_=>h.elim
theorem bj.re(hgf:∀k,D k->g (f k)=k):∀{r q:U AV}{vs:U Value},mm D f r q->bj P β w I r vs->bj P (λ j=>β (g j)) w I q vs
 |[],[],[],_,_=>by simp[bj]
 |x::xs,y::ys,v::vs,hr,h=>by
  simp only[bj]at h ⊢;exact⟨hr.1.2 _ _ _ _ _ (VR.rn hgf x v hr.1.1 h.1),bj.re hgf hr.2 h.2⟩
 |[],_::_,_,h,_=>h.elim
 |_::_,[],_,h,_=>h.elim
 |[],[],_::_,_,h=>by simp[bj]at h
 |_::_,_::_,[],_,h=>by simp[bj]at h
theorem cy.re(hgf:∀k,D k->g (f k)=k):∀{rs qs:U (List AV)}{es:U MapEntry},hZ D f rs qs->cy P β w I rs es->cy P (λ j=>β (g j)) w I qs es
 |[],[],[],_,_=>trivial
 |r::rs,q::qs,_::es,hr,⟨h1,h2⟩=>⟨bj.re hgf hr.1 h1,cy.re hgf hr.2 h2⟩
 |[],_::_,_,h,_=>h.elim
 |_::_,[],_,h,_=>h.elim
 |[],[],_::_,_,h=>h.elim
 |_::_,_::_,[],_,h=>h.elim
theorem hZ.length:∀{rs qs:U (List AV)},hZ D f rs qs->qs.length=rs.length
 |[],[],_=>rfl
 |_::xs,_::ys,h=>by simp[hZ.length h.2]
 |[],_::_,h=>h.elim
 |_::_,[],h=>h.elim
theorem Rel.re{s s':St}(hgf:∀k,D k->g (f k)=k)(hg:∀j,j<1000->g j=j)(hr:Rel P w0 O0 N β I s a w)(hok:∀t,s.ok t=none\/s'.env t= .undef)(hok':∀t,s'.ok t=none)
 (hE:∀t,s'.env t= .undef\/((∀ k∈refs (s.env t),D k)/\k9 (fx f (s.env t)) (s'.env t)))
 (hO:∀j o',s'.obj j=some o'->∃k o,s.obj k=some o/\D k/\f k=j/\o'.sz=o.sz/\hZ D f o.rows o'.rows):Rel P w0 O0 N (λ j=>β (g j)) I s' a w:=by
 refine⟨hr.defers,hr.size,λt=>?_,?_⟩
 .have h1:=hr.env t;rw[hok' t];rcases hok t with hk |h
  rotate_left
  .rw[h];simp[er,VR]
  rw[hk]at h1;rcases hE t with h |⟨h2,h3⟩
  .rw[h];simp[er,VR]
  .exact h3 _ _ _ _ _ (VR.rn hgf _ _ h2 h1)
 .have hm:=hr.mem;constructor
  .intro j o' hj;obtain⟨k,o,h1,h2,rfl,h4,h5⟩:=hO j o' hj;have⟨B,hB,sq⟩:=hm.cD k o h1;refine⟨B,by simp only[hgf k h2];exact hB,?_⟩;cases B with
   |none=>
    simp only[OR]at sq ⊢;rw[sq]at h5;cases ho:o'.rows with
    |nil=>rfl
    |cons=>rw[ho]at h5;exact h5.elim
   | «at» b sz n=>
    obtain⟨g1,c,e,g2,g3,g4⟩:=sq;exact⟨by rw[g1,h4],c,e,g2,g3,bo.re hgf h5 g4⟩
   |mp b=>
    obtain⟨es,cl,g1,gl,g2,g3⟩:=sq;have hl:=h5.length;exact⟨es,cl,g1,by omega,λe=>cy.re hgf h5 (g2 (by omega)),g3⟩
  .intro j j' o o' B B' b h1 h2 h3 h4 h5 h6;obtain⟨k,q,i1,i2,rfl,_⟩:=hO j o h1;obtain⟨k',q',i1',i2',rfl,_⟩:=hO j' o' h2;simp only[hgf k i2,hgf k' i2']at h3 h4;rw[hm.gd k k' q q' B B' b i1 i1' h3 h4 h5 h6]
  .intro j o B b h1 h2;obtain⟨k,q,i1,i2,rfl,_⟩:=hO j o h1;simp only[hgf k i2]at h2;exact hm.ownB k q B b i1 h2
  .exact hm.lt
  .exact hm.up
  .exact hm.keep
  .exact hm.le
  .exact hm.os
  .exact hm.tape
  .exact hm.output
  .intro j B hj;show β (g j)=some B;rw[hg j (O0.lt j B hj)];exact hm.anch j B hj
  .exact hm.vars
end
section
variable {X:SX}
theorem afz{D:Nat->Prop}(f:Nat->Nat):∀r:U (DV X),(∀ k∈aR r,D k)->mm D f (bM r) (bM (Lc f r))
 |[],_=>trivial
 |x::xs,h=>⟨⟨λ k hk=>h k (by rw[jc]at hk;simp[aR,hk]),by rw[Bo];exact k9.refl _⟩,afz f xs λk hk=>h k (by simp[aR,hk])⟩
theorem KM{D:Nat->Prop}(f:Nat->Nat)(o:bp X)(h:∀k∈dE o,D k):(bG (ox f o)).sz=(bG o).sz/\hZ D f (bG o).rows (bG (ox f o)).rows:=by
 cases o with
 |cells sz rows=>
  refine⟨rfl,?_⟩;simp only[bG,ox,map_map];simp only[dE]at h
  induction rows with
  |nil=>trivial
  |cons r rs ih=>
   refine⟨afz f r λk hk=>h k (by simp[hk]),ih λk hk=>h k ?_⟩;simp only[aF,flatten_cons,bg];exact .inr hk
 |da c l=>
  refine⟨rfl,?_⟩;simp only[bG,ox];generalize l.map (CT.row X.toSE c)=rows;have hrow:∀r:U Tree,mm D f (r.map AV.t) (r.map AV.t):=by
   intro r
   induction r with
   |nil=>trivial
   |cons y ys ih=>exact⟨⟨by simp[refs],k9.refl _⟩,ih⟩
  induction rows with
  |nil=>trivial
  |cons r rs ih=>exact⟨hrow r,ih⟩
 |map kc vc l=>
  refine⟨rfl,?_⟩;simp only[bG,ox];clear h
  induction l with
  |nil=>trivial
  |cons p ps ih=>exact⟨⟨⟨by simp[Bj],by rw[X5];exact k9.refl _⟩,⟨by simp[Bj],by rw[X5];exact k9.refl _⟩,trivial⟩,ih⟩
structure Low(s:c9 X):Prop where
 le:s.nx<=1000000
 ge:1000<=s.nx
 env:∀t,∀k∈bm (ey s.env t),k<s.nx
 obj:∀k o,fL s.obj k=some o->k<s.nx/\∀j∈dE o,j<s.nx
theorem Yf{o:bp X}{r:U AV}{x:AV}(hr:r∈(bG o).rows)(hx:x∈r):∀j∈refs x,j∈dE o:=by
 intro j hj;cases o with
 |cells sz rows=>
  simp only[bG,mem_map]at hr;obtain⟨q,hq,rfl⟩:=hr;rw[oN,mem_map]at hx;obtain⟨d,hd,rfl⟩:=hx;simp only[dE,List.mem_flatten,mem_map];refine⟨_,⟨q,hq,rfl⟩,?_⟩;have:∀l:U (DV X),d∈l->j∈aR l:=by
   intro l
   induction l with
   |nil=>intro h;simp at h
   |cons y ys ih=>intro h;rcases aO.1 h with rfl |h
                  .simp only[aR,bg];left;rwa [jc]at hj
                  .simp only[aR,bg];exact .inr (ih h)
  exact this q hd
 |da c l=>
  simp only[bG,aL,mem_map]at hr;obtain⟨q,_,rfl⟩:=hr;simp only[mem_map]at hx;obtain⟨t,_,rfl⟩:=hx;simp[refs]at hj
 |map kc vc l=>
  simp only[bG,mem_map]at hr;obtain⟨q,_,rfl⟩:=hr;simp only[aO,fM,or_false]at hx;rcases hx with rfl |rfl<;>simp[Bj]at hj
theorem Low.old{s:c9 X}(h:Low s):tG s.st:=by
 have hle:=h.le;constructor
 .intro t k hk;have:=h.env t k (by rw[<- jc];exact hk);omega
 .intro k o hk;simp only[c9.st,eH]at hk;obtain⟨o',h1,rfl⟩:=hk;have⟨h2,h3⟩:=h.obj k o' h1;refine⟨by omega,λr hr x hx j hj=>?_⟩;have:=h3 j (Yf hr hx j hj);omega
end
section
variable {X:SX} {A:Type}
def oS(e b:U (Nat×DV X))(t:Nat):DV X:=match lk e t with |some x=>x |none=>ey b t
def xn(o b:U (Nat×Option (bp X)))(k:Nat):J (bp X):=match lk o k with |some x=>x |none=>fL b k
def Aw(dst:J Tmp)(dv:DV X)(e:U (Nat×DV X)):U (Nat×DV X):=match dst with |some t=>(t,dv)::e |none=>e
def Yg:DV X->DV X
 | .skip=> .undef
 |x=>x
def Mi(e:U (Nat×DV X)):Operand->Bool
 | .tmp t=>match lk e t with |some .skip=>false |_=>true
 |_=>true
def Uc(e b:U (Nat×DV X))(o:Op):Bool:=
 match o with
 | .pick c x y=>Mi e c&&((Mi e x&&Mi e y) || match wi (oS e b) c with | .c .bool t=>bif t then Mi e x else Mi e y |_=>false)
 |o=>o.operands.toList.all (Mi e)
abbrev E3:=List (Nat×List Nat×List Nat)
section
variable (Γ:FuncId->Option (bz X)) (fz:List Nat) (T:dC) (an:TypeId->Option (CT X.ι)) (am:Array Oper) (b:c9 X)
def zF(k:U (Nat×DV X)->U (Nat×Option (bp X))->E3->J A):U Nat->U (Nat×DV X)->U (Nat×Option (bp X))->E3->J A
 |[],e,o,nf=>k e o nf
 |i::r,e,o,nf=>(am[i]?).bind λop=>match op.guard with
  |none=>bif Uc e b.env op.op then DQ Γ fz T an i op.op (wi (oS e b.env)) (xn o b.obj) λdv upd rd wr=>zF k r (Aw op.dst (Yg dv) e) (upd++o) ((i,rd,wr)::nf)else none
  |some (j,p)=>((am[j]?).bind (·.dst)).bind λt=>match oS e b.env t with
   | .c .bool v=>
    bif v then(bif p then(bif Uc ((t,.c .bool true)::e) b.env op.op then DQ Γ fz T an i op.op (wi (oS ((t,.c .bool true)::e) b.env)) (xn o b.obj) λdv upd rd wr=>zF k r (Aw op.dst (Yg dv) ((t,.c .bool true)::e)) (upd++o) ((i,rd,wr)::nf)else none)
     else zF k r (Aw op.dst .skip ((t,.c .bool true)::e)) o ((i,[],[])::nf))
    else(bif p then zF k r (Aw op.dst .skip ((t,.c .bool false)::e)) o ((i,[],[])::nf)
     else(bif Uc ((t,.c .bool false)::e) b.env op.op then DQ Γ fz T an i op.op (wi (oS ((t,.c .bool false)::e) b.env)) (xn o b.obj) λdv upd rd wr=>zF k r (Aw op.dst (Yg dv) ((t,.c .bool false)::e)) (upd++o) ((i,rd,wr)::nf)else none))
   | .skip=>bif(lk e t).isSome then zF k r (Aw op.dst .skip e) o ((i,[],[])::nf)else none
   |_=>none
end
def iO(b:c9 X)(e:U (Nat×DV X))(o:U (Nat×Option (bp X))):St:=⟨λ t=>den (oS e b.env t),λk=>(xn o b.obj k).map bG,λt=>match lk e t with |some .skip=>some false |_=>none⟩
theorem ak0(x:DV X):den (Yg x)=den x:=by cases x<;>rfl
theorem amN(b:c9 X)(e:U (Nat×DV X))(o:U (Nat×Option (bp X)))(dst:J Tmp)(dv:DV X)(upd:U (Nat×Option (bp X)))(obs:U Prop):
 (iO b e o).app dst (⟨den dv,iA upd,obs⟩,none)=iO b (Aw dst (Yg dv) e) (upd++o):=by
 simp only[iO,St.app,St.mk.injEq];refine⟨?_,?_,?_⟩
 .funext t;cases dst with
  |none=>simp[Cf,Aw]
  |some d=>
   simp only[Cf,Aw,oS,lk,ay];by_cases h:d=t<;>simp[h,ak0]
 .funext j
  induction upd with
  |nil=>rfl
  |cons p u ih=>
   obtain⟨q,x⟩:=p;simp only[iA,aF,bU,cons_append,xn,lk]at ih ⊢;by_cases h:j=q
   .simp[h]
   .rw[aW h,aW (Ne.symm h)];exact ih
 .funext t;cases dst with
  |none=>simp[Cf,Aw]
  |some d=>
   simp only[Cf,Aw,lk,ay];by_cases h:d=t
   .simp only[h,if_true];cases dv<;>rfl
   .simp only[aW h]
theorem ak1(b:c9 X)(e:U (Nat×DV X))(o:U (Nat×Option (bp X)))(dst:J Tmp):(iO b e o).app dst (⟨.undef,[],[]⟩,some false)=iO b (Aw dst .skip e) o:=by
 simp only[iO,St.app,St.mk.injEq];refine⟨?_,rfl,?_⟩
 .funext t;cases dst with
  |none=>simp[Cf,Aw]
  |some d=>
   simp only[Cf,Aw,oS,lk,ay];by_cases h:d=t<;>simp[h,den]
 .funext t;cases dst with
  |none=>simp[Cf,Aw]
  |some d=>
   simp only[Cf,Aw,lk,ay];by_cases h:d=t<;>simp[h]
theorem afA(b:c9 X)(e:U (Nat×DV X))(o:U (Nat×Option (bp X))):lh (iO b e o).env=λx=>den (wi (oS e b.env) x):=by funext x;exact(XC _ x).symm
theorem DW{b:c9 X}{e:U (Nat×DV X)}{o:U (Nat×Option (bp X))}{x:Operand}(h:Mi e x=true):yu (iO b e o).ok x=[]:=by
 cases x with
 |tmp t=>
  simp only[Mi]at h;simp only[yu,iO];cases ht:lk e t with
  |none=>rfl
  |some d=>rw[ht]at h;cases d<;>first |rfl |cases h
 |_=>rfl
theorem ak2{b:c9 X}{e:U (Nat×DV X)}{o:U (Nat×Option (bp X))}{P:Program}{T:dC}{i:Nat}{op:Oper}{cm:iu}{get:Nat->J aS}{ab:Out}(hok:Uc e b.env op.op=true)
 (h:jP P T i op cm (lh (iO b e o).env) get=some ab):∀p∈needs (iO b e o).env (iO b e o).ok op.op,p:=by
 obtain⟨dst,op,ty,aq,after,guard⟩:=op;unfold needs;split
 .rename_i c x y heq;simp only at heq;subst heq;simp only[Uc,aG,Bool.or_eq_true]at hok;obtain⟨hc,hxy⟩:=hok;have hb:∃t,lh (iO b e o).env c= .t (.sc (.bool t)):=by
   have h0:(∃ n,cm= .ext n)\/(∃ ae fr q,cm= .xF ae fr q)\/qZ T i ⟨dst,.pick c x y,ty,aq,after,guard⟩ cm (lh (iO b e o).env) get=some ab:=(by cases cm<;>first |exact .inl ⟨_,rfl⟩ |exact .inr (.inl ⟨_,_,_,rfl⟩) |exact .inr (.inr h));rcases h0 with ⟨n,rfl⟩ |⟨ae,fr,q,rfl⟩ |h0
   .simp[jP,qD,GO,pO,lN]at h
   .simp[jP,IV,ahD]at h
   .simp only[qZ]at h0;split at h0
    .rename_i t ht;exact⟨t,ht⟩
    .cases h0
  obtain⟨t,ht⟩:=hb;rw[ht];simp only[DW hc,bI];rcases hxy with ⟨hx,hy⟩ |hxy
  .simp[DW hx,DW hy]
  .split at hxy
   .rename_i t' ht';have e1:lh (iO b e o).env c= .t (.sc (.bool t')):=(by rw[afA];simp only[ht'];rfl);rw[e1]at ht;injection ht with ht;injection ht with ht;injection ht with ht;subst ht;cases t' with
    |true=>
     simp only[aj]at hxy;simp[DW hxy]
    |false=>
     simp only[ak]at hxy;simp[DW hxy]
   .cases hxy
 .rename_i o' hne;intro p hp;have hall:∀x∈op.operands.toList,Mi e x=true:=by
   have:Uc e b.env op=op.operands.toList.all (Mi e):=(by cases op<;>first |rfl |exact(hne _ _ _ rfl).elim);rw[this]at hok;exact all_eq_true.1 hok
  simp only[List.mem_flatMap]at hp;obtain⟨x,hx,hp⟩:=hp;rw[DW (hall x hx)]at hp;simp at hp
theorem amO{a b:U Prop}(h:∀p∈a,p)(h':kE b):kE (a++b):=sK _ (gZ h (Oh b h'))
variable {Γ:FuncId->Option (bz X)} {fz:List Nat} {T:dC} {an:TypeId->Option (CT X.ι)} {am:Array Oper} {b:c9 X} {P:Program}
theorem ak3(hΓ:sA P Γ){i:Nat}{op:Oper}{e:U (Nat×DV X)}{o:U (Nat×Option (bp X))}{k:KK X A}{r:A}(hop:am[i]? =some op)(hw:want am op (iO b e o).env (iO b e o).ok=some true)(hok:Uc e b.env op.op=true)
 (h:DQ Γ fz T an i op.op (wi (oS e b.env)) (xn o b.obj) k=some r):
 ∃(a:mn)(dv:DV X)(upd:U (Nat×Option (bp X))),a.sym=false/\k dv upd a.rd a.wr=some r/\∀(cV:Nat->mn)(K:St->Prop),cV i=a->K (iO b (Aw op.dst (Yg dv) e) (upd++o))->xT P T am cV i K (iO b e o):=by
 have⟨cm,rd,wr,dv,upd,ab,h1,h2,h3,h4,h5,h6⟩:=aib hΓ h;refine⟨⟨cm,rd,wr,false⟩,dv,upd,rfl,h6,λcV K ha hK=>?_⟩;have h1':jP P T i op cm (lh (iO b e o).env) (dJ rd (iO b e o).obj)=some ab:=by rw[afA];exact h1
 refine⟨op,(⟨ab.v,ab.upd,needs (iO b e o).env (iO b e o).ok op.op++ab.obs⟩,none),hop,?_,?_,?_⟩
 .unfold opAt;simp only[hop,af,hw,ha,h1'];rw[aT];rw[all_eq_true];intro p hp;rw[h4]at hp;simp only[iA,mem_map]at hp;obtain⟨q,hq,rfl⟩:=hp;rcases h5 q hq with h |h
  .simp[h,Xm.2 (.inl rfl:ie (cx i) (cx i))]
  .simp[h]
 .exact amO (ak2 hok h1') h2
 .rw[h3,h4,amN];exact hK
theorem step_skip{i:Nat}{op:Oper}{e:U (Nat×DV X)}{o:U (Nat×Option (bp X))}(hop:am[i]? =some op)(hw:want am op (iO b e o).env (iO b e o).ok=some false)
 (cV:Nat->mn) (K:St->Prop) (ha:cV i=⟨.none,[],[],false⟩) (hK:K (iO b (Aw op.dst .skip e) o)):xT P T am cV i K (iO b e o):=by
 refine⟨op,(⟨.undef,[],[]⟩,some false),hop,?_,trivial,?_⟩
 .unfold opAt;simp only[hop,af,hw,ha]
 .rw[ak1];exact hK
theorem aic{e:U (Nat×DV X)}{o:U (Nat×Option (bp X))}{t:Nat}{v:Bool}(h:oS e b.env t= .c .bool v):iO b ((t,.c .bool v)::e) o=iO b e o:=by
 simp only[iO,St.mk.injEq,true_and];refine⟨?_,?_⟩
 .funext s;by_cases hs:t=s
  .subst hs;rw[h];simp[oS,lk]
  .simp[oS,lk,hs]
 .funext s;by_cases hs:t=s
  .subst hs;simp only[lk,if_true];unfold oS at h;cases ht:lk e t with
   |none=>rfl
   |some d=>rw[ht]at h;simp only at h;subst h;rfl
  .simp[lk,hs]
def Ld(tr:U (Nat×mn)):E3:=tr.map λp=>(p.1,p.2.rd,p.2.wr)
def Ud(am:Array Oper)(t:Nat):Prop:=∃(j:Nat)(op:Oper),am[j]? =some op/\op.dst=some t
theorem afB{dst:J Tmp}{dv:DV X}{e:U (Nat×DV X)}{p:Nat×DV X}(h:p∈Aw dst dv e):p∈e\/dst=some p.1:=by
 cases dst with
 |none=>exact .inl h
 |some t=>
  simp only[Aw,aO]at h;rcases h with rfl |h
  .exact .inr rfl
  .exact .inl h
theorem Ff(hΓ:sA P Γ){k:U (Nat×DV X)->U (Nat×Option (bp X))->E3->J A}{r:A}:∀(l:U Nat)(e:U (Nat×DV X))(o:U (Nat×Option (bp X)))(nf:E3),zF Γ fz T an am b k l e o nf=some r->
 ∃(tr:U (Nat×mn))(e':U (Nat×DV X))(o':U (Nat×Option (bp X))),tr.map (·.1)=l/\k e' o' ((Ld tr).reverse++nf)=some r/\(∀ p∈e',p∈e\/Ud am p.1)/\
  ∀cV:Nat->mn,(∀ p∈tr,cV p.1=p.2)->UH P T am cV (λ σ=>σ=iO b e' o') l (iO b e o)
 |[],e,o,nf,h=>⟨[],e,o,rfl,h,λ_ hp=> .inl hp,λ_ _=>rfl⟩
 |i::l,e,o,nf,h=>by
  simp only[zF]at h;have⟨op,hop,h⟩:=ai.1 h
  have exec:∀e:U (Nat×DV X),want am op (iO b e o).env (iO b e o).ok=some true->
   (bif Uc e b.env op.op then DQ Γ fz T an i op.op (wi (oS e b.env)) (xn o b.obj) λdv upd rd wr=>zF Γ fz T an am b k l (Aw op.dst (Yg dv) e) (upd++o) ((i,rd,wr)::nf)else none)=some r->
   ∃(tr:U (Nat×mn)) (e':U (Nat×DV X)) (o':U (Nat×Option (bp X))),tr.map (·.1)=i::l/\k e' o' ((Ld tr).reverse++nf)=some r/\(∀ p∈e',p∈e\/Ud am p.1)/\
    ∀cV:Nat->mn,(∀ p∈tr,cV p.1=p.2)->UH P T am cV (λ σ=>σ=iO b e' o') (i::l) (iO b e o):=by
   intro e hw h;have⟨hok,h⟩:=dL h;have⟨a,dv,upd,_,h1,h2⟩:=ak3 hΓ hop hw hok h;obtain⟨tr,e',o',g1,g2,g4,g3⟩:=Ff hΓ l _ _ _ h1;refine⟨(i,a)::tr,e',o',by simp[g1],?_,λp hp=>(g4 p hp).elim (λ hp=>(afB hp).elim .inl λhd=> .inr ⟨i,op,hop,hd⟩) .inr,λcV ha=>?_⟩
   .simpa[Ld]using g2
   .exact h2 cV _ (ha (i,a) (by simp)) (g3 cV λp hp=>ha p (by simp[hp]))
  have skip:∀e:U (Nat×DV X),want am op (iO b e o).env (iO b e o).ok=some false->zF Γ fz T an am b k l (Aw op.dst .skip e) o ((i,[],[])::nf)=some r->
   ∃(tr:U (Nat×mn)) (e':U (Nat×DV X)) (o':U (Nat×Option (bp X))),tr.map (·.1)=i::l/\k e' o' ((Ld tr).reverse++nf)=some r/\(∀ p∈e',p∈e\/Ud am p.1)/\
    ∀cV:Nat->mn,(∀ p∈tr,cV p.1=p.2)->UH P T am cV (λ σ=>σ=iO b e' o') (i::l) (iO b e o):=by
   intro e hw h;obtain⟨tr,e',o',g1,g2,g4,g3⟩:=Ff hΓ l _ _ _ h;refine⟨(i,⟨.none,[],[],false⟩)::tr,e',o',by simp[g1],?_,λp hp=>(g4 p hp).elim (λ hp=>(afB hp).elim .inl λhd=> .inr ⟨i,op,hop,hd⟩) .inr,λcV ha=>?_⟩
   .simpa[Ld]using g2
   .exact step_skip hop hw cV _ (ha (i,_) (by simp)) (g3 cV λp hp=>ha p (by simp[hp]))
  split at h
  .rename_i hg;exact exec e (by simp[want,hg]) h
  .rename_i j p hg;rw[ai]at h;obtain⟨t,ht,h⟩:=h;split at h
   .rename_i v hv;have hw:∀e:U (Nat×DV X),oS e b.env t= .c .bool v->want am op (iO b e o).env (iO b e o).ok=some (v==p):=by
     intro e he;simp only[want,hg,ht];have h0:(iO b e o).ok t=none:=by
      simp only[iO];unfold oS at he;cases hq:lk e t with
      |none=>rfl
      |some d=>rw[hq]at he;simp only at he;subst he;rfl
     have h1:(iO b e o).env t= .t (.sc (.bool v)):=(by simp only[iO,he];rfl);rw[h0,h1]
    have hk:=aic (b:=b) (o:=o) hv;have hv':oS ((t,.c .bool v)::e) b.env t= .c .bool v:=(by simp[oS,lk]);have htd:Ud am t:=by
     have⟨oj,h1,h2⟩:=ai.1 ht;exact⟨j,oj,h1,h2⟩
    have wide:(∃ (tr:U (Nat×mn)) (e':U (Nat×DV X)) (o':U (Nat×Option (bp X))),tr.map (·.1)=i::l/\k e' o' ((Ld tr).reverse++nf)=some r/\(∀ p∈e',p∈((t,.c .bool v)::e:U (Nat×DV X))\/Ud am p.1)/\
     ∀cV:Nat->mn,(∀ p∈tr,cV p.1=p.2)->UH P T am cV (λ σ=>σ=iO b e' o') (i::l) (iO b ((t,.c .bool v)::e) o))->
     ∃(tr:U (Nat×mn)) (e':U (Nat×DV X)) (o':U (Nat×Option (bp X))),tr.map (·.1)=i::l/\k e' o' ((Ld tr).reverse++nf)=some r/\(∀ p∈e',p∈e\/Ud am p.1)/\
     ∀cV:Nat->mn,(∀ p∈tr,cV p.1=p.2)->UH P T am cV (λ σ=>σ=iO b e' o') (i::l) (iO b e o):=by
     rintro⟨tr,e',o',g1,g2,g4,g3⟩;refine⟨tr,e',o',g1,g2,λq hq=>?_,hk ▸ g3⟩;rcases g4 q hq with h |h
     .rcases aO.1 h with rfl |h
      .exact .inr htd
      .exact .inl h
     .exact .inr h
    apply wide;cases v with
    |true=>
     simp only[aj]at h;cases p with
     |true=>exact exec _ (hw _ hv') h
     |false=>exact skip _ (hw _ hv') h
    |false=>
     simp only[ak]at h;cases p with
     |true=>exact skip _ (hw _ hv') h
     |false=>exact exec _ (hw _ hv') h
   .rename_i hv;have⟨hsome,h⟩:=dL h;refine skip e ?_ h;simp only[want,hg,ht];have h1:(iO b e o).env t= .undef:=(by simp only[iO,hv];rfl);cases hq:lk e t with
    |some d=>
     have h0:(iO b e o).ok t=some false:=by
      unfold oS at hv;rw[hq]at hv;simp only at hv;subst hv;simp only[iO,hq]
     rw[h0,h1]
    |none=>rw[hq]at hsome;cases hsome
   .cases h
end
section
variable {X:SX} {A:Type}
def fN(nx k:Nat):Nat:=if k<1000000 then k else nx+(k -1000000)
def gN(nx j:Nat):Nat:=if j<nx then j else 1000000+(j -nx)
def Hs(nx sz k:Nat):Bool:=decide (k<nx) || (decide (1000000<=k)&&decide (k<1000000+sz))
def okE(nx sz:Nat)(e:U (Nat×DV X)):Bool:=e.all λp=>(bm p.2).all (Hs nx sz)
def okO(nx sz:Nat)(o:U (Nat×Option (bp X))):Bool:=o.all λp=>Hs nx sz p.1&&match p.2 with |some x=>(dE x).all (Hs nx sz) |none=>true
def Nm(nf:E3):Nat->mn:=λi=>match lk nf i with |some p=>⟨.none,p.1,p.2,false⟩ |none=>⟨.none,[],[],false⟩
def GS(tr:U (Nat×mn)):Nat->mn:=λi=>match lk tr i with |some a=>a |none=>⟨.none,[],[],false⟩
def Lo:DV X->DV X
 | .skip=> .undef
 |x=>x
theorem amQ(x:DV X):den (Lo x)=den x:=by cases x<;>rfl
theorem acu(x:DV X):bm (Lo x)=bm x:=by cases x<;>rfl
def fin(s:c9 X)(e:U (Nat×DV X))(o:U (Nat×Option (bp X)))(sz:Nat):c9 X:=
 ⟨e.map (λ p=>(p.1,Lo (m7 (fN s.nx) p.2)))++s.env,o.map (λ p=>(fN s.nx p.1,p.2.map (ox (fN s.nx))))++s.obj,s.nx+sz,o.map (λ p=>fN s.nx p.1)++s.log⟩
def amR(N:Nat)(am:Array Oper)(d:Bool)(nx:Nat)(e:U (Nat×DV X))(o:U (Nat×Option (bp X)))(nf:E3):Bool:=
 PR N am&&(!d || Pc am (Nm nf))&&okE nx (64*am.size) e&&okO nx (64*am.size) o&&decide (nx+64*am.size<=1000000)
def Z3(Γ:FuncId->J (bz X))(fz:U Nat)(T:dC)(an:TypeId->J (CT X.ι))(N:Nat)(am:Array Oper)(d:Bool)(s:c9 X)(k:c9 X->J A):J A:=
 zF Γ fz T an am s (λ e o nf=>bif amR N am d s.nx e o nf then k (fin s e o (64*am.size))else none) (List.range am.size) [] [] []
theorem afC{am:Array Oper}{cV ua:Nat->mn}(h:∀i,(cV i).rd=(ua i).rd/\(cV i).wr=(ua i).wr):Pc am cV=Pc am ua:=by
 have h1:yB cV=yB ua:=by
  funext i j;simp only[yB,(h i).1,(h i).2,(h j).1,(h j).2]
 have h2:∀md,QX md am cV=QX md am ua:=by
  intro md;funext listed i;simp only[QX,h1]
 have h3:∀(md:Region.Mode)(n k:Nat)(listed:Array Bool),lexFrom' md am cV n k listed=lexFrom' md am ua n k listed:=by
  intro md n
  induction n with
  |zero=>intro k listed;rfl
  |succ n ih=>intro k listed;simp only[lexFrom',h2,ih]
 exact h3 _ _ _ _
theorem DX{α:Type}:∀(a b:U (Nat×α))(k:Nat),lk (a++b) k=match lk a k with |some x=>some x |none=>lk b k
 |[],_,_=>rfl
 |(j,x)::a,b,k=>by
  simp only[cons_append,lk];by_cases h:j=k
  .simp[h]
  .simp only[aW h,DX a b k]
theorem ajU{α:Type}:∀{l:U (Nat×α)}{k:Nat},lk l k=none->∀x,(k,x)∉l
 |(j,y)::r,k,h,x=>by
  simp only[lk]at h;split at h
  .cases h
  .rename_i hn;simp only[aO,Prod.mk.injEq,not_or];exact⟨λ e=>hn e.1.symm,ajU h x⟩
 |[],_,_,_=>by simp
theorem aqk{tr:U (Nat×mn)}(hn:(tr.map (·.1)).Nodup)(i:Nat):(Nm (Ld tr).reverse i).rd=(GS tr i).rd/\(Nm (Ld tr).reverse i).wr=(GS tr i).wr:=by
 have hn':((Ld tr).reverse.map (·.1)).Nodup:=by
  rw[List.map_reverse];have h1:((Ld tr).map (·.1)).Nodup:=by simpa[Ld,Function.comp_def]using hn
  exact List.pairwise_reverse.2 (h1.imp λh=>Ne.symm h)
 unfold Nm GS;cases h:lk tr i with
 |none=>
  cases h':lk (Ld tr).reverse i with
  |none=>exact⟨rfl,rfl⟩
  |some p=>
   have:=tO h';simp only[Ld,List.mem_reverse,mem_map]at this;obtain⟨q,hq,he⟩:=this;injection he with e1 e2;subst e1;exact(ajU h q.2 hq).elim
 |some a=>
  have h1:=tO h;have h2:(i,a.rd,a.wr)∈(Ld tr).reverse:=by
   simp only[Ld,List.mem_reverse,mem_map];exact⟨(i,a),h1,rfl⟩
  rw[wh hn' h2];exact⟨rfl,rfl⟩
theorem amS{tr:U (Nat×mn)}(hn:(tr.map (·.1)).Nodup):∀p∈tr,GS tr p.1=p.2:=by
 rintro⟨i,a⟩ hp;unfold GS;rw[wh hn hp]
theorem Yh{nx sz k:Nat}(h:Hs nx sz k=true):k<nx\/(1000000<=k/\k<1000000+sz):=by simpa[Hs]using h
theorem UP{nx sz k:Nat}(hle:nx+sz<=1000000)(h:k<nx\/(1000000<=k/\k<1000000+sz)):gN nx (fN nx k)=k:=by grind [gN,fN]
theorem GT{nx sz k:Nat}(hle:nx+sz<=1000000)(h:k<nx\/(1000000<=k/\k<1000000+sz)):fN nx k<nx+sz:=by grind [fN]
theorem OF{nx k:Nat}(hle:nx<=1000000)(h:k<nx):fN nx k=k:=aT (by omega)
mutual
theorem Yi{f:Nat->Nat}:∀x:DV X,(∀ k∈bm x,f k=k)->m7 f x=x
 | .own k _ _,h=>by simp only[m7,h k (by simp[bm])]
 | .ptr k _ _,h=>by simp only[m7,h k (by simp[bm])]
 | .qn k _ _,h=>by simp only[m7,h k (by simp[bm])]
 | .mp k,h=>by simp only[m7,h k (by simp[bm])]
 | .oz k _,h=>by simp only[m7,h k (by simp[bm])]
 | .so k _ _ _ _,h=>by simp only[m7,h k (by simp[bm])]
 | .agg cs,h=>by simp only[m7,Bq cs (by simpa[bm]using h)]
 | .eC cs,h=>by simp only[m7,Bq cs (by simpa[bm]using h)]
 | .fn F first caps,h=>by simp only[m7,Bq first (λ k hk=>h k (by simp[bm,hk])),Bq caps (λ k hk=>h k (by simp[bm,hk]))]
 | .c _ _,_=>rfl
 | .rp _ _ _,_=>rfl
 | .xi _ _ _ _ _,_=>rfl
 | .du _ _ _,_=>rfl
 | .raw _,_=>rfl
 | .nil,_=>rfl
 | .ub,_=>rfl
 | .skip,_=>rfl
 | .undef,_=>rfl
theorem Bq{f:Nat->Nat}:∀l:List (DV X),(∀ k∈aR l,f k=k)->Lc f l=l
 |[],_=>rfl
 |x::xs,h=>by simp only[Lc,Yi x (λ k hk=>h k (by simp[aR,hk])),Bq xs (λ k hk=>h k (by simp[aR,hk]))]
end
mutual
theorem Yj(f:Nat->Nat):∀x:DV X,bm (m7 f x)=(bm x).map f
 | .own _ _ _=>rfl
 | .ptr _ _ _=>rfl
 | .qn _ _ _=>rfl
 | .mp _=>rfl
 | .oz _ _=>rfl
 | .so _ _ _ _ _=>rfl
 | .agg cs=>by simp only[m7,bm,zf f cs]
 | .eC cs=>by simp only[m7,bm,zf f cs]
 | .fn F first caps=>by simp only[m7,bm,zf f first,zf f caps,map_append]
 | .c _ _=>rfl
 | .rp _ _ _=>rfl
 | .xi _ _ _ _ _=>rfl
 | .du _ _ _=>rfl
 | .raw _=>rfl
 | .nil=>rfl
 | .ub=>rfl
 | .skip=>rfl
 | .undef=>rfl
theorem zf(f:Nat->Nat):∀l:List (DV X),aR (Lc f l)=(aR l).map f
 |[]=>rfl
 |x::xs=>by simp only[Lc,aR,Yj f x,zf f xs,map_append]
end
theorem afD(f:Nat->Nat)(o:bp X):dE (ox f o)=(dE o).map f:=by
 cases o with
 |cells sz rows=>simp only[ox,dE,map_map,List.map_flatten];congr 1;exact map_congr_left λr _=>zf f r
 |da c l=>rfl
 |map kc vc l=>rfl
theorem amT{α β:Type}(f:α->β):∀(l:U (Nat×α))(k:Nat),lk (l.map λp=>(p.1,f p.2)) k=(lk l k).map f
 |[],_=>rfl
 |(j,x)::r,k=>by
  simp only[aF,lk];by_cases h:j=k
  .simp[h]
  .simp only[aW h,amT f r k]
theorem ajW{α β:Type}(f:α->β)(g:Nat->Nat):∀(l:U (Nat×α))(j:Nat),(∀ p∈l,∀q∈l,g p.1=g q.1->p.1=q.1)->
 (∀ y,lk (l.map λp=>(g p.1,f p.2)) j=some y->∃k x,lk l k=some x/\g k=j/\y=f x)/\(lk (l.map λp=>(g p.1,f p.2)) j=none->∀p∈l,g p.1≠j)
 |[],_,_=>⟨λ _ h=>by simp[lk]at h,λ_=>by simp⟩
 |(k0,x0)::r,j,hi=>by
  obtain⟨i1,i2⟩:=ajW f g r j (λ p hp q hq=>hi p (by simp[hp]) q (by simp[hq]));simp only[aF,lk];by_cases h:g k0=j
  .rw[aT h];exact⟨λ y hy=>by injection hy with hy;exact⟨k0,x0,by simp,h,hy.symm⟩,λhn=>by cases hn⟩
  .grind
structure Ext(ds:Nat->Prop)(s s':c9 X):Prop where
 env:∀t,¬ds t->ey s'.env t=ey s.env t\/ey s'.env t= .undef
 obj:∃d,s'.log=d++s.log/\∀k,k<s.nx->k∉d->fL s'.obj k=fL s.obj k\/fL s'.obj k=none
 nx:s.nx<=s'.nx
variable {Γ:FuncId->Option (bz X)} {fz:List Nat} {T:dC} {an:TypeId->Option (CT X.ι)} {P:Program} {N:Nat}
theorem OE(s:c9 X)(e:U (Nat×DV X))(o:U (Nat×Option (bp X)))(sz t:Nat):ey (fin s e o sz).env t=match lk e t with |some d=>Lo (m7 (fN s.nx) d) |none=>ey s.env t:=by
 simp only[fin,ey,DX,amT (λ d=>Lo (m7 (fN s.nx) d))];cases lk e t<;>rfl
theorem adM(hT:eZ P T)(hm:P.follows .mixedOrders=true)(hΓ:sA P Γ){id:Nat}{am:Array Oper}{d:Bool}{s:c9 X}{k:c9 X->J A}{r:A}(hl:Low s)(h:Z3 Γ fz T an N am d s k=some r):
 ∃s':c9 X,k s'=some r/\Low s'/\Ext (Ud am) s s'/\Ev P N (.region id am d) (λ e σ=>e= .normal/\σ=s'.st) s.st:=by
 unfold Z3 at h;obtain⟨tr,e,o,h1,h2,h3,h4⟩:=Ff hΓ _ _ _ _ h;have⟨h5,h6⟩:=dL h2;simp only[amR,aG,append_nil]at h5;obtain⟨⟨⟨⟨hd,hlex⟩,hE⟩,hO⟩,hnx⟩:=h5;have hle:s.nx+64*am.size<=1000000:=of_decide_eq_true hnx;have HN:(tr.map (·.1)).Nodup:=by rw[h1];exact List.nodup_range
 have TZ:∀t x,lk e t=some x->∀j∈bm x,j<s.nx\/(1000000<=j/\j<1000000+64*am.size):=by
  intro t x hx j hj;have:=all_eq_true.1 hE _ (tO hx);exact Yh (all_eq_true.1 this j hj)
 have H0:∀p∈o,(p.1<s.nx\/(1000000<=p.1/\p.1<1000000+64*am.size))/\∀x,p.2=some x->∀j∈dE x,j<s.nx\/(1000000<=j/\j<1000000+64*am.size):=by
  intro p hp;have:=all_eq_true.1 hO _ hp;simp only[aG]at this;refine⟨Yh this.1,λx hx j hj=>?_⟩;have h2:=this.2;rw[hx]at h2;exact Yh (all_eq_true.1 h2 j hj)
 have hinj:∀p∈o,∀q∈o,fN s.nx p.1=fN s.nx q.1->p.1=q.1:=by
  intro p hp q hq he;have:=congrArg (gN s.nx) he
  rwa [UP hle (H0 p hp).1,UP hle (H0 q hq).1]at this
 have xt:∀j,(∃ q x,lk o q=some x/\fN s.nx q=j/\fL (fin s e o (64*am.size)).obj j=x.map (ox (fN s.nx)))\/(fL (fin s e o (64*am.size)).obj j=fL s.obj j/\∀p∈o,fN s.nx p.1≠j):=by
  intro j;obtain⟨i1,i2⟩:=ajW (λ x:Option (bp X)=>x.map (ox (fN s.nx))) (fN s.nx) o j hinj;simp only[fin,fL,DX];cases hj:lk (o.map λp=>(fN s.nx p.1,p.2.map (ox (fN s.nx)))) j with
  |none=>exact .inr ⟨rfl,i2 hj⟩
  |some y=>
   have⟨q,x,g1,g2,g3⟩:=i1 y hj;exact .inl ⟨q,x,g1,g2,by rw[g3];rfl⟩
 refine⟨fin s e o (64*am.size),h6,?_,?_,?_⟩
 .constructor
  .exact hle
  .have:=hl.ge;show 1000<=s.nx+64*am.size;omega
  .intro t j hj;rw[OE]at hj;cases ht:lk e t with
   |none=>rw[ht]at hj;have:=hl.env t j hj;show j<s.nx+64*am.size;omega
   |some x=>
    rw[ht,acu,Yj]at hj;obtain⟨q,hq,rfl⟩:=mem_map.1 hj;exact GT hle (TZ t x ht q hq)
  .intro j x hx;rcases xt j with ⟨q,y,g1,rfl,g3⟩ |⟨g1,_⟩
   .rw[g3]at hx;rw[eH]at hx;obtain⟨z,rfl,rfl⟩:=hx;obtain⟨k1,k2⟩:=H0 _ (tO g1);refine⟨GT hle k1,λi hi=>?_⟩;rw[afD]at hi;obtain⟨i',hi',rfl⟩:=mem_map.1 hi;exact GT hle (k2 z rfl i' hi')
   .rw[g1]at hx;have⟨k1,k2⟩:=hl.obj j x hx;refine⟨show j<s.nx+64*am.size by omega,λi hi=>?_⟩;have:=k2 i hi;show i<s.nx+64*am.size;omega
 .refine⟨λ t ht=> .inl ?_,⟨o.map (λ p=>fN s.nx p.1),rfl,λj hj hn=>?_⟩,by show s.nx<=s.nx+64*am.size;omega⟩
  .rw[OE];cases hx:lk e t with
   |none=>rfl
   |some x=>
    rcases h3 _ (tO hx)with h |h
    .simp at h
    .exact(ht h).elim
  .rcases xt j with ⟨q,y,g1,g2,g3⟩ |⟨g1,_⟩
   .exact(hn (mem_map.2 ⟨(q,y),tO g1,g2⟩)).elim
   .exact .inl g1
 .have hst:iO s [] []=s.st:=rfl;have hex:=h4 (GS tr) (amS HN);rw[hst]at hex;intro w0 O0 β I a w hr ho;have done:∀(e':Exit)(a':Act)(w':World),(∃ β' I' σ1,Rel P w0 O0 N β' I' σ1 a' w'/\e'= .normal/\σ1=iO s e o)->∃ β' I' σ1,Rel P w0 O0 N β' I' σ1 a' w'/\tG σ1/\e'= .normal/\σ1=(fin s e o (64*am.size)).st:=by
   rintro e' a' w' ⟨β',I',σ1,g1,rfl,rfl⟩;refine⟨_,I',(fin s e o (64*am.size)).st,Rel.re (f:=fN s.nx) (g:=gN s.nx) (D:=λk=>k<s.nx\/(1000000<=k/\k<1000000+64*am.size)) (λ k hk=>UP hle hk) (λ j hj=>by have:=hl.ge;unfold gN;rw[aT (by omega)]) g1 (λ t=>?_) (λ _=>rfl) (λ t=> .inr ?_) (λ j o' hj=>?_),?_,rfl,rfl⟩
   .show(match lk e t with |some .skip=>some false |_=>none)=none\/den (ey (fin s e o (64*am.size)).env t)= .undef;rw[OE];cases ht:lk e t with
    |none=>exact .inl rfl
    |some d=>cases d<;>first |exact .inl rfl |exact .inr rfl
   .show(∀ k∈refs (den (oS e s.env t)),_)/\k9 (fx (fN s.nx) (den (oS e s.env t))) (den (ey (fin s e o (64*am.size)).env t));rw[OE,jc,<- Bo];unfold oS;cases ht:lk e t with
    |none=>
     refine⟨λ q hq=> .inl (hl.env t q hq),?_⟩;rw[Yi _ (λ q hq=>OF (by omega) (hl.env t q hq))];exact k9.refl _
    |some x=>exact⟨TZ t x ht,by simp only[amQ];exact k9.refl _⟩
   .simp only[c9.st,eH]at hj;obtain⟨x,hx,rfl⟩:=hj;rcases xt j with ⟨q,y,i1,rfl,i3⟩ |⟨i1,i2⟩
    .rw[i3,eH]at hx;obtain⟨z,rfl,rfl⟩:=hx;obtain⟨k1,k2⟩:=H0 _ (tO i1);obtain⟨r1,r2⟩:=KM (D:=λk=>k<s.nx\/(1000000<=k/\k<1000000+64*am.size)) (fN s.nx) z (λ i hi=>k2 z rfl i hi);refine⟨q,bG z,?_,k1,rfl,r1,r2⟩;simp only[iO,xn,i1,Option.map_some]
    .rw[i1]at hx;have⟨k1,k2⟩:=hl.obj j x hx;have hid:ox (fN s.nx) x=x:=by
      cases x with
      |da c l=>rfl
      |map kc vc l=>rfl
      |cells sz rows=>
       simp only[ox];congr 1;have:∀q∈rows,Lc (fN s.nx) q=q:=λq hq=>Bq q λi hi=>OF (by omega) (k2 i (by
        simp only[dE,List.mem_flatten,mem_map];exact⟨_,⟨q,hq,rfl⟩,hi⟩))
       rw[map_congr_left this];simp
     obtain⟨r1,r2⟩:=KM (D:=λk=>k<s.nx\/(1000000<=k/\k<1000000+64*am.size)) (fN s.nx) x (λ i hi=> .inl (k2 i hi));rw[hid]at r1 r2;refine⟨j,bG x,?_,.inl k1,OF (by omega) k1,r1,r2⟩;simp only[iO,xn];cases hlo:lk o j with
     |none=>simp[hx]
     |some y=>exact(i2 _ (tO hlo) (OF (by omega) k1)).elim
   .have hL:Low (fin s e o (64*am.size)):=by
     constructor
     .exact hle
     .have:=hl.ge;show 1000<=s.nx+64*am.size;omega
     .intro t j hj;rw[OE]at hj;cases ht:lk e t with
      |none=>rw[ht]at hj;have:=hl.env t j hj;show j<s.nx+64*am.size;omega
      |some x=>
       rw[ht,acu,Yj]at hj;obtain⟨q,hq,rfl⟩:=mem_map.1 hj;exact GT hle (TZ t x ht q hq)
     .intro j x hx;rcases xt j with ⟨q,y,g1,rfl,g3⟩ |⟨g1,_⟩
      .rw[g3]at hx;rw[eH]at hx;obtain⟨z,rfl,rfl⟩:=hx;obtain⟨k1,k2⟩:=H0 _ (tO g1);refine⟨GT hle k1,λi hi=>?_⟩;rw[afD]at hi;obtain⟨i',hi',rfl⟩:=mem_map.1 hi;exact GT hle (k2 z rfl i' hi')
      .rw[g1]at hx;have⟨k1,k2⟩:=hl.obj j x hx;refine⟨show j<s.nx+64*am.size by omega,λi hi=>?_⟩;have:=k2 i hi;show i<s.nx+64*am.size;omega
    exact hL.old
  cases d with
  |false=>exact wp_mono (akF hT hd ho hex hr) done
  |true=>
   refine wp_mono (Xv hT hm hd ?_ ho hex hr) done;rw[<- afC (aqk HN)];simpa using hlex
end
end Go.Gb
namespace Go.Gb
open Go.RowKit
structure Sh(ι:Type) where
 slots:List (Nat×Pt ι)
 cD:List (Nat×OP ι)
 keep:List Nat
 c7:List Nat
 nx:Nat
 A3:List (Nat×CT ι)
def Sh.vars{ι:Type}(s:Sh ι):U (CT ι):=gA s.slots++cC s.cD
section
variable {X:SX}
def nz(z:Bool)(k:Nat):DV X:=bif z then .oz k 0 else .own k 0 0
def AG(z:Bool)(s:c9 X)(t:Nat)(c:CT X.ι):c9 X:=
 match ey s.env t with
 | .nil=>if s.nx<1000000 then⟨(t,nz z s.nx)::s.env,(s.nx,some (.da c []))::s.obj,s.nx+1,s.nx::s.log⟩else s
 |_=>s
def GP(s:c9 X)(q j:Nat)(c:CT X.ι):c9 X:=
 match fL s.obj q with
 |some (.cells sz [row])=>match row[j]? with
  |some .nil=>if s.nx<1000000 then⟨s.env,(q,some (.cells sz [row.set j (.own s.nx 0 0)]))::(s.nx,some (.da c []))::s.obj,s.nx+1,q::s.nx::s.log⟩else s
  |_=>s
 |_=>s
def Rm:U (Nat×CT X.ι)->c9 X->c9 X
 |[],s=>s
 |(t,c)::r,s=>Rm r (bif Nat.ble 1000000 t then bif Nat.ble 1099511627776 t then AG true s (t -1099511627776) c else GP s ((t -1000000)/4096) ((t -1000000)%4096) c else AG false s t c)
def isU:DV X->Bool
 | .undef | .skip=>true
 |_=>false
def encS(sh:Sh X.ι)(s0:c9 X)(v:VT (X:=X) sh.vars):c9 X:=
 let L:=xq sh.vars v
 let n:=(gA sh.slots).length
 let ol:=λk=>(lk (lens sh.cD (L.drop n)) k).getD 0
 ⟨MK ol sh.slots (L.take n)++sh.keep.map (λ t=>(t,ey s0.env t)),cB ol sh.cD (L.drop n)++sh.c7.map (λ k=>(k,fL s0.obj k)),sh.nx,
  (List.range s0.nx).filter (λ k=>!sh.c7.contains k)++s0.log⟩
def okS(sh:Sh X.ι)(ds:U Nat)(s0 s':c9 X)(m:MA X):Bool:=
 decide (m.nm.map (·.1)++sh.c7).Nodup&&decide (m.nm.map (·.2)++sh.c7).Nodup&&decide (sh.cD.map (·.1)).Nodup&&m.nm.all (λ q=>(sh.cD.map (·.1)).contains q.2&&decide (q.2<sh.nx)&&(decide (q.1=q.2) || decide (1000<=q.2)))&&
  sh.slots.all (λ p=>ds.contains p.1)&&sh.keep.all (λ t=>!ds.contains t&&!isU (ey s'.env t)&&(bm (ey s0.env t)).all λj=>sh.c7.contains j || m.nm.contains (j,j))&&
  sh.c7.all (λ k=>decide (k<s0.nx)&&!(s'.log.take (s'.log.length -s0.log.length)).contains k&&(fL s'.obj k).isSome&&match fL s0.obj k with |some o=>(dE o).all λj=>sh.c7.contains j || m.nm.contains (j,j) |none=>false)&&
  decide (s0.nx<=sh.nx)&&decide (sh.nx<=1000000)
def P3{A:Type}(sh:Sh X.ι)(ds:U Nat)(s0 s':c9 X)(k:VT (X:=X) sh.vars->J A):J A:=
 (Ja (fL s'.obj) (ey s'.env) sh.slots ⟨[],[],[]⟩).bind λm=>(DL (fL s'.obj) sh.cD m).bind λm=>bif okS sh ds s0 s' m then(we sh.vars m.ek).bind λv=>XE m.ip (k v)else none
def rz{A:Type}(sh:Sh X.ι)(ds:U Nat)(s0 s':c9 X)(k:VT (X:=X) sh.vars->J A):J A:=
 bif sh.A3.all (λ p=>bif Nat.ble 1000000 p.1 then !Nat.ble 1099511627776 p.1 || ds.contains (p.1 -1099511627776)else ds.contains p.1)then P3 sh ds s0 (Rm sh.A3 s') k else none
end
section
variable {X:SX}
theorem acw{d:DV X}{c:CT X.ι}{x:CT.T X.toSE c}(h:Lb d c=some x):bm d=[]:=by
 cases d
 case c=>rfl
 case nil=>rfl
 all_goals cases c<;>cases h
theorem Ue:∀{ds:U (DV X)}{l:U (CT X.ι)}{h:HL X.toSE l},zu ds l=some h->aR ds=[]
 |[],[],_,_=>rfl
 |d::ds,c::l,h,hr=>by
  simp only[zu]at hr;have⟨x,h1,hr⟩:=ai.1 hr;have⟨g,h2,hr⟩:=ai.1 hr;simp only[aR,acw h1,Ue h2,append_nil]
 |[],_::_,_,hr=>by simp[zu]at hr
 |_::_,[],_,hr=>by simp[zu]at hr
theorem aoN{d:DV X}{c:CT X.ι}{x:CT.T X.toSE c}(h:dat d c=some x):k9 (den d) (den (.c c x:DV X))/\bm d=[]:=by
 cases c
 case st i=>
  replace h:D4 d i=some x:=h
  cases d
  case agg cs=>
   simp only[D4]at h;have⟨g,h1,h⟩:=ai.1 h;cases h;refine⟨λ P β w I v hv=>?_,by simp only[bm,Ue h1]⟩;have h2:=(zw h1 (X.flat i)).1;simp only[den,VR]at hv;obtain⟨vs,rfl,hv⟩:=hv;show VR P β w I (.agg ((X.row i (X.make i g)).map AV.t)) _;have h3:(X.row i (X.make i g)).map AV.t=(bM cs).map Gb.wk:=(by rw[h2];exact congrArg _ (X.fX i g));rw[h3];simp only[VR];exact⟨vs,rfl,bj.wk _ _ hv⟩
  case c a y=>
   replace h:gF a (.st i) y=some x:=h
   rw[(jb h).1];exact⟨k9.refl _,rfl⟩
  all_goals cases h
 all_goals
  have h1:=xg h;refine⟨λ P β w I v hv=>?_,acw h⟩;simp only[den];rw[<- h1];exact hv.wk
def ga(m m':MA X):Prop:=(∀ q∈m.nm,q∈m'.nm)/\(∀ c∈m.ip,c∈m'.ip)
theorem ga.refl(m:MA X):ga m m:=⟨λ _ h=>h,λ_ h=>h⟩
theorem ga.trans{a b c:MA X}(h:ga a b)(h':ga b c):ga a c:=⟨λ q hq=>h'.1 q (h.1 q hq),λq hq=>h'.2 q (h.2 q hq)⟩
theorem fC(m:MA X)(k' k:Nat):(addN m k' k).ek=m.ek/\(addN m k' k).ip=m.ip:=by grind [addN]
theorem oP(m:MA X)(k' k:Nat):(k',k)∈(addN m k' k).nm:=by grind [addN]
theorem qG(m:MA X)(k' k:Nat):ga m (addN m k' k):=by
 unfold addN;split
 .exact ga.refl m
 .exact⟨λ q hq=>by simp[hq],λ_ h=>h⟩
variable {get:Nat->Option (bp X)}
mutual
theorem ajX:∀(p:Pt X.ι)(d:DV X)(m m':MA X),mP get p d m=some m'->ga m m'/\∃ao,m'.ek=m.ek++ao/\ao.length=p.vars.length
 | .v c,d,m,m',h=>by
  simp only[mP]at h;rw[ai]at h;obtain⟨x,h1,h⟩:=h;cases h;exact⟨⟨λ _ h=>h,λ_ h=>h⟩,[⟨c,x⟩],rfl,rfl⟩
 | .o k,d,m,m',h=>by
  simp only[mP]at h;split at h
  .rename_i k' len;have⟨o,h1,h⟩:=ai.1 h;split at h
   .cases h;refine⟨ga.trans (b:=⟨m.nm,m.ek,m.ip++_⟩) ⟨λ _ h=>h,λ_ h=>by simp[h]⟩ (qG _ _ _),[],by rw[(fC _ _ _).1];simp,rfl⟩
   .cases h
  .cases h
 | .oz k,d,m,m',h=>by
  simp only[mP]at h;split at h
  .have⟨o,h1,h⟩:=ai.1 h;split at h
   .cases h;refine⟨ga.trans (b:=⟨m.nm,m.ek,m.ip++_⟩) ⟨λ _ h=>h,λ_ h=>by simp[h]⟩ (qG _ _ _),[],by rw[(fC _ _ _).1];simp,rfl⟩
   .cases h
  .have⟨o,h1,h⟩:=ai.1 h;split at h
   .cases h;refine⟨ga.trans (b:=⟨m.nm,m.ek,m.ip++_⟩) ⟨λ _ h=>h,λ_ h=>by simp[h]⟩ (qG _ _ _),[],by rw[(fC _ _ _).1];simp,rfl⟩
   .cases h
  .cases h
 | .p k,d,m,m',h=>by
  simp only[mP]at h;split at h
  .cases h;exact⟨qG _ _ _,[],by rw[(fC _ _ _).1];simp,rfl⟩
  .cases h
 | .mp k,d,m,m',h=>by
  simp only[mP]at h;split at h
  .cases h;exact⟨qG _ _ _,[],by rw[(fC _ _ _).1];simp,rfl⟩
  .cases h
 | .nil,d,m,m',h=>by
  simp only[mP]at h;split at h
  .cases h;exact⟨ga.refl _,[],by simp,rfl⟩
  .cases h
 | .f F fs cs,d,m,m',h=>by
  simp only[mP]at h;split at h
  .split at h
   .rw[ai]at h;obtain⟨m1,h1,h⟩:=h;obtain⟨a1,n1,b1,c1⟩:=zG fs _ m m1 h1;obtain⟨a2,n2,b2,c2⟩:=zG cs _ m1 m' h;exact⟨a1.trans a2,n1++n2,by rw[b2,b1,aM],by simp[Pt.vars,c1,c2]⟩
   .cases h
  .cases h
 | .od k,d,m,m',h=>by
  simp only[mP]at h;split at h
  .rename_i k' aa len;have⟨o,h1,h⟩:=ai.1 h;split at h
   .cases h;refine⟨ga.trans (b:=⟨m.nm,m.ek++[⟨.int .i64,(aa:Int)⟩],m.ip++_⟩) ⟨λ _ h=>h,λ_ h=>by simp[h]⟩ (qG _ _ _),[⟨.int .i64,(aa:Int)⟩],by rw[(fC _ _ _).1],rfl⟩
   .cases h
  .cases h
 | .a ps,d,m,m',h=>by
  simp only[mP]at h;split at h
  .exact zG ps _ m m' h
  .cases h
theorem zG:∀(ps:List (Pt X.ι))(ds:List (DV X))(m m':MA X),sY get ps ds m=some m'->ga m m'/\∃ao,m'.ek=m.ek++ao/\ao.length=(cI ps).length
 |[],[],m,m',h=>by
  simp only[sY,ay]at h;subst h;exact⟨ga.refl _,[],by simp,rfl⟩
 |p::ps,d::ds,m,m',h=>by
  simp only[sY]at h;have⟨m1,h1,h⟩:=ai.1 h;have⟨a1,n1,b1,c1⟩:=ajX p d m m1 h1;have⟨a2,n2,b2,c2⟩:=zG ps ds m1 m' h;exact⟨a1.trans a2,n1++n2,by rw[b2,b1,aM],by simp[cI,c1,c2]⟩
 |[],_::_,m,m',h=>by simp[sY]at h
 |_::_,[],m,m',h=>by simp[sY]at h
end
theorem zH:∀(rs:U (List (Pt X.ι)))(qs:U (List (DV X)))(m m':MA X),Gt get rs qs m=some m'->ga m m'/\∃ao,m'.ek=m.ek++ao/\ao.length=(xk rs).length
 |[],[],m,m',h=>by
  simp only[Gt,ay]at h;subst h;exact⟨ga.refl _,[],by simp,rfl⟩
 |r::rs,q::qs,m,m',h=>by
  simp only[Gt]at h;have⟨m1,h1,h⟩:=ai.1 h;have⟨a1,n1,b1,c1⟩:=zG r q m m1 h1;have⟨a2,n2,b2,c2⟩:=zH rs qs m1 m' h;exact⟨a1.trans a2,n1++n2,by rw[b2,b1,aM],by simp[xk,c1,c2]⟩
 |[],_::_,m,m',h=>by simp[Gt]at h
 |_::_,[],m,m',h=>by simp[Gt]at h
section
variable {NM:List (Nat×Nat)} {f:Nat->Nat} {dg:Nat->Nat}
def DN(NM:U (Nat×Nat))(j:Nat):Prop:=∃k,(j,k)∈NM
def SN(NM:U (Nat×Nat))(j:Nat):Prop:=∃k,(k,j)∈NM
theorem OG{D:Nat->Prop}{f:Nat->Nat}{P:Program}{β:Nat->J cE}{w:World}{I:Nat->Prop}:∀{a b:U AV}(_:mm D f a b)(u:U Value),bj P β w I (Av f a) u->bj P β w I b u
 |[],[],_,u,hu=>hu
 |[],_::_,hr,_,_=>hr.elim
 |_::_,[],hr,_,_=>hr.elim
 |y::ys,z::zs,hr,[],hu=>by simp[Av,bj]at hu
 |y::ys,z::zs,hr,v::vs,hu=>by
  simp only[Av,bj]at hu ⊢;exact⟨hr.1.2 _ _ _ _ _ hu.1,OG hr.2 vs hu.2⟩
mutual
theorem afF(hf:∀q∈NM,f q.1=q.2)(ho:∀q∈NM,∀c l,get q.1=some (.da c l)->dg q.2=l.length):∀(p:Pt X.ι)(d:DV X)(m m':MA X),mP get p d m=some m'->(∀ q∈m'.nm,q∈NM)->(∀ c∈m'.ip,c=true)->
 ∃ao,m'.ek=m.ek++ao/\∃d',(∀ ag,eP dg p (ao++ag)=(d',ag))/\k9 (fx f (den d)) (den d')/\(∀ j∈bm d,DN NM j)/\(∀ j∈bm d',SN NM j)
 | .v c,d,m,m',h,_,_=>by
  simp only[mP]at h;rw[ai]at h;obtain⟨x,h1,h⟩:=h;cases h;have⟨h2,h3⟩:=aoN h1;refine⟨[⟨c,x⟩],rfl,.c c x,λag=>rfl,?_,by simp[h3],by simp[bm]⟩;rw[<- Bo,Yi d (by simp[h3])];exact h2
 | .o k,d,m,m',h,hn,hc=>by
  simp only[mP]at h;split at h
  .rename_i k' len;rw[ai]at h;obtain⟨o,h1,h⟩:=h;split at h
   .rename_i c l;cases h;have hq:(k',k)∈NM:=hn _ (oP _ _ _);have he:len=l.length:=by
     have:=hc (be len l.length) (by rw[(fC _ _ _).2];simp);simpa[be]using this
    refine⟨[],by rw[(fC _ _ _).1];simp,.own k 0 (dg k),λag=>rfl,?_,?_,?_⟩
    .simp only[den,fx];rw[hf _ hq,ho _ hq c l h1,he];exact k9.refl _
    .intro j hj;simp only[bm,aY]at hj;subst hj;exact⟨k,hq⟩
    .intro j hj;simp only[bm,aY]at hj;subst hj;exact⟨k',hq⟩
   .cases h
  .cases h
 | .oz k,d,m,m',h,hn,hc=>by
  simp only[mP]at h;split at h
  .rename_i k' len;rw[ai]at h;obtain⟨o,h1,h⟩:=h;split at h
   .rename_i c l;cases h;have hq:(k',k)∈NM:=hn _ (oP _ _ _);have he:len≠0/\len=l.length:=by
     have:=hc (!(len==0)&&be len l.length) (by rw[(fC _ _ _).2];simp);simpa[be]using this
    refine⟨[],by rw[(fC _ _ _).1];simp,.oz k (dg k),λag=>rfl,?_,λj hj=>?_,λj hj=>?_⟩
    .simp only[den,fx];rw[hf _ hq,ho _ hq c l h1,<- he.2];intro P β w I v hv;simp only[VR]at hv ⊢;exact .inr ⟨he.1,hv.resolve_left λh=>he.1 h.2.2.2⟩
    .simp only[bm,aY]at hj;subst hj;exact⟨k,hq⟩
    .simp only[bm,aY]at hj;subst hj;exact⟨k',hq⟩
   .cases h
  .rename_i k' len;rw[ai]at h;obtain⟨o,h1,h⟩:=h;split at h
   .rename_i c l;cases h;have hq:(k',k)∈NM:=hn _ (oP _ _ _);have he:len=l.length:=by
     have:=hc (be len l.length) (by rw[(fC _ _ _).2];simp);simpa[be]using this
    refine⟨[],by rw[(fC _ _ _).1];simp,.oz k (dg k),λag=>rfl,?_,λj hj=>?_,λj hj=>?_⟩
    .simp only[den,fx];rw[hf _ hq,ho _ hq c l h1,he];exact k9.refl _
    .simp only[bm,aY]at hj;subst hj;exact⟨k,hq⟩
    .simp only[bm,aY]at hj;subst hj;exact⟨k',hq⟩
   .cases h
  .cases h
 | .p k,d,m,m',h,hn,hc=>by
  simp only[mP]at h;split at h
  .rename_i k';cases h;have hq:(k',k)∈NM:=hn _ (oP _ _ _);refine⟨[],by rw[(fC _ _ _).1];simp,.ptr k 0 0,λag=>rfl,?_,?_,?_⟩
   .simp only[den,fx];rw[hf _ hq];exact k9.refl _
   .intro j hj;simp only[bm,aY]at hj;subst hj;exact⟨k,hq⟩
   .intro j hj;simp only[bm,aY]at hj;subst hj;exact⟨k',hq⟩
  .cases h
 | .mp k,d,m,m',h,hn,hc=>by
  simp only[mP]at h;split at h
  .rename_i k';cases h;have hq:(k',k)∈NM:=hn _ (oP _ _ _);refine⟨[],by rw[(fC _ _ _).1];simp,.mp k,λag=>rfl,?_,?_,?_⟩
   .simp only[den,fx];rw[hf _ hq];exact k9.refl _
   .intro j hj;simp only[bm,aY]at hj;subst hj;exact⟨k,hq⟩
   .intro j hj;simp only[bm,aY]at hj;subst hj;exact⟨k',hq⟩
  .cases h
 | .nil,d,m,m',h,_,_=>by
  simp only[mP]at h;split at h
  .cases h;exact⟨[],by simp,.nil,λag=>rfl,k9.refl _,by simp[bm],by simp[bm]⟩
  .cases h
 | .f F fs cs,d,m,m',h,hn,hc=>by
  simp only[mP]at h;split at h
  .rename_i F' first caps
   split at h
   .rename_i e;subst e;rw[ai]at h;obtain⟨m1,h1,h⟩:=h;have hm:=(zG cs _ m1 m' h).1;obtain⟨n1,a1,f',b1,c1,e1,g1⟩:=DY hf ho fs _ m m1 h1 (λ q hq=>hn q (hm.1 q hq)) (λ q hq=>hc q (hm.2 q hq));obtain⟨n2,a2,c',b2,c2,e2,g2⟩:=DY hf ho cs _ m1 m' h hn hc;refine⟨n1++n2,by rw[a2,a1,aM],.fn F f' c',λag=>by simp only[eP,aM,b1,b2],?_,?_,?_⟩
    .intro P β w I v hv;simp only[den,fx,VR]at hv ⊢;obtain⟨us,vs,rfl,hu,hv⟩:=hv;exact⟨us,vs,rfl,OG c1 _ hu,OG c2 _ hv⟩
    .intro j hj;simp only[bm,bg]at hj;exact hj.elim (e1 j) (e2 j)
    .intro j hj;simp only[bm,bg]at hj;exact hj.elim (g1 j) (g2 j)
   .cases h
  .cases h
 | .od k,d,m,m',h,hn,hc=>by
  simp only[mP]at h;split at h
  .rename_i k' aa len;rw[ai]at h;obtain⟨o,h1,h⟩:=h;split at h
   .rename_i c l;cases h;have hq:(k',k)∈NM:=hn _ (oP _ _ _);have he:aa+len=l.length:=by
     have:=hc (be (aa+len) l.length) (by rw[(fC _ _ _).2];simp);simpa[be]using this
    refine⟨[⟨.int .i64,(aa:Int)⟩],by rw[(fC _ _ _).1],.own k aa (dg k -aa),λag=>?_,?_,?_,?_⟩
    .simp only[eP,cons_append,bI];have:G4 (X:=X) ⟨.int .i64,(aa:Int)⟩=aa:=by
      simp only[G4];rw[XQ];simp
     rw[this]
    .simp only[den,fx];rw[hf _ hq,ho _ hq c l h1,show l.length -aa=len by omega];exact k9.refl _
    .intro j hj;simp only[bm,aY]at hj;subst hj;exact⟨k,hq⟩
    .intro j hj;simp only[bm,aY]at hj;subst hj;exact⟨k',hq⟩
   .cases h
  .cases h
 | .a ps,d,m,m',h,hn,hc=>by
  simp only[mP]at h;split at h
  .rename_i ds;have⟨ao,h1,ds',h2,h3,h4,h5⟩:=DY hf ho ps ds m m' h hn hc;refine⟨ao,h1,.agg ds',λag=>by simp only[eP,h2],?_,by simpa[bm]using h4,by simpa[bm]using h5⟩;intro P β w I v hv;simp only[den,fx,VR]at hv ⊢;obtain⟨vs,rfl,hv⟩:=hv;refine⟨vs,rfl,?_⟩;exact OG h3 _ hv
  .cases h
theorem DY(hf:∀q∈NM,f q.1=q.2)(ho:∀q∈NM,∀c l,get q.1=some (.da c l)->dg q.2=l.length):∀(ps:List (Pt X.ι))(ds:List (DV X))(m m':MA X),sY get ps ds m=some m'->(∀ q∈m'.nm,q∈NM)->(∀ c∈m'.ip,c=true)->
 ∃ao,m'.ek=m.ek++ao/\∃ds',(∀ ag,k8 dg ps (ao++ag)=(ds',ag))/\mm (DN NM) f (bM ds) (bM ds')/\(∀ j∈aR ds,DN NM j)/\(∀ j∈aR ds',SN NM j)
 |[],[],m,m',h,_,_=>by
  simp only[sY,ay]at h;subst h;exact⟨[],by simp,[],λag=>rfl,trivial,by simp[aR],by simp[aR]⟩
 |p::ps,d::ds,m,m',h,hn,hc=>by
  simp only[sY]at h;have⟨m1,h1,h⟩:=ai.1 h;have hm:=(zG ps ds m1 m' h).1;obtain⟨n1,a1,d',b1,c1,e1,g1⟩:=afF hf ho p d m m1 h1 (λ q hq=>hn q (hm.1 q hq)) (λ q hq=>hc q (hm.2 q hq));have⟨n2,a2,ds',b2,c2,e2,g2⟩:=DY hf ho ps ds m1 m' h hn hc;refine⟨n1++n2,by rw[a2,a1,aM],d'::ds',λag=>?_,⟨⟨λ k hk=>e1 k (by rwa [jc]at hk),c1⟩,c2⟩,?_,?_⟩
  .simp only[k8,aM,b1,b2]
  .intro j hj;simp only[aR,bg]at hj;exact hj.elim (e1 j) (e2 j)
  .intro j hj;simp only[aR,bg]at hj;exact hj.elim (g1 j) (g2 j)
 |[],_::_,m,m',h,_,_=>by simp[sY]at h
 |_::_,[],m,m',h,_,_=>by simp[sY]at h
end
theorem Uf(hf:∀q∈NM,f q.1=q.2)(ho:∀q∈NM,∀c l,get q.1=some (.da c l)->dg q.2=l.length):∀(rs:U (List (Pt X.ι)))(qs:U (List (DV X)))(m m':MA X),Gt get rs qs m=some m'->(∀ q∈m'.nm,q∈NM)->(∀ c∈m'.ip,c=true)->
 ∃ao,m'.ek=m.ek++ao/\∃E7,(∀ ag,xu dg rs (ao++ag)=(E7,ag))/\hZ (DN NM) f (qs.map bM) (E7.map bM)/\(∀ j∈(qs.map aR).flatten,DN NM j)/\(∀ j∈(E7.map aR).flatten,SN NM j)
 |[],[],m,m',h,_,_=>by
  simp only[Gt,ay]at h;subst h;exact⟨[],by simp,[],λag=>rfl,trivial,by simp,by simp⟩
 |r::rs,q::qs,m,m',h,hn,hc=>by
  simp only[Gt]at h;have⟨m1,h1,h⟩:=ai.1 h;have hm:=(zH rs qs m1 m' h).1;obtain⟨n1,a1,d',b1,c1,e1,g1⟩:=DY hf ho r q m m1 h1 (λ q hq=>hn q (hm.1 q hq)) (λ q hq=>hc q (hm.2 q hq));have⟨n2,a2,ds',b2,c2,e2,g2⟩:=Uf hf ho rs qs m1 m' h hn hc;refine⟨n1++n2,by rw[a2,a1,aM],d'::ds',λag=>?_,⟨c1,c2⟩,?_,?_⟩
  .simp only[xu,aM,b1,b2]
  all_goals grind
 |[],_::_,m,m',h,_,_=>by simp[Gt]at h
 |_::_,[],m,m',h,_,_=>by simp[Gt]at h
end
end
section
variable {X:SX} {get:Nat->Option (bp X)} {env:Nat->DV X}
theorem Je:∀(sl:U (Nat×Pt X.ι))(m m':MA X),Ja get env sl m=some m'->ga m m'/\∃ao,m'.ek=m.ek++ao/\ao.length=(gA sl).length
 |[],m,m',h=>by
  simp only[Ja,ay]at h;subst h;exact⟨ga.refl _,[],by simp,rfl⟩
 |(t,p)::r,m,m',h=>by
  simp only[Ja]at h;rw[ai]at h;obtain⟨m1,h1,h⟩:=h;obtain⟨a1,n1,b1,c1⟩:=ajX p _ m m1 h1;have⟨a2,n2,b2,c2⟩:=Je r m1 m' h;exact⟨a1.trans a2,n1++n2,by rw[b2,b1,aM],by simp[gA,c1,c2]⟩
theorem mR:∀(os:U (Nat×OP X.ι))(m m':MA X),DL get os m=some m'->ga m m'/\∃ao,m'.ek=m.ek++ao/\ao.length=(cC os).length
 |[],m,m',h=>by
  simp only[DL,ay]at h;subst h;exact⟨ga.refl _,[],by simp,rfl⟩
 |(k,op)::r,m,m',h=>by
  simp only[DL]at h;rw[ai]at h;obtain⟨o,h1,h⟩:=h;split at h
  .rename_i c c' l;rw[ai]at h;obtain⟨l',h2,h⟩:=h;obtain⟨a2,n2,b2,c2⟩:=mR r _ m' h;refine⟨ga.trans (ga.trans (b:=⟨m.nm,m.ek++[⟨.sl c,l'⟩],m.ip⟩) ⟨λ _ h=>h,λ_ h=>h⟩ (qG _ _ _)) a2,[⟨.sl c,l'⟩]++n2,?_,by simp[cC,c2]⟩;rw[b2,(fC _ _ _).1,aM]
  .rename_i kc vc tS tI l;rw[ai]at h;obtain⟨l',h2,h⟩:=h;obtain⟨a2,n2,b2,c2⟩:=mR r _ m' h;refine⟨ga.trans (ga.trans (b:=⟨m.nm,m.ek++[⟨.mp kc vc,l'⟩],m.ip⟩) ⟨λ _ h=>h,λ_ h=>h⟩ (qG _ _ _)) a2,[⟨.mp kc vc,l'⟩]++n2,?_,by simp[cC,c2]⟩;rw[b2,(fC _ _ _).1,aM]
  .rename_i sz rows sz' rows';split at h
   .rw[ai]at h;obtain⟨m1,h2,h⟩:=h;obtain⟨a1,n1,b1,c1⟩:=zH rows _ _ m1 h2;have⟨a2,n2,b2,c2⟩:=mR r m1 m' h;refine⟨((qG m _ _).trans a1).trans a2,n1++n2,?_,by simp[cC,c1,c2]⟩;rw[b2,b1,(fC _ _ _).1,aM]
   .cases h
  .cases h
variable {NM:List (Nat×Nat)} {f:Nat->Nat} {dg:Nat->Nat}
theorem Fg:∀(os:U (Nat×OP X.ι))(m m':MA X),DL get os m=some m'->(∀ q∈m'.nm,q∈NM)->∃ao,m'.ek=m.ek++ao/\∀ag,∀k∈os.map (·.1),∃k' o,(k',k)∈NM/\get k'=some o/\∀c l,o= .da c l->(k,List.length l)∈lens os (ao++ag)
 |[],m,m',h,_=>by
  simp only[DL,ay]at h;subst h;exact⟨[],by simp,λag k hk=>by simp at hk⟩
 |(k,op)::r,m,m',h,hn=>by
  simp only[DL]at h;rw[ai]at h;obtain⟨o,h1,h⟩:=h;split at h
  .rename_i c c' l;rw[ai]at h;obtain⟨l',h2,h⟩:=h;have hm:=(mR r _ m' h).1;obtain⟨n2,b2,c2⟩:=Fg r _ m' h hn;refine⟨[⟨.sl c,l'⟩]++n2,by rw[b2,(fC _ _ _).1,aM],λag j hj=>?_⟩;simp only[aF,aO]at hj;simp only[cons_append,bI,lens];by_cases hjk:j=k
   .subst hjk;refine⟨_,_,hn _ (hm.1 _ (oP _ _ _)),h1,λc2 l2 he=>?_⟩;injection he with e1 e2;subst e1;have e2:=eq_of_heq e2;subst e2;have:=congrArg List.length (jw h2).2;simp only[length_map]at this;rw[this];exact List.mem_cons_self
   .rcases hj with rfl |hj
    .exact(hjk rfl).elim
    .have⟨k',o',g1,g2,g3⟩:=c2 ag j hj;exact⟨k',o',g1,g2,λc l he=>fF _ (g3 c l he)⟩
  .rename_i kc vc tS tI l;rw[ai]at h;obtain⟨l',h2,h⟩:=h;have hm:=(mR r _ m' h).1;obtain⟨n2,b2,c2⟩:=Fg r _ m' h hn;refine⟨[⟨.mp kc vc,l'⟩]++n2,by rw[b2,(fC _ _ _).1,aM],λag j hj=>?_⟩;simp only[aF,aO]at hj;simp only[cons_append,bI,lens,List.drop_succ_cons,List.drop_zero];by_cases hjk:j=k
   .subst hjk;exact⟨_,_,hn _ (hm.1 _ (oP _ _ _)),h1,λc2 l2 he=>by cases he⟩
   .rcases hj with rfl |hj
    .exact(hjk rfl).elim
    .exact c2 ag j hj
  .rename_i sz rows sz' rows';split at h
   .have⟨m1,h2,h⟩:=ai.1 h;obtain⟨a1,n1,b1,c1⟩:=zH rows _ _ m1 h2;have hm:=(mR r _ m' h).1;obtain⟨n2,b2,c2⟩:=Fg r _ m' h hn;refine⟨n1++n2,by rw[b2,b1,(fC _ _ _).1,aM],λag j hj=>?_⟩;simp only[aF,aO]at hj;have hd:(n1++n2++ag).drop (xk rows).length=n2++ag:=(by rw[<- c1,aM,List.drop_left]);simp only[lens,hd];by_cases hjk:j=k
    .subst hjk;exact⟨_,_,hn _ (hm.1 _ (a1.1 _ (oP _ _ _))),h1,λc2 l2 he=>by cases he⟩
    .rcases hj with rfl |hj
     .exact(hjk rfl).elim
     .exact c2 ag j hj
   .cases h
  .cases h
theorem KN:∀(os:U (Nat×OP X.ι))(L:U (DC X)),((lens os L).map (·.1)).Sublist (os.map (·.1))
 |[],_=>by simp[lens]
 |(k,.l c)::r,L=>by
  simp only[lens];split
  .exact(KN r _).cons_cons _
  .exact List.nil_sublist _
 |(k,.m kc vc)::r,L=>by
  simp only[lens];exact(KN r _).cons _
 |(k,.c sz rows)::r,L=>by
  simp only[lens];exact(KN r _).cons _
theorem OH(hf:∀q∈NM,f q.1=q.2)(ho:∀q∈NM,∀c l,get q.1=some (.da c l)->dg q.2=l.length):∀(sl:U (Nat×Pt X.ι))(m m':MA X),Ja get env sl m=some m'->(∀ q∈m'.nm,q∈NM)->(∀ c∈m'.ip,c=true)->
 ∃ao,m'.ek=m.ek++ao/\∃es,(∀ ag,MK dg sl (ao++ag)=es)/\(∀ p∈es,p.1∈sl.map (·.1)/\k9 (fx f (den (env p.1))) (den p.2)/\(∀ j∈bm (env p.1),DN NM j)/\(∀ j∈bm p.2,SN NM j))
 |[],m,m',h,_,_=>by
  simp only[Ja,ay]at h;subst h;exact⟨[],by simp,[],λag=>rfl,by simp⟩
 |(t,p)::r,m,m',h,hn,hc=>by
  simp only[Ja]at h;have⟨m1,h1,h⟩:=ai.1 h;have hm:=(Je r m1 m' h).1;obtain⟨n1,a1,d',b1,c1,e1,g1⟩:=afF hf ho p _ m m1 h1 (λ q hq=>hn q (hm.1 q hq)) (λ q hq=>hc q (hm.2 q hq));have⟨n2,a2,es,b2,c2⟩:=OH hf ho r m1 m' h hn hc;refine⟨n1++n2,by rw[a2,a1,aM],(t,d')::es,λag=>by simp only[MK,aM,b1,b2],λq hq=>?_⟩
  all_goals grind
theorem acy{D:Nat->Prop}(f:Nat->Nat):∀rows:U (List Tree),hZ D f (aL rows) (aL rows)
 |[]=>trivial
 |r::rs=>by
  refine⟨?_,acy f rs⟩
  induction r with
  |nil=>trivial
  |cons y ys ih=>exact⟨⟨by simp[refs],k9.refl _⟩,ih⟩
theorem acz{a b c d:CT X.ι}{l:U (CT.T X.toSE a×CT.T X.toSE b)}{l':U (CT.T X.toSE c×CT.T X.toSE d)}(h:gF (.mp a b) (.mp c d) l=some l'):bG (.map c d l':bp X)=bG (.map a b l):=by
 obtain⟨e,h⟩:=mO h
 grind
theorem acA{D:Nat->Prop}(f:Nat->Nat){kc vc:CT X.ι}:∀l:U (CT.T X.toSE kc×CT.T X.toSE vc),hZ D f (bG (.map kc vc l:bp X)).rows (bG (.map kc vc l:bp X)).rows
 |[]=>trivial
 |p::ps=>⟨⟨⟨by simp[Bj],by rw[X5];exact k9.refl _⟩,⟨by simp[Bj],by rw[X5];exact k9.refl _⟩,trivial⟩,acA f ps⟩
theorem Br(hf:∀q∈NM,f q.1=q.2)(ho:∀q∈NM,∀c l,get q.1=some (.da c l)->dg q.2=l.length):∀(os:U (Nat×OP X.ι))(m m':MA X),DL get os m=some m'->(∀ q∈m'.nm,q∈NM)->(∀ c∈m'.ip,c=true)->
 ∃ao,m'.ek=m.ek++ao/\∃xs,(∀ ag,cB dg os (ao++ag)=xs)/\(∀ p∈xs,p.1∈os.map (·.1)/\∃k' o o',p.2=some o'/\(k',p.1)∈NM/\get k'=some o/\(bG o').sz=(bG o).sz/\hZ (DN NM) f (bG o).rows (bG o').rows/\(∀ j∈dE o',SN NM j))
 |[],m,m',h,_,_=>by
  simp only[DL,ay]at h;subst h;exact⟨[],by simp,[],λag=>rfl,by simp⟩
 |(k,op)::r,m,m',h,hn,hc=>by
  simp only[DL]at h;rw[ai]at h;obtain⟨o,h1,h⟩:=h;split at h
  .rename_i c c' l;rw[ai]at h;obtain⟨l',h2,h⟩:=h;have hm:=(mR r _ m' h).1;obtain⟨n2,a2,xs,b2,c2⟩:=Br hf ho r _ m' h hn hc;refine⟨[⟨.sl c,l'⟩]++n2,by rw[a2,(fC _ _ _).1,aM],(k,some (.da c l'))::xs,λag=>by simp only[cons_append,bI,cB,b2],λq hq=>?_⟩;rcases aO.1 hq with rfl |hq
   .refine⟨by simp,_,_,_,rfl,hn _ (hm.1 _ (oP _ _ _)),h1,?_,?_,by simp[dE]⟩
    .simp only[bG,(jw h2).1]
    .simp only[bG,(jw h2).2];exact acy f _
   .have⟨i1,i2⟩:=c2 q hq;exact⟨by simp only[aF,aO];exact .inr i1,i2⟩
  .rename_i kc vc tS tI l;rw[ai]at h;obtain⟨l',h2,h⟩:=h;have hm:=(mR r _ m' h).1;obtain⟨n2,a2,xs,b2,c2⟩:=Br hf ho r _ m' h hn hc;refine⟨[⟨.mp kc vc,l'⟩]++n2,by rw[a2,(fC _ _ _).1,aM],(k,some (.map kc vc l'))::xs,λag=>by simp only[cons_append,bI,cB,b2],λq hq=>?_⟩;rcases aO.1 hq with rfl |hq
   .refine⟨by simp,_,_,_,rfl,hn _ (hm.1 _ (oP _ _ _)),h1,?_,?_,by simp[dE]⟩
    .rw[acz h2]
    .rw[acz h2];exact acA f _
   .have⟨i1,i2⟩:=c2 q hq;exact⟨by simp only[aF,aO];exact .inr i1,i2⟩
  .rename_i sz rows sz' rows';split at h
   .rename_i hsz;have⟨m1,h2,h⟩:=ai.1 h;have hm1:=(zH rows _ _ m1 h2).1;have hm:=(mR r _ m' h).1;obtain⟨n1,a1,qs,b1,c1,e1,g1⟩:=Uf hf ho rows _ _ m1 h2 (λ q hq=>hn q (hm.1 q hq)) (λ q hq=>hc q (hm.2 q hq));obtain⟨n2,a2,xs,b2,c2⟩:=Br hf ho r _ m' h hn hc;refine⟨n1++n2,by rw[a2,a1,(fC _ _ _).1,aM],(k,some (.cells sz qs))::xs,λag=>by simp only[aM,cB,b1,b2],λq hq=>?_⟩;rcases aO.1 hq with rfl |hq
    .exact⟨by simp,_,_,_,rfl,hn _ (hm.1 _ (hm1.1 _ (oP _ _ _))),h1,hsz,c1,g1⟩
    .have⟨i1,i2⟩:=c2 q hq;exact⟨by simp only[aF,aO];exact .inr i1,i2⟩
   .cases h
  .cases h
theorem ak6{d:DV X}(h:isU d=false)(h':d= .undef):False:=by subst h';cases h
theorem adO{A:Type}{sh:Sh X.ι}{ds:U Nat}{s0 s':c9 X}{k:VT (X:=X) sh.vars->J A}{r:A}(hl0:Low s0)(hx:Ext (· ∈ds) s0 s')(h:P3 sh ds s0 s' k=some r):
 ∃v,k v=some r/\Low (encS sh s0 v)/\Ext (· ∈ds) s0 (encS sh s0 v)/\∀(P:Program) (w0:World) (O0:i9) (N:Nat) (β:Nat->J cE) (I:Nat->Prop) (a:Act) (w:World),Rel P w0 O0 N β I s'.st a w->∃ β',Rel P w0 O0 N β' I (encS sh s0 v).st a w:=by
 unfold P3 at h;have⟨m1,h1,h⟩:=ai.1 h;have⟨m,h2,h⟩:=ai.1 h;have⟨h3,h⟩:=dL h;have⟨v,h4,h⟩:=ai.1 h;have⟨h5,h6⟩:=qF h;simp only[okS,aG,aJ]at h3;obtain⟨⟨⟨⟨⟨⟨⟨⟨n1,n2⟩,n3⟩,n4⟩,n5⟩,n6⟩,n7⟩,n8⟩,n9⟩:=h3;have hm2:=(mR _ _ _ h2).1;have vl:=XP h4;obtain⟨_,nA,dA,lA⟩:=Je _ _ _ h1;simp only[bI]at dA;have S4:(m.nm.map (·.1)).Nodup:=(List.nodup_append.1 n1).1;have S1:(m.nm.map (·.2)).Nodup:=(List.nodup_append.1 n2).1;have hsw:((m.nm.map λq=>(q.2,q.1)).map (·.1)).Nodup:=by rw[map_map];exact S1
 generalize hf':(λ j=>match lk m.nm j with |some q=>q |none=>j:Nat->Nat)=f;generalize hg':(λ j=>match lk (m.nm.map λq=>(q.2,q.1)) j with |some q=>q |none=>j:Nat->Nat)=g;have hf:∀q∈m.nm,f q.1=q.2:=by
  rintro⟨p,q⟩ hq;rw[<- hf'];simp only[wh S4 hq]
 have hg:∀q∈m.nm,g q.2=q.1:=by
  rintro⟨p,q⟩ hq;rw[<- hg'];have:(q,p)∈m.nm.map λq=>(q.2,q.1):=mem_map.2 ⟨(p,q),hq,rfl⟩;simp only[wh hsw this]
 have mN:∀j∈sh.c7,f j=j:=by
  intro j hj;rw[<- hf'];cases hh:lk m.nm j with
  |none=>simp[hh]
  |some q=>exact((List.nodup_append.1 n1).2.2 j (mem_map.2 ⟨(j,q),tO hh,rfl⟩) j hj rfl).elim
 have HP:∀j∈sh.c7,g j=j:=by
  intro j hj;rw[<- hg'];cases hh:lk (m.nm.map λq=>(q.2,q.1)) j with
  |none=>simp[hh]
  |some q=>
   have h1:=tO hh;simp only[mem_map]at h1;obtain⟨z,hz,e⟩:=h1;injection e with e1 e2;exact((List.nodup_append.1 n2).2.2 j (mem_map.2 ⟨z,hz,e1⟩) j hj rfl).elim
 have hg0:∀j,j<1000->g j=j:=by
  intro j hj;rw[<- hg'];cases hh:lk (m.nm.map λq=>(q.2,q.1)) j with
  |none=>simp[hh]
  |some q=>
   have h1:=tO hh;simp only[mem_map]at h1;obtain⟨z,hz,e⟩:=h1;injection e with e1 e2;have:=all_eq_true.1 n4 z hz;simp only[aG,Bool.or_eq_true,aJ]at this;simp only[hh];omega
 have hgf:∀j,(DN m.nm j\/j∈sh.c7)->g (f j)=j:=by
  rintro j (⟨q,hq⟩ |hj)
  .rw[hf _ hq];exact hg _ hq
  .rw[mN j hj];exact HP j hj
 obtain⟨nB,dB,lB⟩:=Fg (NM:=m.nm) _ _ _ h2 (λ q hq=>hq);have hL:m.ek=nA++nB:=by rw[dB,dA]
 have hdrop:(xq sh.vars v).drop (gA sh.slots).length=nB:=by rw[vl,hL,<- lA,List.drop_left]
 have htake:(xq sh.vars v).take (gA sh.slots).length=nA:=by rw[vl,hL,<- lA,List.take_left]
 generalize hol:(λ k=>(lk (lens sh.cD nB) k).getD 0:Nat->Nat)=dg;have ho:∀q∈m.nm,∀c l,fL s'.obj q.1=some (.da c l)->dg q.2=l.length:=by
  rintro⟨p,q⟩ hq c l hl;have hqk:=all_eq_true.1 n4 _ hq;simp only[aG]at hqk;obtain⟨p',o,g1,g2,g3⟩:=lB [] q (by simpa using hqk.1.1);have:p'=p:=by
   have e1:=hg _ g1;have e2:=hg _ hq;simp only at e1 e2;rw[<- e1,e2]
  subst this;simp only at hl;rw[hl]at g2;injection g2 with g2;have h3:=g3 c l g2.symm;rw[append_nil]at h3;rw[<- hol];have hk:=(KN sh.cD nB).nodup n3;simp only[wh hk h3,Option.getD_some]
 obtain⟨R2,IR,es,eA,pA⟩:=OH (NM:=m.nm) (f:=f) (dg:=dg) hf ho _ _ _ h1 (λ q hq=>hm2.1 q hq) (λ c hc=>h5 c (hm2.2 c hc));obtain⟨R1,Wa,xs,eB,pB⟩:=Br (NM:=m.nm) (f:=f) (dg:=dg) hf ho _ _ _ h2 (λ q hq=>hq) h5;have V0:R2=nA:=by simp only[bI]at IR;rw[<- IR,dA]
 have VV:R1=nB:=List.append_cancel_left (Wa.symm.trans dB);subst V0 VV;have IN:=eA [];have IM:=eB [];rw[append_nil]at IN IM;have hS:encS sh s0 v=⟨es++sh.keep.map (λ t=>(t,ey s0.env t)),xs++sh.c7.map (λ k=>(k,fL s0.obj k)),sh.nx,(List.range s0.nx).filter (λ k=>!sh.c7.contains k)++s0.log⟩:=by simp only[encS,hdrop,htake,hol,IN,IM]
 have hsn:∀j,SN m.nm j->j<sh.nx:=by
  rintro j ⟨p,hp⟩;have:=all_eq_true.1 n4 _ hp;simp only[aG,aJ]at this;exact this.1.2
 have kp:∀j,(sh.c7.contains j || m.nm.contains (j,j))=true->j∈sh.c7\/(j,j)∈m.nm:=by
  intro j hj;simpa using hj
 have hfp:∀j,j∈sh.c7\/(j,j)∈m.nm->f j=j:=λj hj=>hj.elim (mN j) (λ h=>hf (j,j) h);have hdp:∀j,j∈sh.c7\/(j,j)∈m.nm->DN m.nm j\/j∈sh.c7:=λj hj=>hj.elim .inr (λ h=> .inl ⟨j,h⟩);have hko:∀j∈sh.c7,j<s0.nx/\(∃ o,fL s0.obj j=some o/\fL s'.obj j=some o/\∀i∈dE o,i∈sh.c7\/(i,i)∈m.nm):=by
  intro j hj;have:=all_eq_true.1 n7 _ hj;simp only[aG,aJ,Bool.not_eq_true']at this;obtain⟨⟨⟨a1,a2⟩,a3⟩,a4⟩:=this;refine⟨a1,?_⟩;cases ho0:fL s0.obj j with
  |none=>rw[ho0]at a4;cases a4
  |some o=>
   rw[ho0]at a4;refine⟨o,rfl,?_,λi hi=>kp i (all_eq_true.1 a4 i hi)⟩;obtain⟨d,hd,hd2⟩:=hx.obj;have hnd:j∉d:=by
    have e:s'.log.take (s'.log.length -s0.log.length)=d:=(by rw[hd,dM,Nat.add_sub_cancel,List.take_left]);rw[e]at a2;simpa using a2
   rcases hd2 j a1 hnd with h |h
   .rw[h,ho0]
   .rw[h]at a3;cases a3
 have hke:∀t∈sh.keep,t∉ds/\ey s'.env t=ey s0.env t/\∀j∈bm (ey s0.env t),j∈sh.c7\/(j,j)∈m.nm:=by
  intro t ht;have:=all_eq_true.1 n6 _ ht;simp only[aG,Bool.not_eq_true']at this;obtain⟨⟨a1,a2⟩,a3⟩:=this;have a1':t∉ds:=by simpa using a1
  refine⟨a1',?_,λj hj=>kp j (all_eq_true.1 a3 j hj)⟩;rcases hx.env t a1' with h |h
  .exact h
  .exact(ak6 a2 h).elim
 have hks:∀q∈es,q.1∈ds:=by
  intro q hq;have h1:=(pA q hq).1;obtain⟨z,hz,e⟩:=mem_map.1 h1;have:=all_eq_true.1 n5 _ hz;rw[<- e];simpa using this
 have hkeep:∀t,lk (sh.keep.map λt=>(t,ey s0.env t)) t=if t∈sh.keep then some (ey s0.env t)else none:=by
  intro t
  induction sh.keep with
  |nil=>simp[lk]
  |cons q qs ih=>
   simp only[aF,lk,ih,aO];by_cases e:q=t
   .subst e;simp
   .rw[aW e];simp[Ne.symm e]
 have B6:∀t,lk (sh.c7.map λt=>(t,fL s0.obj t)) t=if t∈sh.c7 then some (fL s0.obj t)else none:=by
  intro t
  induction sh.c7 with
  |nil=>simp[lk]
  |cons q qs ih=>
   simp only[aF,lk,ih,aO];by_cases e:q=t
   .subst e;simp
   .rw[aW e];simp[Ne.symm e]
 have sf:∀t,(∃ d,(t,d)∈es/\ey (encS sh s0 v).env t=d)\/(t∈sh.keep/\ey (encS sh s0 v).env t=ey s0.env t)\/ey (encS sh s0 v).env t= .undef:=by
  intro t;have e1:ey (encS sh s0 v).env t=(match lk es t with |some d=>some d |none=>if t∈sh.keep then some (ey s0.env t)else none).getD .undef:=by
   rw[hS];show(lk (es++sh.keep.map (λ t=>(t,ey s0.env t))) t).getD .undef=_;rw[DX,hkeep t];cases lk es t<;>rfl
  rw[e1];cases he:lk es t with
  |some d=>exact .inl ⟨d,tO he,rfl⟩
  |none=>
   by_cases ht:t∈sh.keep
   .simp only[aT ht];exact .inr (.inl ⟨ht,rfl⟩)
   .simp only[aW ht];exact .inr (.inr rfl)
 have ii:∀j o,fL (encS sh s0 v).obj j=some o->(∃ k' o1,(k',j)∈m.nm/\fL s'.obj k'=some o1/\(bG o).sz=(bG o1).sz/\hZ (DN m.nm) f (bG o1).rows (bG o).rows/\(∀ i∈dE o,SN m.nm i))\/(j∈sh.c7/\fL s0.obj j=some o):=by
  intro j o hjo;have e1:fL (encS sh s0 v).obj j=(match lk xs j with |some d=>some d |none=>if j∈sh.c7 then some (fL s0.obj j)else none).join:=by
   rw[hS];show(lk (xs++sh.c7.map (λ k=>(k,fL s0.obj k))) j).join=_;rw[DX,B6 j];cases lk xs j<;>rfl
  rw[e1]at hjo;cases he:lk xs j with
  |some x=>
   rw[he]at hjo;obtain⟨_,k',o1,o',b1,b2,b3,b4,b5,b6⟩:=pB _ (tO he);simp only at b1 b2 hjo;subst b1;simp only[Option.join_some,ay]at hjo;subst hjo;exact .inl ⟨k',o1,b2,b3,b4,b5,b6⟩
  |none=>
   rw[he]at hjo;by_cases hj:j∈sh.c7
   .simp only[aT hj,Option.join_some]at hjo;exact .inr ⟨hj,hjo⟩
   .simp[aW hj]at hjo
 have hnx:s0.nx<=sh.nx:=n8;have hkx:∀j,j∈sh.c7\/(j,j)∈m.nm->j<sh.nx:=λj hj=>hj.elim (λ hj=>Nat.lt_of_lt_of_le (hko j hj).1 hnx) (λ h=>hsn j ⟨j,h⟩);have hRW:∀{r q:U AV},mm (DN m.nm) f r q->mm (λ j=>DN m.nm j\/j∈sh.c7) f r q:=by
  intro r
  induction r with
  |nil=>intro q h;cases q with
   |nil=>trivial
   |cons=>exact h.elim
  |cons x xs ih=>intro q h;cases q with
   |nil=>exact h.elim
   |cons y ys=>exact⟨⟨λ k hk=> .inl (h.1.1 k hk),h.1.2⟩,ih h.2⟩
 have Tu:∀{r q:U (List AV)},hZ (DN m.nm) f r q->hZ (λ j=>DN m.nm j\/j∈sh.c7) f r q:=by
  intro r
  induction r with
  |nil=>intro q h;cases q with
   |nil=>trivial
   |cons=>exact h.elim
  |cons x xs ih=>intro q h;cases q with
   |nil=>exact h.elim
   |cons y ys=>exact⟨hRW h.1,ih h.2⟩
 refine⟨v,h6,?_,?_,?_⟩
 .constructor
  .rw[hS];exact n9
  .rw[hS];exact Nat.le_trans hl0.ge n8
  .intro t j hj;have BT:(encS sh s0 v).nx=sh.nx:=(by rw[hS]);rw[BT];rcases sf t with ⟨d,h1,h2⟩ |⟨h1,h2⟩ |h2
   .rw[h2]at hj;exact hsn j ((pA _ h1).2.2.2 j hj)
   .rw[h2]at hj;exact hkx j ((hke t h1).2.2 j hj)
   .rw[h2]at hj;simp[bm]at hj
  .intro j o hjo;have BT:(encS sh s0 v).nx=sh.nx:=(by rw[hS]);rw[BT];rcases ii j o hjo with ⟨k',o1,b1,b2,b3,b4,b5⟩ |⟨b1,b2⟩
   .exact⟨hsn j ⟨k',b1⟩,λi hi=>hsn i (b5 i hi)⟩
   .have⟨c1,o',c2,c3,c4⟩:=hko j b1;rw[b2]at c2;cases c2;exact⟨hkx j (.inl b1),λi hi=>hkx i (c4 i hi)⟩
 .refine⟨λ t ht=>?_,⟨(List.range s0.nx).filter (λ k=>!sh.c7.contains k),by rw[hS],λj hj hn=>?_⟩,by rw[hS];exact hnx⟩
  .rcases sf t with ⟨d,h1,h2⟩ |⟨h1,h2⟩ |h2
   .exact(ht (hks _ h1)).elim
   .exact .inl h2
   .exact .inr h2
  .have hjk:j∈sh.c7:=(by simpa[hj]using hn);cases hjo:fL (encS sh s0 v).obj j with
   |none=>exact .inr rfl
   |some o=>
    rcases ii j o hjo with ⟨k',o1,b1,_⟩ |⟨b1,b2⟩
    .exact((List.nodup_append.1 n2).2.2 j (mem_map.2 ⟨(k',j),b1,rfl⟩) j hjk rfl).elim
    .exact .inl b2.symm
 .intro P w0 O0 N β I a w hr;refine⟨_,Rel.re (f:=f) (g:=g) (D:=λj=>DN m.nm j\/j∈sh.c7) hgf hg0 hr (λ _=> .inl rfl) (λ _=>rfl) (λ t=>?_) (λ j o' hj=>?_)⟩
  .show den (ey (encS sh s0 v).env t)= .undef\/((∀ k∈refs (den (ey s'.env t)),_)/\k9 (fx f (den (ey s'.env t))) (den (ey (encS sh s0 v).env t)));rcases sf t with ⟨d,h1,h2⟩ |⟨h1,h2⟩ |h2
   .right;rw[h2];obtain⟨_,b1,b2,_⟩:=pA _ h1;exact⟨λ k hk=> .inl (b2 k (by rwa [jc]at hk)),b1⟩
   .right;have⟨_,b1,b2⟩:=hke t h1;rw[h2,b1];refine⟨λ k hk=>hdp k (b2 k (by rwa [jc]at hk)),?_⟩;rw[<- Bo,Yi _ (λ k hk=>hfp k (b2 k hk))];exact k9.refl _
   .left;rw[h2];rfl
  .simp only[c9.st,eH]at hj;obtain⟨o,hjo,rfl⟩:=hj;rcases ii j o hjo with ⟨k',o1,b1,b2,b3,b4,b5⟩ |⟨b1,b2⟩
   .exact⟨k',bG o1,by simp[c9.st,b2],.inl ⟨j,b1⟩,hf _ b1,b3,Tu b4⟩
   .have⟨c1,o',c2,c3,c4⟩:=hko j b1;rw[b2]at c2;cases c2;have hid:ox f o=o:=by
     cases o with
     |da c l=>rfl
     |map kc vc l=>rfl
     |cells sz rows=>
      simp only[ox];congr 1;have:∀q∈rows,Lc f q=q:=λq hq=>Bq q λi hi=>hfp i (c4 i (by
       simp only[dE,List.mem_flatten,mem_map];exact⟨_,⟨q,hq,rfl⟩,hi⟩))
      rw[map_congr_left this];simp
    obtain⟨r1,r2⟩:=KM (D:=λj=>DN m.nm j\/j∈sh.c7) f o (λ i hi=>hdp i (c4 i hi));rw[hid]at r1 r2;exact⟨j,bG o,by simp[c9.st,c3],.inr b1,mN j b1,r1,r2⟩
theorem Ext.trans{ds:Nat->Prop}{a b c:c9 X}(h:Ext ds a b)(h':Ext ds b c):Ext ds a c:=by
 refine⟨λ t ht=>?_,?_,Nat.le_trans h.nx h'.nx⟩
 .rcases h'.env t ht with h1 |h1
  .rcases h.env t ht with h2 |h2
   .exact .inl (h1.trans h2)
   .exact .inr (h1.trans h2)
  .exact .inr h1
 .obtain⟨d,h1,h2⟩:=h.obj;obtain⟨d',h3,h4⟩:=h'.obj;refine⟨d'++d,by rw[h3,h1,aM],λk hk hn=>?_⟩;simp only[bg,not_or]at hn;rcases h4 k (Nat.lt_of_lt_of_le hk h.nx) hn.1 with h5 |h5
  .rcases h2 k hk hn.2 with h6 |h6
   .exact .inl (h5.trans h6)
   .exact .inr (h5.trans h6)
  .exact .inr h5
theorem Ext.refl(ds:Nat->Prop)(s:c9 X):Ext ds s s:=⟨λ _ _=> .inl rfl,⟨[],by simp,λ_ _ _=> .inl rfl⟩,aC _⟩
def Says(s s':c9 X):Prop:=∀(P:Program) (w0:World) (O0:i9) (N:Nat) (β:Nat->J cE) (I:Nat->Prop) (a:Act) (w:World),Rel P w0 O0 N β I s.st a w->∃ β',Rel P w0 O0 N β' I s'.st a w
theorem Low.room{s:c9 X}{P:Program}{w0:World}{O0:i9}{N:Nat}{β:Nat->J cE}{I:Nat->Prop}{a:Act}{w:World}(hl:Low s)(hr:Rel P w0 O0 N β I s.st a w):∃ β2,β2 s.nx=none/\Rel P w0 O0 N β2 I s.st a w:=by
 have hr1:=hr.restrict hl.old
 have hr2:=Rel.re (f:=id) (g:=λj=>if j<s.nx then j else 1000000) (D:=(· <s.nx)) (s':=s.st) (λ k hk=>aT hk) (λ j hj=>aT (by have:=hl.ge;omega)) hr1 (λ _=> .inl rfl) (λ _=>rfl)
  (λ q=> .inr ⟨λ k hk=>hl.env q k (by rw[<- jc];exact hk),by
   show k9 (fx id (den (ey s.env q))) (den (ey s.env q));rw[<- Bo,Yi (f:=id) _ (λ _ _=>rfl)];exact k9.refl _⟩)
  (λ j o' hj=>by
   simp only[c9.st,eH]at hj;obtain⟨x,hx,rfl⟩:=hj;have⟨h1,h2⟩:=hl.obj j x hx;have⟨r1,r2⟩:=KM (D:=(· <s.nx)) id x h2;have hid:ox id x=x:=by
    cases x with
    |da c l=>rfl
    |map kc vc l=>rfl
    |cells sz rows=>
     simp only[ox];congr 1;have:∀q∈rows,Lc id q=q:=λq _=>Bq (f:=id) q λ_ _=>rfl;rw[map_congr_left this];simp
   rw[hid]at r1 r2;exact⟨j,bG x,by simp[c9.st,hx],h1,rfl,r1,r2⟩)
 exact⟨_,by simp,hr2⟩
theorem aoO(z:Bool)(k:Nat):bm (nz (X:=X) z k)=[k]:=by cases z<;>rfl
theorem Yk{ds:U Nat}{z:Bool}{s:c9 X}{t:Nat}{c:CT X.ι}(hl:Low s)(ht:t∈ds):Low (AG z s t c)/\Ext (· ∈ds) s (AG z s t c)/\Says s (AG z s t c):=by
 unfold AG;split
 .rename_i hn;split
  .rename_i hlt;have he:∀q,ey ((t,nz z s.nx)::s.env) q=if t=q then nz z s.nx else ey s.env q:=λq=>by
    simp only[ey,lk];by_cases e:t=q<;>simp[e]
   have hO:∀q,fL ((s.nx,some (.da c []))::s.obj) q=if s.nx=q then some (.da c [])else fL s.obj q:=λq=>by
    simp only[fL,lk];by_cases e:s.nx=q<;>simp[e]
   refine⟨⟨by show s.nx+1<=1000000;omega,by have:=hl.ge;show 1000<=s.nx+1;omega,λq k hk=>?_,λk o ho=>?_⟩,⟨λ q hq=>?_,⟨[s.nx],rfl,λk hk hnk=>?_⟩,by show s.nx<=s.nx+1;omega⟩,λP w0 O0 N β I a w hr=>?_⟩
   .rw[he]at hk;split at hk
    .simp only[aoO,aY]at hk;subst hk;show s.nx<s.nx+1;omega
    .have:=hl.env q k hk;show k<s.nx+1;omega
   .rw[hO]at ho;split at ho
    .rename_i e;cases ho;subst e;exact⟨by show s.nx<s.nx+1;omega,by simp[dE]⟩
    .have⟨h1,h2⟩:=hl.obj k o ho;exact⟨by show k<s.nx+1;omega,λj hj=>by have:=h2 j hj;show j<s.nx+1;omega⟩
   .left;rw[he,aW];intro e;subst e;exact hq ht
   .left;rw[hO,aW (by omega)]
   .have⟨β2,Fi,hr2⟩:=hl.room hr;have⟨hS,hM⟩:=Mem.pg (i:=s.nx) (o:=bG (.da c []:bp X)) hr2.mem Fi rfl;refine⟨ins β2 s.nx .none,hr2.defers,hr2.size,λq=>?_,?_⟩
    .have h1:=hr2.env q;show er P _ w I (den (ey ((t,nz z s.nx)::s.env) q)) none _;rw[he];by_cases e:t=q
     .subst e;rw[aT rfl];have h2:VR P _ w I (den (ey s.env t)) (a.tmps.getD t undef):=h1;rw[hn]at h2;simp only[den,VR]at h2;cases z with
      |false=>simp only[er,nz,ak,den,VR];exact .inl ⟨by simp[ins],h2,trivial,trivial⟩
      |true=>simp only[er,nz,aj,den,VR];exact .inl ⟨trivial,h2⟩
     .rw[aW e];exact er.mono hS.ext hS.same hS.inc h1
    .have e:(λ k=>(fL ((s.nx,some (.da c []))::s.obj) k).map bG)=bU s.st.obj [(s.nx,some (bG (.da c []:bp X)))]:=by
      funext q;simp only[bU,c9.st];rw[hO];by_cases e:s.nx=q
      .simp[e]
      .rw[aW e,aW (Ne.symm e)]
     show Mem P w0 O0 _ I (λ k=>(fL ((s.nx,some (.da c []))::s.obj) k).map bG) w;rw[e];exact hM
  .exact⟨hl,Ext.refl _ s,λ_ _ _ _ β _ _ _ h=>⟨β,h⟩⟩
 .exact⟨hl,Ext.refl _ s,λ_ _ _ _ β _ _ _ h=>⟨β,h⟩⟩
theorem Yl(y:DV X):∀(l:U (DV X))(j i:Nat),i∈aR (l.set j y)->i∈aR l\/i∈bm y
 |[],_,_,h=> .inl (by simpa using h)
 |x::l,0,i,h=>by
  simp only[List.set,aR,bg]at h ⊢;rcases h with h |h
  .exact .inr h
  .exact .inl (.inr h)
 |x::l,j+1,i,h=>by
  simp only[List.set,aR,bg]at h ⊢;rcases h with h |h
  .exact .inl (.inl h)
  .rcases Yl y l j i h with h |h
   .exact .inl (.inr h)
   .exact .inr h
theorem bj.set{P:Program}{β:Nat->J cE}{w:World}{I:Nat->Prop}{y:AV}:∀(xs:U AV)(vs:U Value)(j:Nat),(∀ x v,xs[j]? =some x->VR P β w I x v->VR P β w I y v)->bj P β w I xs vs->bj P β w I (xs.set j y) vs
 |[],vs,_,_,h=>by simpa using h
 |x::xs,[],_,_,h=>by simp[bj]at h
 |x::xs,v::vs,0,hy,h=>by simp only[bj,List.set]at h ⊢;exact⟨hy x v rfl h.1,h.2⟩
 |x::xs,v::vs,j+1,hy,h=>by simp only[bj,List.set]at h ⊢;exact⟨h.1,bj.set xs vs j (λ x v e=>hy x v (by simpa using e)) h.2⟩
theorem OR.set1{P:Program}{β:Nat->J cE}{w:World}{I:Nat->Prop}{sz:Nat}{row:U AV}{j:Nat}{y:AV}{B:cE}(hy:∀x v,row[j]? =some x->VR P β w I x v->VR P β w I y v)(h:OR P β w I ⟨sz,[row]⟩ B):OR P β w I ⟨sz,[row.set j y]⟩ B:=by
 cases B with
 |none=>simp[OR]at h
 | «at» b s n=>
  obtain⟨h1,c,e,h2,h3,h4⟩:=h;refine⟨h1,c,e,h2,h3,?_⟩;simp only[bo,List.length_set]at h4 ⊢;refine⟨h4.1,?_,trivial⟩;rw[jL]at h4 ⊢;intro i x hx;rw[List.getElem?_set]at hx;split at hx
  .rename_i e;subst e;split at hx
   .cases hx;rename_i hlt;obtain⟨v,g1,g2,g3⟩:=h4.2.1 j _ (bX hlt);exact⟨v,g1,hy _ v (bX hlt) g2,g3⟩
   .cases hx
  .exact h4.2.1 i x hx
 |mp b=>
  obtain⟨es,cl,h1,hle,h2,h3⟩:=h;refine⟨es,cl,h1,hle,λe=>?_,h3⟩;have:=h2 e
  match hes:es.toList,this with
  |[e1],this=>simp only[cy]at this ⊢;exact⟨bj.set _ _ j hy this.1,trivial⟩
  |[],this=>simp[cy]at this
  |_::_::_,this=>simp[cy]at this
theorem afG(y:DV X):∀(l:U (DV X))(j:Nat),bM (l.set j y)=(bM l).set j (den y)
 |[],_=>by simp[bM]
 |x::l,0=>by simp[bM]
 |x::l,j+1=>by simp[bM,afG y l j]
theorem aie{ds:U Nat}{s:c9 X}{q j:Nat}{c:CT X.ι}(hl:Low s):Low (GP s q j c)/\Ext (· ∈ds) s (GP s q j c)/\Says s (GP s q j c):=by
 unfold GP;split
 .rename_i sz row hq;split
  .rename_i hn;split
   .rename_i hlt;have hqn:q<s.nx:=(hl.obj q _ hq).1;have hrefs:∀k∈aR row,k<s.nx:=λk hk=>(hl.obj q _ hq).2 k (by simpa[dE]using hk);have hO:∀k,fL ((q,some (.cells sz [row.set j (.own s.nx 0 0)]))::(s.nx,some (.da c []))::s.obj) k=if q=k then some (.cells sz [row.set j (.own s.nx 0 0)])else if s.nx=k then some (.da c [])else fL s.obj k:=λk=>by
     simp only[fL,lk];by_cases e:q=k
     .simp[e]
     .by_cases e':s.nx=k<;>simp[e,e']
    refine⟨⟨by show s.nx+1<=1000000;omega,by have:=hl.ge;show 1000<=s.nx+1;omega,λk i hk=>by have:=hl.env k i hk;show i<s.nx+1;omega,λk o ho=>?_⟩,⟨λ _ _=> .inl rfl,⟨[q,s.nx],rfl,λk hk hnk=>?_⟩,by show s.nx<=s.nx+1;omega⟩,λP w0 O0 N β I a w hr=>?_⟩
    .rw[hO]at ho;split at ho
     .rename_i e;cases ho;subst e;refine⟨by show q<s.nx+1;omega,λi hi=>?_⟩;show i<s.nx+1;simp only[dE,aF,map_nil,flatten_cons,List.flatten_nil,append_nil]at hi;rcases Yl _ _ _ _ hi with h1 |h1
      .have:=hrefs i h1;omega
      .simp only[bm,aY]at h1;omega
     .split at ho
      .rename_i e;cases ho;subst e;exact⟨by show s.nx<s.nx+1;omega,by simp[dE]⟩
      .have⟨h1,h2⟩:=hl.obj k o ho;exact⟨by show k<s.nx+1;omega,λi hi=>by have:=h2 i hi;show i<s.nx+1;omega⟩
    .left;simp only[aO,fM,or_false,not_or]at hnk;rw[hO,aW (Ne.symm hnk.1),aW (Ne.symm hnk.2)]
    .have⟨β2,Fi,hr2⟩:=hl.room hr;have⟨hS,hM⟩:=Mem.pg (i:=s.nx) (o:=bG (.da c []:bp X)) hr2.mem Fi rfl;refine⟨ins β2 s.nx .none,hr2.defers,hr2.size,λk=>er.mono hS.ext hS.same hS.inc (hr2.env k),?_⟩;refine hM.weak λk o' ho=>?_;simp only[c9.st]at ho;rw[hO]at ho;by_cases e:q=k
     .subst e;rw[aT rfl,Option.map_some]at ho;cases ho;refine⟨bG (.cells sz [row]),by simp only[bU];rw[aW (by omega)];simp[c9.st,hq],λB _ hB=>?_⟩;simp only[bG,aF,map_nil,afG]at hB ⊢;refine OR.set1 (λ x v hx hv=>?_) hB;rw[oN,List.getElem?_map,hn]at hx;cases hx;simp only[den,VR]at hv ⊢;exact .inl ⟨by simp[ins],hv,trivial,trivial⟩
     .rw[aW e]at ho;refine⟨o',?_,λ_ _ h=>h⟩;simp only[bU];by_cases e':s.nx=k
      .subst e';rw[aT rfl]at ho ⊢;simpa using ho
      .rw[aW e']at ho;rw[aW (Ne.symm e')];exact ho
   .exact⟨hl,Ext.refl _ s,λ_ _ _ _ β _ _ _ h=>⟨β,h⟩⟩
  .exact⟨hl,Ext.refl _ s,λ_ _ _ _ β _ _ _ h=>⟨β,h⟩⟩
 .exact⟨hl,Ext.refl _ s,λ_ _ _ _ β _ _ _ h=>⟨β,h⟩⟩
theorem OI{ds:U Nat}:∀(l:U (Nat×CT X.ι)){s:c9 X},Low s->(∀ p∈l,(bif Nat.ble 1000000 p.1 then !Nat.ble 1099511627776 p.1 || ds.contains (p.1 -1099511627776)else ds.contains p.1)=true)->Low (Rm l s)/\Ext (· ∈ds) s (Rm l s)/\Says s (Rm l s)
 |[],s,hl,_=>⟨hl,Ext.refl _ s,λ_ _ _ _ β _ _ _ h=>⟨β,h⟩⟩
 |(t,c)::r,s,hl,hd=>by
  generalize hs:(bif Nat.ble 1000000 t then bif Nat.ble 1099511627776 t then AG true s (t -1099511627776) c else GP s ((t -1000000)/4096) ((t -1000000)%4096) c else AG false s t c)=s1;have h0:Low s1/\Ext (· ∈ds) s s1/\Says s s1:=by
   have hd0:=hd (t,c) (by simp);simp only at hd0;subst hs;cases hb:Nat.ble 1000000 t with
   |true=>
    rw[hb]at hd0;cases hb2:Nat.ble 1099511627776 t with
    |true=>rw[hb2]at hd0;exact Yk hl (by simpa using hd0)
    |false=>exact aie hl
   |false=>rw[hb]at hd0;exact Yk hl (by simpa using hd0)
  obtain⟨h1,h2,h3⟩:=h0;simp only[Rm,hs];obtain⟨g1,g2,g3⟩:=OI r h1 (λ p hp=>hd p (by simp[hp]));refine⟨g1,h2.trans g2,λP w0 O0 N β I a w hr=>?_⟩;have⟨β',hr'⟩:=h3 P w0 O0 N β I a w hr;exact g3 P w0 O0 N β' I a w hr'
theorem lW{A:Type}{sh:Sh X.ι}{ds:U Nat}{s0 s':c9 X}{k:VT (X:=X) sh.vars->J A}{r:A}(hl0:Low s0)(hl':Low s')(hx:Ext (· ∈ds) s0 s')(h:rz sh ds s0 s' k=some r):
 ∃v,k v=some r/\Low (encS sh s0 v)/\Ext (· ∈ds) s0 (encS sh s0 v)/\Says s' (encS sh s0 v):=by
 unfold rz at h;have⟨h1,h2⟩:=dL h;obtain⟨g1,g2,g3⟩:=OI (ds:=ds) sh.A3 hl' (λ p hp=>all_eq_true.1 h1 p hp);have⟨v,i1,i2,i3,i4⟩:=adO hl0 (hx.trans g2) h2;refine⟨v,i1,i2,i3,λP w0 O0 N β I a w hr=>?_⟩;have⟨β',hr'⟩:=g3 P w0 O0 N β I a w hr;exact i4 P w0 O0 N β' I a w hr'
end
def gQ:Code->U Nat
 | .region _ am _=>am.toList.filterMap (·.dst)
 | .seq a b=>gQ a++gQ b
 | .cond _ a b=>gQ a++gQ b
 | .block _ b=>gQ b
 | .loop b=>gQ b
 |_=>[]
section
variable {X:SX}
section
variable {P:Program} {N:Nat}
def Mj{A:Type}(ds:U Nat)(s:c9 X)(k:Exit->c9 X->J A)(r:A)(e:Exit)(σ:St):Prop:=∃s',Low s'/\Ext (· ∈ds) s s'/\σ=s'.st/\k e s'=some r
theorem ajY{c:Code}{Q Q':Exit->St->Prop}{σ:St}(h:Ev P N c Q σ)(ht:∀e σ,Q e σ->∀w0 O0 β I a w,Rel P w0 O0 N β I σ a w->∃ β' σ',Rel P w0 O0 N β' I σ' a w/\tG σ'/\Q' e σ'):Ev P N c Q' σ:=by
 intro w0 O0 β I a w hr ho;refine wp_mono (h w0 O0 β I a w hr ho) ?_;rintro e a' w' ⟨β',I',σ',h1,_,h3⟩;have⟨β2,σ2,g1,g2,g3⟩:=ht e σ' h3 w0 O0 β' I' a' w' h1;exact⟨β2,I',σ2,g1,g2,g3⟩
end
end
inductive Hn(ι:Type) where
 |z
 |f (l:List Nat)
 |s (a b:Hn ι)
 |b (a:Hn ι)
 |j (sh:Sh ι) (a:Hn ι)
 |jx (sh:Sh ι) (a:Hn ι)
 |l (head:Sh ι) (id:Nat) (ab:Sh ι) (a:Hn ι)
 |lx (head:Sh ι) (id:Nat) (ab:Sh ι) (a:Hn ι)
 |rg (head:Sh ι) (a:Hn ι)
 |un (a r:Hn ι)
def Hn.fz{ι:Type}:Hn ι->U Nat
 | .f is=>is
 |_=>[]
def Hn.fst{ι:Type}:Hn ι->Hn ι
 | .s a _=>a
 |_=> .z
def Hn.snd{ι:Type}:Hn ι->Hn ι
 | .s _ y=>y
 |_=> .z
def Hn.sub{ι:Type}:Hn ι->Hn ι
 | .b a=>a
 |_=> .z
def iter{V O:Type}(step:V->J (V⊕O)):Nat->V->J O
 | 0,_=>none
 |n+1,v=>(step v).bind λr=>match r with
  | .inl v=>iter step n v
  | .inr o=>some o
def Mb{X:SX}{A:Type}(body:Hn X.ι->c9 X->(Exit->c9 X->J A)->J A):Hn X.ι->c9 X->(Exit->c9 X->J A)->J A
 | .un a r,s,k=>body a s λe s'=>match e with
  | .normal=>Mb body r s' k
  |e=>k e s'
 |_,_,_=>none
def dm{W A:Type}(o:J (W⊕A))(f:W->J A):J A:=o.bind λr=>match r with
 | .inl w=>f w
 | .inr a=>some a
noncomputable def both{A:Type}(x y:J A):J A:=open Classical in if x=y then x else none
theorem ak7{A:Type}{x y:J A}{r:A}(h:both x y=some r):x=some r/\y=some r:=by grind [both]
theorem ak8{A:Type}(x:J A):both x x=x:=by simp[both]
section
variable {X:SX}
def G2(ds:U Nat)(s:c9 X)(h:Hn X.ι){A:Type}(k:Exit->c9 X->J A)(body:(B:Type)->Hn X.ι->(Exit->c9 X->J B)->J B):J A:=
 match h with
 | .j sh h'=>(body (VT (X:=X) sh.vars) h' λe s'=>match e with
  | .normal=>rz sh ds s s' some
  |_=>none).bind λv=>k .normal (encS sh s v)
 | .jx sh h'=>dm (body (VT (X:=X) sh.vars⊕A) h' λe s'=>match e with
  | .normal=>rz sh ds s s' λv=>some (.inl v)
  |e=>(k e s').map .inr) λv=>k .normal (encS sh s v)
 |h=>body A h k
variable (Γ:FuncId->Option (bz X)) (T:dC) (an:TypeId->Option (CT X.ι)) (N n:Nat)
noncomputable def run:Code->(A:Type)->Hn X.ι->c9 X->(Exit->c9 X->J A)->J A
 | .skip,_,_,s,k=>k .normal s
 | .region id am d,A,h,s,k=>G2 (gQ (.region id am d)) s h k λ_ h k=>Z3 Γ h.fz T an N am d s (k .normal)
 | .seq x y,A,h,s,k=>G2 (gQ (.seq x y)) s h k λB h k=>run x B h.fst s λe s'=>match e with
  | .normal=>run y B h.snd s' k
  |e=>k e s'
 | .cond c x y,A,h,s,k=>G2 (gQ (.cond c x y)) s h k λB h k=>match wi (ey s.env) c with
  | .c .bool v=>bif v then run x B h.fst s k else run y B h.snd s k
  | .ub=>both (run x B h.fst s k) (run y B h.snd s k)
  |_=>none
 | .block id b,A,h,s,k=>G2 (gQ (.block id b)) s h k λB h k=>run b B h.sub s λe s'=>match e with
  | .exit j=>if j=id then k .normal s' else k (.exit j) s'
  |e=>k e s'
 | .loop b,A,h,s,k=>match h with
  | .l hd id ab h'=>rz hd (gQ b) s s λv0=>(iter (λ v=>run b (VT (X:=X) hd.vars⊕VT (X:=X) ab.vars) h' (encS hd s v) λe s'=>match e with
   | .normal=>rz hd (gQ b) s s' λv=>some (.inl v)
   | .exit j=>if j=id then rz ab (gQ b) s s' λw=>some (.inr w)else none
   |_=>none) n v0).bind λw=>k (.exit id) (encS ab s w)
  | .lx hd id ab h'=>rz hd (gQ b) s s λv0=>dm (iter (λ v=>run b (VT (X:=X) hd.vars⊕(VT (X:=X) ab.vars⊕A)) h' (encS hd s v) λe s'=>match e with
   | .normal=>rz hd (gQ b) s s' λv=>some (.inl v)
   | .exit j=>if j=id then rz ab (gQ b) s s' λw=>some (.inr (.inl w))else(k (.exit j) s').map λa=> .inr (.inr a)
   |e=>(k e s').map λa=> .inr (.inr a)) n v0) λw=>k (.exit id) (encS ab s w)
  | .un a r=>Mb (λ h s k=>run b A h s k) (.un a r) s k
  |_=>none
 | .exit id,_,_,s,k=>k (.exit id) s
 | .ret,_,_,s,k=>k .ret s
 | .label _,_,_,s,k=>k .normal s
 |_,_,_,_,_=>none
section
variable {Γ:FuncId->Option (bz X)} {T:dC} {an:TypeId->Option (CT X.ι)} {N n:Nat} {P:Program}
theorem Ext.wide{ds ds':Nat->Prop}{a b:c9 X}(h:Ext ds a b)(hd:∀t,ds t->ds' t):Ext ds' a b:=⟨λ t ht=>h.env t λhh=>ht (hd t hh),h.obj,h.nx⟩
theorem map_inr{α β:Type}{o:J β}{r:α⊕β}(h:o.map Sum.inr=some r):∃b,o=some b/\r= .inr b:=by
 cases o with
 |none=>cases h
 |some b=>grind
theorem Fh{c:Code}{s:c9 X}{h:Hn X.ι}{A:Type}{k:Exit->c9 X->J A}{r:A}{body:(B:Type)->Hn X.ι->(Exit->c9 X->J B)->J B}(hl:Low s)
 (hb:∀(B:Type)(h:Hn X.ι)(k:Exit->c9 X->J B)(r:B),body B h k=some r->Ev P N c (Mj (gQ c) s k r) s.st) (hr:G2 (gQ c) s h k body=some r):Ev P N c (Mj (gQ c) s k r) s.st:=by
 unfold G2 at hr;split at hr
 .rename_i sh h';rw[ai]at hr;obtain⟨v,h1,hr⟩:=hr;refine ajY (hb _ _ _ _ h1) ?_;rintro e σ ⟨s',g1,g2,rfl,g4⟩ w0 O0 β I a w hrel;cases e<;>simp only[reduceCtorEq]at g4;have⟨v',i1,i2,i3,i4⟩:=lW hl g1 g2 g4;cases i1;have⟨β',i5⟩:=i4 P w0 O0 N β I a w hrel;exact⟨β',_,i5,i2.old,_,i2,i3,rfl,hr⟩
 .rename_i sh h';unfold dm at hr;have⟨v,h1,hr⟩:=ai.1 hr;refine ajY (hb _ _ _ _ h1) ?_;rintro e σ ⟨s',g1,g2,rfl,g4⟩ w0 O0 β I a w hrel;have other:(k e s').map Sum.inr=some v->∃ β' σ',Rel P w0 O0 N β' I σ' a w/\tG σ'/\Mj (gQ c) s k r e σ':=by
   intro hm;obtain⟨b,hk,rfl⟩:=map_inr hm;cases hr;exact⟨β,_,hrel,g1.old,s',g1,g2,rfl,hk⟩
  cases e with
  |normal=>
   simp only at g4;have⟨v',i1,i2,i3,i4⟩:=lW hl g1 g2 g4;cases i1;have⟨β',i5⟩:=i4 P w0 O0 N β I a w hrel;exact⟨β',_,i5,i2.old,_,i2,i3,rfl,hr⟩
  |_=>exact other g4
 .exact hb _ _ _ _ hr
theorem ak9{id:Nat}{am:Array Oper}{d:Bool}{t:Nat}(h:Ud am t):t∈gQ (.region id am d):=by
 obtain⟨j,op,h1,h2⟩:=h;simp only[gQ,List.mem_filterMap];exact⟨op,by rw[<- Array.getElem?_toList]at h1;exact cO h1,h2⟩
theorem Ym{b:Code}{s:c9 X}{hd:Sh X.ι}{O:Type}{step:VT (X:=X) hd.vars->J (VT (X:=X) hd.vars⊕O)}{kb:Exit->c9 X->J (VT (X:=X) hd.vars⊕O)}{Q:Exit->St->Prop}(hl:Low s)
 (hkn:∀s',kb .normal s'=rz hd (gQ b) s s' λv=>some (.inl v))
 (hstep:∀v r,Low (encS hd s v)->step v=some r->Ev P N b (Mj (gQ b) (encS hd s v) kb r) (encS hd s v).st)
 {o:O} (hQ:∀e s',e≠ .normal->Low s'->Ext (· ∈gQ b) s s'->kb e s'=some (.inr o)->∀w0 O0 β I a w,Rel P w0 O0 N β I s'.st a w->∃ β' σ',Rel P w0 O0 N β' I σ' a w/\tG σ'/\Q e σ')
 (hno:∀e s' v,e≠ .normal->kb e s'=some (.inl v)->False) (n:Nat) (v0:VT (X:=X) hd.vars) (h:iter step n v0=some o) (hl0:Low (encS hd s v0)) (hx0:Ext (· ∈gQ b) s (encS hd s v0)):Ev P N (.loop b) Q (encS hd s v0).st:=by
 intro w0 O0 β I a w hr ho;refine ab0 (λ n a w=>∃ β I v,Rel P w0 O0 N β I (encS hd s v).st a w/\iter step n v=some o/\Low (encS hd s v)/\Ext (· ∈gQ b) s (encS hd s v)) (λ a w ⟨_,_,v,_,h,_⟩=>by cases h) ?_ n a w ⟨β,I,v0,hr,h,hl0,hx0⟩;rintro n a w ⟨β,I,v,hr,hi,hlv,hxv⟩;simp only[iter]at hi;have⟨r,h1,hi⟩:=ai.1 hi;refine wp_mono (hstep v r hlv h1 w0 O0 β I a w hr hlv.old) ?_;rintro e a' w' ⟨β',I',σ',g1,_,s',g2,g3,rfl,g4⟩;have hxs:=hxv.trans g3;by_cases he:e= .normal
 .subst he;rw[hkn]at g4;have⟨v',i1,i2,i3,i4⟩:=lW hl g2 hxs g4;cases i1;have⟨β2,i5⟩:=i4 P w0 O0 N β' I' a' w' g1;exact⟨β2,I',v',i5,hi,i2,i3⟩
 .cases r with
  |inl v'=>exact(hno e s' v' he g4).elim
  |inr o'=>
   cases hi;have⟨β2,σ2,i1,i2,i3⟩:=hQ e s' he g2 hxs g4 w0 O0 β' I' a' w' g1;cases e with
   |normal=>exact(he rfl).elim
   |_=>exact⟨β2,I',σ2,i1,i2,i3⟩
theorem Yn{A:Type}{sh:Sh X.ι}{ds:U Nat}{s0 s':c9 X}{k:VT (X:=X) sh.vars->J A}{r:A}(h:rz sh ds s0 s' k=some r):∃v,k v=some r:=by
 unfold rz at h;have⟨_,h⟩:=dL h;unfold P3 at h;have⟨m1,h1,h⟩:=ai.1 h;have⟨m,h2,h⟩:=ai.1 h;have⟨h3,h⟩:=dL h;have⟨v,h4,h⟩:=ai.1 h;exact⟨v,(qF h).2⟩
theorem afH{α β γ:Type}{o:J γ}{r:α⊕(β⊕γ)}(h:o.map (λ a=>Sum.inr (Sum.inr a))=some r):∃b,o=some b/\r= .inr (.inr b):=by
 cases o with
 |none=>cases h
 |some b=>grind
def Hn.len{ι:Type}:Hn ι->Nat
 | .un _ r=>r.len+1
 |_=>0
theorem ala{b:Code}{A:Type}{body:Hn X.ι->c9 X->(Exit->c9 X->J A)->J A}{s0:c9 X}{k:Exit->c9 X->J A}{r:A}
 (hb:∀(h:Hn X.ι)(s:c9 X)(k:Exit->c9 X->J A)(r:A),Low s->body h s k=some r->Ev P N b (Mj (gQ b) s k r) s.st)
 {h:Hn X.ι} (hl:Low s0) (hr:Mb body h s0 k=some r):Ev P N (.loop b) (Mj (gQ (.loop b)) s0 k r) s0.st:=by
 refine aoy (λ n σ=>∃(h:Hn X.ι)(s:c9 X),σ=s.st/\h.len=n/\Low s/\Ext (· ∈gQ b) s0 s/\Mb body h s k=some r) ?_ ?_ h.len ⟨h,s0,rfl,rfl,hl,Ext.refl _ s0,hr⟩
 .rintro σ ⟨h,s,_,h1,_,_,h2⟩;cases h<;>first |cases h2 |cases h1
 .rintro n σ ⟨h,s,rfl,h1,h2,h3,h4⟩;cases h<;>try cases h4
  rename_i a q;simp only[Hn.len,Nat.add_right_cancel_iff]at h1;refine(hb a s _ r h2 h4).mono ?_;rintro e σ ⟨s',g1,g2,rfl,g4⟩;have hx:=h3.trans g2;cases e with
  |normal=>exact⟨q,s',rfl,h1,g1,hx,g4⟩
  |_=>exact⟨s',g1,hx,rfl,g4⟩
theorem lu(hT:eZ P T)(hm:P.follows .mixedOrders=true)(hΓ:sA P Γ):∀(c:Code)(A:Type)(h:Hn X.ι)(s:c9 X)(k:Exit->c9 X->J A)(r:A),Low s->run Γ T an N n c A h s k=some r->Ev P N c (Mj (gQ c) s k r) s.st
 | .skip,A,h,s,k,r,hl,hr=>aov ⟨s,hl,Ext.refl _ s,rfl,hr⟩
 | .exit id,A,h,s,k,r,hl,hr=>aow ⟨s,hl,Ext.refl _ s,rfl,hr⟩
 | .ret,A,h,s,k,r,hl,hr=>ap5 ⟨s,hl,Ext.refl _ s,rfl,hr⟩
 | .label l,A,h,s,k,r,hl,hr=>amu ⟨s,hl,Ext.refl _ s,rfl,hr⟩
 | .region id am d,A,h,s,k,r,hl,hr=>by
  refine Fh hl (λ B h k r hb=>?_) hr;have⟨s',g1,g2,g3,g4⟩:=adM (id:=id) hT hm hΓ hl hb;exact g4.mono λe σ ⟨he,hσ⟩=>⟨s',g2,g3.wide λt ht=>ak9 ht,hσ,by rw[he];exact g1⟩
 | .seq x y,A,h,s,k,r,hl,hr=>by
  refine Fh hl (λ B h k r hb=>?_) hr;refine ap6 ((lu hT hm hΓ x B _ s _ r hl hb).mono ?_);rintro e σ ⟨s',g1,g2,rfl,g4⟩;have wide:Ext (· ∈gQ (.seq x y)) s s':=g2.wide λt ht=>by simp[gQ,ht]
  cases e with
  |normal=>
   exact(lu hT hm hΓ y B _ s' k r g1 g4).mono λe σ ⟨s2,i1,i2,i3,i4⟩=>⟨s2,i1,wide.trans (i2.wide λt ht=>by simp[gQ,ht]),i3,i4⟩
  |_=>exact⟨s',g1,wide,rfl,g4⟩
 | .cond c x y,A,h,s,k,r,hl,hr=>by
  refine Fh hl (λ B h k r hb=>?_) hr;split at hb
  .rename_i v hv;refine aox v (λ _ _=>rfl) ?_ ?_
   .have:=XC (ey s.env) c;rw[hv]at this;exact this.symm
   .cases v with
    |true=>exact(lu hT hm hΓ x B _ s k r hl hb).mono λe σ ⟨s2,i1,i2,i3,i4⟩=>⟨s2,i1,i2.wide λt ht=>by simp[gQ,ht],i3,i4⟩
    |false=>exact(lu hT hm hΓ y B _ s k r hl hb).mono λe σ ⟨s2,i1,i2,i3,i4⟩=>⟨s2,i1,i2.wide λt ht=>by simp[gQ,ht],i3,i4⟩
  .rename_i hv;have⟨hb1,hb2⟩:=ak7 hb;refine ahJ (λ _ _=>rfl) ?_ ?_ ?_
   .have:=XC (ey s.env) c;rw[hv]at this;exact this.symm
   .exact(lu hT hm hΓ x B _ s k r hl hb1).mono λe σ ⟨s2,i1,i2,i3,i4⟩=>⟨s2,i1,i2.wide λt ht=>by simp[gQ,ht],i3,i4⟩
   .exact(lu hT hm hΓ y B _ s k r hl hb2).mono λe σ ⟨s2,i1,i2,i3,i4⟩=>⟨s2,i1,i2.wide λt ht=>by simp[gQ,ht],i3,i4⟩
  .cases hb
 | .block id b,A,h,s,k,r,hl,hr=>by
  refine Fh hl (λ B h k r hb=>?_) hr;refine amv ((lu hT hm hΓ b B _ s _ r hl hb).mono ?_);rintro e σ ⟨s',g1,g2,rfl,g4⟩;cases e with
  |exit j=>
   simp only[ahI];simp only at g4;split
   .rw[aT ‹_›]at g4;exact⟨s',g1,g2,rfl,g4⟩
   .rw[aW ‹_›]at g4;exact⟨s',g1,g2,rfl,g4⟩
  |_=>exact⟨s',g1,g2,rfl,g4⟩
 | .loop b,A,h,s,k,r,hl,hr=>by
  simp only[run]at hr;split at hr
  .rename_i hd id ab h';obtain⟨v0,h1,h2,h3,h4⟩:=lW hl hl (Ext.refl _ s) hr;rw[ai]at h1;obtain⟨w,h5,h6⟩:=h1;intro w0 O0 β I a ww hrel ho;have⟨β',hrel'⟩:=h4 P w0 O0 N β I a ww hrel;refine Ym (Q:=Mj (gQ (.loop b)) s k r) hl (λ s'=>rfl) (λ v r hlv hs=>lu hT hm hΓ b _ h' (encS hd s v) _ r hlv hs) (λ e s' he hls hxs hk=>?_) (λ e s' v he hk=>?_) n v0 h5 h2 h3 w0 O0 β' I a ww hrel' h2.old
   .cases e with
    |exit j=>
     simp only at hk;split at hk
     .rename_i hj;subst hj;have⟨w',i1,i2,i3,i4⟩:=lW hl hls hxs hk;injection i1 with i1;cases i1;intro w0 O0 β I a ww hrel;have⟨β',hrel'⟩:=i4 P w0 O0 N β I a ww hrel;exact⟨β',_,hrel',i2.old,_,i2,i3,rfl,h6⟩
     .cases hk
    |normal=>exact(he rfl).elim
    |_=>cases hk
   .cases e with
    |exit j=>
     simp only at hk;split at hk
     .have⟨w',i1⟩:=Yn hk;injection i1 with i1;cases i1
     .cases hk
    |normal=>exact he rfl
    |_=>cases hk
  .rename_i hd id ab h';obtain⟨v0,h1,h2,h3,h4⟩:=lW hl hl (Ext.refl _ s) hr;unfold dm at h1;rw[ai]at h1;obtain⟨w,h5,h6⟩:=h1;intro w0 O0 β I a ww hrel ho;have⟨β',hrel'⟩:=h4 P w0 O0 N β I a ww hrel;refine Ym (Q:=Mj (gQ (.loop b)) s k r) hl (λ s'=>rfl) (λ v r hlv hs=>lu hT hm hΓ b _ h' (encS hd s v) _ r hlv hs) (λ e s' he hls hxs hk=>?_) (λ e s' v he hk=>?_) n v0 h5 h2 h3 w0 O0 β' I a ww hrel' h2.old
   .intro w0 O0 β I a ww hrel;have other:(k e s').map (λ a=>Sum.inr (Sum.inr a))=some (Sum.inr w:VT (X:=X) hd.vars⊕(VT (X:=X) ab.vars⊕A))->∃ β' σ',Rel P w0 O0 N β' I σ' a ww/\tG σ'/\Mj (gQ (.loop b)) s k r e σ':=by
     intro hm;have⟨q,hq,hr⟩:=afH hm;cases hr;cases h6;exact⟨β,_,hrel,hls.old,s',hls,hxs,rfl,hq⟩
    cases e with
    |exit j=>
     simp only at hk;split at hk
     .rename_i hj;subst hj;have⟨w',i1,i2,i3,i4⟩:=lW hl hls hxs hk;injection i1 with i1;cases i1;have⟨β',hrel'⟩:=i4 P w0 O0 N β I a ww hrel;exact⟨β',_,hrel',i2.old,_,i2,i3,rfl,h6⟩
     .exact other hk
    |normal=>exact(he rfl).elim
    |_=>exact other hk
   .have other:(k e s').map (λ a=>Sum.inr (Sum.inr a))=some (Sum.inl v:VT (X:=X) hd.vars⊕(VT (X:=X) ab.vars⊕A))->False:=by
     intro hm;have⟨q,hq,hr⟩:=afH hm;cases hr
    cases e with
    |exit j=>
     simp only at hk;split at hk
     .have⟨w',i1⟩:=Yn hk;injection i1 with i1;cases i1
     .exact other hk
    |normal=>exact he rfl
    |_=>exact other hk
  .exact ala (body:=λh s k=>run Γ T an N n b A h s k) (λ h s k r hl h1=>lu hT hm hΓ b A h s k r hl h1) hl hr
  .cases hr
 | .rangeFunc ..,_,_,_,_,_,_,hr=>by cases hr
 | .scope _,_,_,_,_,_,_,hr=>by cases hr
 | .goto _,_,_,_,_,_,_,hr=>by cases hr
 | .refuse _,_,_,_,_,_,_,hr=>by cases hr
end
end
section
variable {X:SX}
def jQ:Nat->(l:U (AT X.ι))->je X l->U (DV X)
 |_,[],_=>[]
 |n,.d c::l,a=> .c c a.1::jQ n l a.2
 |n,.ref c::l,a=> .rp c a.1 0::jQ n l a.2
 |n,.du as r::l,a=> .du as r a.1::jQ n l a.2
 |n,.mut _::l,a=> .own n 0 (List.length a.1)::jQ (n+1) l a.2
 |n,.i7 _::l,a=> .ptr n 0 0::jQ (n+1) l a.2
 |n,.nil::l,a=> .nil::jQ n l a.2
def Cm:(l:U (AT X.ι))->je X l->U (bp X)
 |[],_=>[]
 | .mut c::l,a=> .da c a.1::Cm l a.2
 | .i7 c::l,a=> .cells (CT.sz X c) [wm c a.1]::Cm l a.2
 | .d _::l,a=>Cm l a.2
 | .ref _::l,a=>Cm l a.2
 | .du _ _::l,a=>Cm l a.2
 | .nil::l,a=>Cm l a.2
theorem uj:∀(n:Nat)(l:U (AT X.ι))(a:je X l),bM (jQ n l a)=dN n l a
 |_,[],_=>rfl
 |n,.d c::l,a=>by simp only[jQ,bM,den,dN,uj n l a.2]
 |n,.ref c::l,a=>by simp only[jQ,bM,den,dN,uj n l a.2]
 |n,.du as r::l,a=>by simp only[jQ,bM,dN,uj n l a.2]
 |n,.mut c::l,a=>by simp only[jQ,bM,den,dN,uj (n+1) l a.2]
 |n,.i7 c::l,a=>by simp only[jQ,bM,den,dN,uj (n+1) l a.2]
 |n,.nil::l,a=>by simp only[jQ,bM,den,dN,uj n l a.2]
theorem xB:∀(l:U (AT X.ι))(a:je X l),(Cm l a).map bG=(rf l a).map gj
 |[],_=>rfl
 | .d _::l,a=>xB l a.2
 | .ref _::l,a=>xB l a.2
 | .du _ _::l,a=>xB l a.2
 | .nil::l,a=>xB l a.2
 | .mut c::l,a=>by simp only[Cm,rf,aF,xB l a.2];rfl
 | .i7 c::l,a=>by simp only[Cm,rf,aF,xB l a.2,bG,gj,tQ,aL,map_nil,nV]
theorem qi:∀(n:Nat)(l:U (AT X.ι))(a:je X l),∀k∈aR (jQ n l a),k<n+ru l
 |_,[],_,k,hk=>by simp[jQ,aR]at hk
 |n,.d c::l,a,k,hk=>by
  have:=qi n l a.2 k (by simpa[jQ,aR,bm]using hk);simpa[ru,AT.im]using this
 |n,.ref c::l,a,k,hk=>by
  have:=qi n l a.2 k (by simpa[jQ,aR,bm]using hk);simpa[ru,AT.im]using this
 |n,.du as r::l,a,k,hk=>by
  have:=qi n l a.2 k (by simpa[jQ,aR,bm]using hk);simpa[ru,AT.im]using this
 |n,.nil::l,a,k,hk=>by
  have:=qi n l a.2 k (by simpa[jQ,aR,bm]using hk);simpa[ru,AT.im]using this
 |n,.mut c::l,a,k,hk=>by
  simp only[jQ,aR,bm,List.singleton_append,aO]at hk;simp only[ru,AT.im,if_true];rcases hk with rfl |hk
  .omega
  .have:=qi (n+1) l a.2 k hk;omega
 |n,.i7 c::l,a,k,hk=>by
  simp only[jQ,aR,bm,List.singleton_append,aO]at hk;simp only[ru,AT.im,if_true];rcases hk with rfl |hk
  .omega
  .have:=qi (n+1) l a.2 k hk;omega
theorem lX:∀(n:Nat)(l:U (AT X.ι))(a:je X l),(dN n l a).length=l.length
 |_,[],_=>rfl
 |n,.d c::l,a=>by simp only[dN,bn,lX n l a.2]
 |n,.ref c::l,a=>by simp only[dN,bn,lX n l a.2]
 |n,.du as r::l,a=>by simp only[dN,bn,lX n l a.2]
 |n,.mut c::l,a=>by simp only[dN,bn,lX (n+1) l a.2]
 |n,.i7 c::l,a=>by simp only[dN,bn,lX (n+1) l a.2]
 |n,.nil::l,a=>by simp only[dN,bn,lX n l a.2]
theorem lY:∀(l:U (AT X.ι))(a:je X l),(rf l a).length=ru l
 |[],_=>rfl
 | .d _::l,a=>by simpa[ru,AT.im,rf]using lY l a.2
 | .ref _::l,a=>by simpa[ru,AT.im,rf]using lY l a.2
 | .du _ _::l,a=>by simpa[ru,AT.im,rf]using lY l a.2
 | .nil::l,a=>by simpa[ru,AT.im,rf]using lY l a.2
 | .mut _::l,a=>by simp only[rf,bn,lY l a.2,ru,AT.im,if_true];omega
 | .i7 _::l,a=>by simp only[rf,bn,lY l a.2,ru,AT.im,if_true];omega
def xp(l:U (AT X.ι))(a:je X l):c9 X:=⟨(List.range l.length).zip (jQ 0 l a),(List.range (Cm l a).length).zip ((Cm l a).map some),1000,[]⟩
theorem ajZ(l:U (AT X.ι))(a:je X l)(k:Nat):fL (xp l a).obj k=(Cm l a)[k]? :=by
 have h:(List.range (Cm l a).length).zip ((Cm l a).map some)=(List.range ((Cm l a).map some).length).zip ((Cm l a).map some):=by rw[length_map]
 simp only[xp,fL];rw[h,Ci,List.getElem?_map];cases (Cm l a)[k]?<;>rfl
theorem aql(l:U (AT X.ι))(a:je X l):(xp l a).st=rj.st ⟨(List.range (zy l a).length).zip (zy l a),(List.range ((rf l a).map gj).length).zip ((rf l a).map gj)⟩:=by
 have ho:∀k,((fL (xp l a).obj k).map bG)=lk ((List.range ((rf l a).map gj).length).zip ((rf l a).map gj)) k:=by
  intro k;rw[Ci,ajZ,<- xB,List.getElem?_map]
 simp only[c9.st,rj.st,St.mk.injEq,and_true];refine⟨?_,funext ho⟩;funext t;simp only[xp];rw[lX,zy,<- uj];generalize jQ 0 l a=ds;have:∀(ks:U Nat)(ds:U (DV X)),den (ey (ks.zip ds) t)=(lk (ks.zip (bM ds)) t).getD .undef:=by
  intro ks
  induction ks with
  |nil=>intro ds;rfl
  |cons k ks ih=>
   intro ds;cases ds with
   |nil=>rfl
   |cons d ds=>
    simp only[List.zip_cons_cons,ey,lk,bM];by_cases h:k=t
    .simp[h]
    .simp only[aW h];exact ih ds
 exact this _ _
theorem aoP(l:U (AT X.ι))(a:je X l)(hm:ru l<=1000):Low (xp l a):=by
 refine⟨by show 1000<=1000000;decide,aC _,λt k hk=>?_,λk o ho=>?_⟩
 .have h0:=qi 0 l a;simp only[xp]at hk;generalize jQ 0 l a=ds at hk h0;have:∀(ks:U Nat)(ds:U (DV X)),(∀ k∈aR ds,k<0+ru l)->∀k∈bm (ey (ks.zip ds) t),k<1000:=by
   intro ks
   induction ks with
   |nil=>intro ds _ k hk;simp[ey,lk,bm]at hk
   |cons k ks ih=>
    intro ds h j hj;cases ds with
    |nil=>simp[ey,lk,bm]at hj
    |cons d ds=>
     simp only[List.zip_cons_cons,ey,lk]at hj;by_cases e:k=t
     .simp only[aT e,Option.getD_some]at hj;have:=h j (by simp[aR,hj]);omega
     .simp only[aW e]at hj;exact ih ds (λ k hk=>h k (by simp[aR,hk])) j hj
  exact this _ _ h0 k hk
 .rw[ajZ]at ho;have hl:(Cm l a).length=ru l:=by rw[<- lY l a];simpa using congrArg List.length (xB l a)
  refine⟨by have:=(dh.1 ho).1;show k<1000;omega,λj hj=>?_⟩;have hz:∀(l:U (AT X.ι))(a:je X l),∀o∈Cm l a,dE o=[]:=by
   intro l
   induction l with
   |nil=>intro a o ho;simp[Cm]at ho
   |cons q l ih=>
    intro a o ho;cases q<;>simp only[Cm,aO]at ho
    case «mut» c=>rcases ho with rfl |ho;rfl;exact ih _ o ho
    case i7 c=>
     rcases ho with rfl |ho
     .have h1:aR (wm c a.1)=[]:=by
       rw[<- iD,nV];generalize CT.row X.toSE c a.1=r
       induction r with
       |nil=>rfl
       |cons y ys ih=>simp only[aF,eX,refs,ih,bI]
      simp[dE,h1]
     .exact ih _ o ho
    all_goals exact ih _ o ho
  rw[hz l a o (cO ho)]at hj;cases hj
variable (T:dC)
def DP(s:c9 X):ResultVar->J (DV X)
 | .tmp t=>some (ey s.env t)
 | .cell a t=>(T t).bind λti=>match ey s.env a with
  | .ptr kk row aa=>(fL s.obj kk).bind λo=>match o with
   | .cells _ rows=>(rows[row]?).bind λr=>I4 ti.agg ti.size ((r.drop aa).take ti.size)
   | .da b l=>(X.ar t).bind λa=>(gF (.sl b) (.sl a.c) l).bind λl=>if row=0/\aa=0/\ti.agg=true/\(X.cX a.i).length=ti.size/\2<=ti.size then(a.g (sub l 0 ti.size)).bind λy=>some (.c (.st a.i) y)else none
   |_=>none
  |_=>none
def Ug(s:c9 X):U ResultVar->J (List (DV X))
 |[]=>some []
 |r::rs=>(DP T s r).bind λv=>(Ug s rs).bind λvs=>some (v::vs)
theorem amU{s:c9 X}{r:ResultVar}{d:DV X}(h:DP T s r=some d):QZ T s.st r=some (den d):=by
 cases r with
 |tmp t=>simp only[DP,ay]at h;subst h;rfl
 |cell a t=>
  simp only[DP]at h;rw[ai]at h;obtain⟨ti,h1,h⟩:=h;split at h
  .rename_i kk row aa hp;rw[ai]at h;obtain⟨o,h2,h⟩:=h;split at h
   .rename_i sz rows;rw[ai]at h;obtain⟨q,h3,h⟩:=h;have h4:=DF h;rw[kK]at h4
    show(match KF T t (den (ey s.env a)) (λ k=>(fL s.obj k).map bG)with
     |some ⟨v,[],[]⟩=>some v
     |_=>none)=some (den d)
    simp only[KF,Dv,h1,af,hp,den,h2,Option.map_some,bG,List.getElem?_map,h3,h4,pv]
   .rename_i b l0;rw[ai]at h;obtain⟨ar,h3,h⟩:=h;rw[ai]at h;obtain⟨l,h4,h⟩:=h;split at h
    .rename_i hc;obtain⟨rfl,rfl,c1,c2,c3⟩:=hc;have⟨y,h5,h⟩:=ai.1 h;cases h;have ho:=(X.lR t ar h3).1;have hk:(λ k=>(fL s.obj k).map bG) kk=some ⟨1,eT (l.map λx=>den (.c ar.c x:DV X))⟩:=by
      have h6:GB (fL s.obj) kk ar.c=some l:=(by unfold GB;rw[h2];exact h4);have⟨o,g1,g2⟩:=XZ ho h6;simp only[g1,Option.map_some,g2]
     have hA:=X0 (T:=T) (g:=λk=>(fL s.obj k).map bG) h1 h3 c1 c2 hk h5;have hN:Dv T t (den (.ptr kk 0 0:DV X)) .none (λ k=>(fL s.obj k).map bG)=none:=by
      simp only[Dv,h1,af,den,hk];cases l with
      |nil=>rfl
      |cons z zs=>
       simp only[aF,eT,List.getElem?_cons_zero,af,List.drop_zero];have:part' ti.agg ti.size (List.take ti.size [den (.c ar.c z:DV X)])=none:=by
        unfold part';rw[aW];simp only[List.length_take,bn,List.length_nil];omega
       show(part' ti.agg ti.size (List.take ti.size [den (.c ar.c z:DV X)])).bind pv=none;rw[this];rfl
     show(match KF T t (den (ey s.env a)) (λ k=>(fL s.obj k).map bG)with
      |some ⟨v,[],[]⟩=>some v
      |_=>none)=some (den (.c (.st ar.i) y:DV X))
     rw[hp];simp only[KF,hN,hA]
    .cases h
   .cases h
  .cases h
def Yo{A:Type}(s:c9 X):U ResultVar->(List (DV X)->J A)->J A
 |[],k=>k []
 | .tmp t::rs,k=>Yo s rs λvs=>k (ey s.env t::vs)
 | .cell a t::rs,k=>(T t).bind λti=>match ey s.env a with
  | .ptr kk row aa=>(fL s.obj kk).bind λo=>match o with
   | .cells _ rows=>(rows[row]?).bind λr=>(I4 ti.agg ti.size ((r.drop aa).take ti.size)).bind λv=>Yo s rs λvs=>k (v::vs)
   | .da b l=>(X.ar t).bind λa=>(gF (.sl b) (.sl a.c) l).bind λl=>if row=0/\aa=0/\ti.agg=true/\(X.cX a.i).length=ti.size/\2<=ti.size then(a.g (sub l 0 ti.size)).bind λy=>Yo s rs λvs=>k (.c (.st a.i) y::vs)else none
   |_=>none
  |_=>none
theorem DZ{A:Type}{s:c9 X}:∀{rs:U ResultVar}{k:U (DV X)->J A}{r:A},Yo T s rs k=some r->∃ds,Ug T s rs=some ds/\k ds=some r
 |[],k,r,h=>⟨[],rfl,h⟩
 | .tmp t::rs,k,r,h=>by
  have⟨ds,h1,h2⟩:=DZ (rs:=rs) h;exact⟨_,by simp only[Ug,DP,h1,af],h2⟩
 | .cell a t::rs,k,r,h=>by
  simp only[Yo]at h;rw[ai]at h;obtain⟨ti,h1,h⟩:=h;split at h
  .rename_i kk row aa hp;rw[ai]at h;obtain⟨o,h2,h⟩:=h;split at h
   .rw[ai]at h;obtain⟨q,h3,h⟩:=h;rw[ai]at h;obtain⟨v,h4,h⟩:=h;have⟨ds,h5,h6⟩:=DZ (rs:=rs) h;exact⟨_,by simp only[Ug,DP,h1,hp,h2,h3,h4,h5,af],h6⟩
   .rw[ai]at h;obtain⟨ar,h3,h⟩:=h;rw[ai]at h;obtain⟨l,h4,h⟩:=h;split at h
    .rename_i hc;have⟨y,h5,h⟩:=ai.1 h;have⟨ds,h6,h7⟩:=DZ (rs:=rs) h;exact⟨_,by simp only[Ug,DP,h1,hp,h2,h3,h4,h5,h6,af];rw[aT hc];rfl,h7⟩
    .cases h
   .cases h
  .cases h
theorem Rn{s:c9 X}:∀{rs:U ResultVar}{ds:U (DV X)},Ug T s rs=some ds->nU T s.st rs=some (bM ds)
 |[],ds,h=>by simp only[Ug,ay]at h;subst h;rfl
 |r::rs,ds,h=>by
  simp only[Ug]at h;have⟨d,h1,h⟩:=ai.1 h;have⟨ds',h2,h⟩:=ai.1 h;cases h;simp only[nU,amU T h1,Rn h2,af,bM]
def Ro:U (RT X.ι)->U (DV X)->J Nat
 | .mu _::l,ds=>Ro l ds
 | .mr _::l,ds=>Ro l ds
 | .mv::l,ds=>Ro l ds
 | .fresh _::l,d::ds=>match d with
  | .own k _ _=>some k
  |_=>Ro l ds
 | .d _::l,_::ds=>Ro l ds
 | .whole _::l,_::ds=>Ro l ds
 |_,_=>none
def yz:U (RT X.ι)->U (DV X)->U (Nat×Nat)
 | .mu _::l,ds=>yz l ds
 | .mr _::l,ds=>yz l ds
 | .mv::l,ds=>yz l ds
 | .whole j::l,d::ds=>match d with
  | .own _ _ len=>(j,len)::yz l ds
  |_=>yz l ds
 | .d _::l,_::ds=>yz l ds
 | .fresh _::l,_::ds=>yz l ds
 |_,_=>[]
def xC:Nat->U (RT X.ι)->U Nat
 |_,[]=>[]
 |n,.mu _::l=>n::xC (n+1) l
 |n,.mr _::l=>n::xC (n+1) l
 |n,.mv::l=>xC (n+1) l
 |n,_::l=>xC n l
def rN:Nat->U (RT X.ι)->U Nat
 |_,[]=>[]
 |n,.mu _::l=>n::rN (n+1) l
 |n,.mr _::l=>rN (n+1) l
 |n,.mv::l=>rN (n+1) l
 |n,_::l=>rN n l
def LO(bad:U Nat)(ks:U Nat):Bool:=ks.all λk=>!bad.contains k
def adP(get:Nat->J (bp X))(row:U (DV X))(c:CT X.ι):J (CT.T X.toSE c×List Bool):=
 match c with
 | .st i=>(xU get row (X.cX i)).bind λh=>some (X.make i h.1,h.2)
 |c=>match row with
  |[d]=>TU get d c
  |_=>none
def Jf(get:Nat->J (bp X))(c:CT X.ι):U (List (DV X))->J (List (CT.T X.toSE c)×List Bool)
 |[]=>some ([],[])
 |r::rs=>(adP get r c).bind λx=>(Jf get c rs).bind λy=>some (x.1::y.1,x.2++y.2)
def OJ(get:Nat->J (bp X))(bad rh:U Nat)(fk:J Nat)(wl:U (Nat×Nat))(n:Nat):(q:RT X.ι)->U (DV X)->J ((RT.T X q×List Bool)×List (DV X))
 | .d c,d::ds=>if LO bad (bm d)then(Gs get d c).bind λx=>some (x,ds)else none
 | .fresh e,d::ds=>match d with
  | .nil=>some (([],[]),ds)
  | .own k 0 len=>if fk=some k then(get k).bind λo=>match o with
   | .da b l=>(gF (.sl b) (.sl e) l).bind λ(l:List (CT.T X.toSE e))=>some ((sub l 0 len,[be (sub l 0 len).length len]),ds)
   | .cells sz rows=>if sz=CT.sz X e/\LO bad (rows.map aR).flatten=true then(Jf get e rows).bind λx=>some ((x.1,be len (List.length x.1)::x.2),ds)else none
   | .map _ _ _=>none
   else none
  |_=>none
 | .whole j,d::ds=>match d with
  | .own k 0 len=>if k=j/\rh.contains j=true then(lk wl j).bind λec=>some (((),[be len ec]),ds)else none
  |_=>none
 | .mu c,ds=>(get n).bind λo=>match o with
  | .da b l=>(gF (.sl b) (.sl c) l).bind λ(l:List (CT.T X.toSE c))=>match lk wl n with
   |some len=>some ((sub l 0 len,[be (sub l 0 len).length len]),ds)
   |none=>some ((l,[]),ds)
  |_=>none
 | .mr c,ds=>(get n).bind λo=>match o with
  | .cells sz [row]=>if sz=CT.sz X c/\LO bad (aR row)=true then(adP get row c).bind λx=>some (x,ds)else none
  |_=>none
 | .mv,ds=>some (((),[]),ds)
 |_,[]=>none
def OL(get:Nat->J (bp X))(bad rh:U Nat)(fk:J Nat)(wl:U (Nat×Nat)):Nat->(l:U (RT X.ι))->(ds:U (DV X))->J (uF X l×List Bool)
 |_,[],ds=>match ds with
  |[]=>some ((),[])
  |_=>none
 |n,[q],ds=>(OJ get bad rh fk wl n q ds).bind λp=>match p.2 with
  |[]=>some p.1
  |_=>none
 |n,q::q'::l,ds=>(OJ get bad rh fk wl n q ds).bind λp=>(OL get bad rh fk wl (if q.out then n+1 else n) (q'::l) p.2).bind λy=>some ((p.1.1,y.1),p.1.2++y.2)
def P2(s:c9 X)(l:U (RT X.ι))(ds:U (DV X)):J (uF X l×List Bool):=
 if LO (xC 0 l) (Ro l ds).toList then OL (fL s.obj) (xC 0 l++(Ro l ds).toList) (rN 0 l) (Ro l ds) (yz l ds) 0 l ds else none
def aq3(rs:U ResultVar)(l:U (RT X.ι)):Exit->c9 X->J (uF X l)
 | .normal,s=>Yo T s rs λds=>(P2 s l ds).bind λx=>XE x.2 (some x.1)
 | .ret,s=>Yo T s rs λds=>(P2 s l ds).bind λx=>XE x.2 (some x.1)
 |_,_=>none
def exit(A:Type)(k:c9 X->J A):Exit->c9 X->J A
 | .normal,s=>k s
 | .ret,s=>k s
 |_,_=>none
variable {T}
section
variable {get:Nat->Option (bp X)} {fk:Option Nat} {os':List (Option fe)} {bad:List Nat}
theorem Fj{ks:U Nat}(h:LO bad ks=true):∀j∈ks,j∉bad:=λj hj=>by simpa using all_eq_true.1 h j hj
theorem Rp(hbad:∀j,j∉bad->fk≠some j/\¬kept os' j){d:DV X}{c:CT X.ι}{x:CT.T X.toSE c×List Bool}(hc:c.one=true)(h:TU get d c=some x)(hb:∀b∈x.2,b=true)(mN:∀j∈bm d,j∉bad):∃t,CT.tv X.toSE c x.1= .s t/\QY (fE get) fk os' (den d) t:=by
 obtain⟨t,h1,h2⟩:=row_one hc x.1;refine⟨t,h2,?_⟩;have hbase:∀y,Lb d c=some y->y=x.1->QY (fE get) fk os' (den d) t:=by
  intro y hy he;subst he;have h3:=xg hy;rw[h2]at h3;have h4:=adw hc hy;unfold Lb at hy;split at hy
  .rw[(jb hy).1];simp only[den,h2,TV.av,QY]
  .simp only[den,Gb.wk,TV.av,AV.t.injEq]at h3;simp only[den,QY];exact h3.symm
  .simp only[den,Gb.wk,TV.av,AV.t.injEq]at h3;simp only[den,QY];exact h3.symm
  .cases hy
 unfold TU at h;split at h
 .rename_i kk aa len e;rw[ai]at h;obtain⟨o,h3,h⟩:=h;split at h
  .rename_i b l0;rw[ai]at h;obtain⟨l,h4,h⟩:=h;cases h;have h5:(sub l aa len).length=len:=(by simpa[be]using hb (be (sub l aa len).length len) (by simp));have⟨h6,h7⟩:=jw h4;obtain⟨hf1,hf2⟩:=hbad kk (mN kk (by simp[bm]));simp only[den,QY];refine⟨hf1,hf2,bG (.da b l0),(sub l aa len).map (CT.row X.toSE e),by simp[fE,h3],?_,by simpa using h5,?_⟩
   .simp only[bG,h7];simp[aL,sub,map_take]
   .simpa[CT.row]using h1.symm
  .cases h
 .rename_i kk aa len;rw[ai]at h;obtain⟨o,h3,h⟩:=h;split at h
  .rename_i b l0;cases h;have h5:(sub l0 aa len).length=len:=(by simpa[be]using hb (be (sub l0 aa len).length len) (by simp));obtain⟨hf1,hf2⟩:=hbad kk (mN kk (by simp[bm]));simp only[den,QY];refine⟨hf1,hf2,bG (.da b l0),(sub l0 aa len).map (CT.row X.toSE b),by simp[fE,h3],?_,by simpa using h5,?_⟩
   .simp only[bG];simp[aL,sub,map_take,map_drop]
   .simpa[CT.row]using h1.symm
  .cases h
 .rename_i kk len e;rw[ai]at h;obtain⟨o,h3,h⟩:=h;split at h
  .rename_i b l0;have⟨l,h4,h⟩:=ai.1 h;cases h;have h5:(sub l 0 len).length=len:=(by simpa[be]using hb (be (sub l 0 len).length len) (by simp));have⟨h6,h7⟩:=jw h4;obtain⟨hf1,hf2⟩:=hbad kk (mN kk (by simp[bm]));simp only[den,QY];refine⟨hf1,hf2,bG (.da b l0),(sub l 0 len).map (CT.row X.toSE e),by simp[fE,h3],?_,by simpa using h5,?_⟩
   .simp only[bG,h7];simp[aL,sub,map_take,map_drop]
   .simpa[CT.row]using h1.symm
  .cases h
 .have⟨y,h3,h⟩:=ai.1 h;injection h with h;exact hbase y h3 (by rw[<- h])
theorem MO(hbad:∀j,j∉bad->fk≠some j/\¬kept os' j):∀{ds:U (DV X)}{l:U (CT X.ι)}{h:HL X.toSE l×List Bool},xU get ds l=some h->(∀ b∈h.2,b=true)->l.all CT.one=true->(∀ j∈aR ds,j∉bad)->kB (fE get) fk os' (bM ds) (HL.row X.toSE l h.1)
 |[],[],h,_,_,_,_=>trivial
 |d::ds,c::l,h,hr,hb,ha,mN=>by
  simp only[xU]at hr;have⟨x,h1,hr⟩:=ai.1 hr;have⟨g,h2,hr⟩:=ai.1 hr;cases hr;simp only[all_cons,aG]at ha;obtain⟨t,i1,i2⟩:=Rp hbad ha.1 h1 (λ b hb'=>hb b (by simp[hb'])) (λ j hj=>mN j (by simp[aR,hj]));have i3:=MO hbad h2 (λ b hb'=>hb b (by simp[hb'])) ha.2 (λ j hj=>mN j (by simp[aR,hj]));obtain⟨t',j1,j2⟩:=row_one ha.1 x.1;rw[i1]at j2;cases j2;show kB (fE get) fk os' (den d::bM ds) (CT.row X.toSE c x.1++HL.row X.toSE l g.1);rw[j1];exact⟨i2,i3⟩
 |[],_::_,_,hr,_,_,_=>by simp[xU]at hr
 |_::_,[],_,hr,_,_,_=>by simp[xU]at hr
theorem Uh(hbad:∀j,j∉bad->fk≠some j/\¬kept os' j){row:U (DV X)}{c:CT X.ι}{x:CT.T X.toSE c×List Bool}(h:adP get row c=some x)(hb:∀b∈x.2,b=true)(mN:∀j∈aR row,j∉bad):kB (fE get) fk os' (bM row) (CT.row X.toSE c x.1):=by
 cases c
 case st i=>
  replace h:(xU get row (X.cX i)).bind (λ h=>some (X.make i h.1,h.2))=some x:=h
  have⟨g,h1,h⟩:=ai.1 h;cases h;have:=MO hbad h1 hb (X.flat i) mN;show kB (fE get) fk os' (bM row) (X.row i (X.make i g.1));rw[X.fX];exact this
 all_goals
  match row,h,mN with
  |[d],h,mN=>
   obtain⟨t,i1,i2⟩:=Rp (fk:=fk) hbad rfl h hb (λ j hj=>mN j (by simp[aR,hj]));obtain⟨t',j1,j2⟩:=row_one rfl x.1;rw[i1]at j2;cases j2;rw[j1];exact⟨i2,trivial⟩
  |[],h,_=>cases h
  |_::_::_,h,_=>cases h
theorem OM(hbad:∀j,j∉bad->fk≠some j/\¬kept os' j){c:CT X.ι}:∀{rows:U (List (DV X))}{x:U (CT.T X.toSE c)×List Bool},Jf get c rows=some x->(∀ b∈x.2,b=true)->(∀ j∈(rows.map aR).flatten,j∉bad)->ed (fE get) fk os' (rows.map bM) (x.1.map (CT.row X.toSE c))/\rows.length=List.length x.1
 |[],x,h,_,_=>by simp only[Jf,ay]at h;subst h;exact⟨trivial,rfl⟩
 |r::rs,x,h,hb,mN=>by
  simp only[Jf]at h;have⟨y,h1,h⟩:=ai.1 h;have⟨z,h2,h⟩:=ai.1 h;cases h;have i1:=Uh hbad h1 (λ b hb'=>hb b (by simp[hb'])) (λ j hj=>mN j (by simp[hj]));obtain⟨i2,i3⟩:=OM hbad h2 (λ b hb'=>hb b (by simp[hb'])) (λ j hj=>mN j (by simp only[aF,flatten_cons,bg];exact .inr hj));exact⟨⟨i1,i2⟩,by simp[i3]⟩
theorem amV{x:AV}{t:Tree}(h:QY (fE get) fk os' x t):GM (fE get) fk os' x (.d (.s t)):=by cases x<;>first |exact h |exact h.elim
theorem Fp(sz:CT X.ι)(l:U (CT.T X.toSE sz)):ed (fE get) fk os' (aL (l.map (CT.row X.toSE sz))) (l.map (CT.row X.toSE sz)):=by
 generalize l.map (CT.row X.toSE sz)=rows
 induction rows with
 |nil=>trivial
 |cons r rs ih=>
  refine⟨?_,ih⟩;show kB (fE get) fk os' (r.map AV.t) r
  induction r with
  |nil=>trivial
  |cons y ys ih2=>exact⟨rfl,ih2⟩
theorem amW(hbad:∀j,j∉bad->fk≠some j/\¬kept os' j){c:CT X.ι}{d:DV X}{x:CT.T X.toSE c×List Bool}(h:Gs get d c=some x)(mN:∀j∈bm d,j∉bad)(hb:∀b∈x.2,b=true):GM (fE get) fk os' (den d) (.d (CT.tv X.toSE c x.1)):=by
 cases c
 case st i=>
  replace h:GW get d i=some x:=h
  cases d
  case agg cs=>
   simp only[GW]at h;have⟨g,h1,h⟩:=ai.1 h;cases h;have:=MO (fk:=fk) hbad h1 hb (X.flat i) (by simpa[bm]using mN);show kB (fE get) fk os' (bM cs) (X.row i (X.make i g.1));rw[X.fX];exact this
  case c a y=>
   simp only[GW]at h;have⟨z,h1,h⟩:=ai.1 h;cases h;rw[(jb h1).1];show kB (fE get) fk os' ((X.row i z).map AV.t) (X.row i z);generalize X.row i z=l
   induction l with
   |nil=>trivial
   |cons y ys ih=>exact⟨rfl,ih⟩
  all_goals cases h
 all_goals
  have⟨t,i1,i2⟩:=Rp (fk:=fk) hbad rfl h hb mN;rw[i1];exact amV i2
theorem Yp{rh:U Nat}{wl:U (Nat×Nat)}{ns:U Nat}{n:Nat}(hbad:∀j,j∉bad->fk≠some j/\¬kept os' j)(qS:∀k,fk=some k->¬kept os' k)(hns:∀j ec,j∈rh->lk wl j=some ec->ns.getD j 0=ec)(hmu:∀j∈rh,kept os' j){q:RT X.ι}{ds:U (DV X)}{p:(RT.T X q×List Bool)×List (DV X)}(h:OJ get bad rh fk wl n q ds=some p)(hb:∀b∈p.1.2,b=true):
 (∀ cs,m5 (fE get) fk os' (bM p.2) cs->m5 (fE get) fk os' (bM ds) (XT ns q p.1.1++cs))/\
 (∀ t,rq q p.1.1=[some t]->∃o,get n=some o/\(bG o).sz=t.1/\ed (fE get) fk os' ((bG o).rows.take t.2.length) t.2)/\
 (∀ ec c,q= .mu c->lk wl n=some ec->wd q p.1.1=[ec]):=by
 cases q
 case d c=>
  cases ds with
  |nil=>simp[OJ]at h
  |cons d ds=>
   simp only[OJ]at h;split at h
   .rename_i hnb;rw[ai]at h;obtain⟨x,h1,h⟩:=h;cases h;exact⟨λ cs hcs=>⟨amW hbad h1 (Fj hnb) hb,hcs⟩,λt ht=>by simp[rq]at ht,λ_ _ h=>by cases h⟩
   .cases h
 case fresh e=>
  cases ds with
  |nil=>simp[OJ]at h
  |cons d ds=>
   refine⟨λ cs hcs=>?_,λt ht=>by simp[rq]at ht,λ_ _ h=>by cases h⟩;simp only[OJ]at h;split at h
   .cases h;exact⟨rfl,hcs⟩
   .rename_i k len;split at h
    .rename_i mN;rw[ai]at h;obtain⟨o,h1,h⟩:=h;split at h
     .rename_i b l0;rw[ai]at h;obtain⟨l,h2,h⟩:=h;cases h;have⟨h3,h4⟩:=jw h2;have h5:(sub l 0 len).length=len:=(by simpa[be]using hb (be (sub l 0 len).length len) (by simp));refine⟨⟨mN,qS k mN,rfl,bG (.da b l0),by simp[fE,h1],by simp only[bG];exact h3,?_,by simpa using h5⟩,hcs⟩;have e1:(bG (.da b l0)).rows.take len=aL ((sub l 0 len).map (CT.row X.toSE e)):=by
       simp only[bG,h4];simp[aL,sub,map_take]
      rw[e1];exact Fp e _
     .rename_i sz rows;split at h
      .rename_i hc;rw[ai]at h;obtain⟨x,h2,h⟩:=h;cases h;obtain⟨i1,i2⟩:=OM (fk:=fk) hbad h2 (λ b hb'=>hb b (by simp[hb'])) (Fj hc.2);have h5:len=List.length x.1:=(by simpa[be]using hb (be len (List.length x.1)) (by simp));refine⟨⟨mN,qS k mN,rfl,bG (.cells sz rows),by simp[fE,h1],hc.1,?_,by simpa using h5.symm⟩,hcs⟩;simp only[bG];rw[List.take_of_length_le (by simp;omega)];exact i1
      .cases h
     .cases h
    .cases h
   .cases h
 case whole j=>
  cases ds with
  |nil=>simp[OJ]at h
  |cons d ds=>
   refine⟨λ cs hcs=>?_,λt ht=>by simp[rq]at ht,λ_ _ h=>by cases h⟩;simp only[OJ]at h;split at h
   .rename_i k len;split at h
    .rename_i hc;obtain⟨rfl,hm⟩:=hc;rw[ai]at h;obtain⟨ec,h1,h⟩:=h;cases h;have h5:len=ec:=(by simpa[be]using hb (be len ec) (by simp));have hm:k∈rh:=(by simpa using hm);refine⟨⟨rfl,rfl,?_,hmu k hm⟩,hcs⟩;rw[h5];exact hns k ec hm h1
    .cases h
   .cases h
 case mu c=>
  simp only[OJ]at h;rw[ai]at h;obtain⟨o,h1,h⟩:=h;split at h
  .rename_i b l0;rw[ai]at h;obtain⟨l,h2,h⟩:=h;have⟨h3,h4⟩:=jw h2;split at h
   .rename_i len hl;cases h;have h5:(sub l 0 len).length=len:=(by simpa[be]using hb (be (sub l 0 len).length len) (by simp));refine⟨λ cs hcs=>hcs,λt ht=>?_,λec c' _ hl'=>?_⟩
    .simp only[rq,List.cons.injEq,ay,and_true]at ht;subst ht;refine⟨_,h1,by simp only[bG,tQ];exact h3,?_⟩;have e1:(bG (.da b l0)).rows.take (tQ c (sub l 0 len)).2.length=aL (tQ c (sub l 0 len)).2:=by
      simp only[bG,h4,tQ,length_map,h5];simp[aL,sub,map_take]
     rw[e1];exact Fp c _
    .rw[hl]at hl';injection hl' with hl';subst hl';simp only[wd,h5]
   .rename_i hl;cases h;refine⟨λ cs hcs=>hcs,λt ht=>?_,λec c' _ hl'=>by rw[hl]at hl';cases hl'⟩;simp only[rq,List.cons.injEq,ay,and_true]at ht;subst ht;refine⟨_,h1,by simp only[bG,tQ];exact h3,?_⟩;have e1:(bG (.da b l0)).rows.take (tQ c l).2.length=aL (tQ c l).2:=by
     simp only[bG,h4,tQ];rw[List.take_of_length_le (by simp[aL])]
    rw[e1];exact Fp c _
  .cases h
 case mr c=>
  simp only[OJ]at h;rw[ai]at h;obtain⟨o,h1,h⟩:=h;split at h
  .rename_i sz row;split at h
   .rename_i hc;have⟨x,h2,h⟩:=ai.1 h;cases h;refine⟨λ cs hcs=>hcs,λt ht=>?_,λ_ _ h=>by cases h⟩;simp only[rq,List.cons.injEq,ay,and_true]at ht;subst ht;refine⟨_,h1,by simp only[bG,tQ];exact hc.1,?_⟩;exact⟨Uh hbad h2 hb (Fj hc.2),trivial⟩
   .cases h
  .cases h
 case mv=>
  simp only[OJ,ay]at h;subst h;exact⟨λ cs hcs=>hcs,λt ht=>by simp[rq]at ht,λ_ _ h=>by cases h⟩
theorem Jg{q:RT X.ι}{x:RT.T X q}:(rq q x).length=(if q.out then 1 else 0)/\(wd q x).length=(if q.out then 1 else 0):=by cases q<;>exact⟨rfl,rfl⟩
theorem Jh{n j:Nat}{q:RT X.ι}{l:U (RT X.ι)}:j∈rN n (q::l)->(j=n/\∃c,q= .mu c)\/j∈rN (if q.out then n+1 else n) l:=by
 cases q<;>simp only[rN,RT.out,if_true,Bool.false_eq_true,if_false,aO]
 case mu c=>exact λh=>h.imp (λ h=>⟨h,c,rfl⟩) id
 all_goals exact .inr
theorem Z2{j:Nat}:∀{l:U (RT X.ι)}{n:Nat},j∈rN n l->n<=j
 |[],n,h=>by simp[rN]at h
 |q::l,n,h=>by
  rcases Jh h with ⟨rfl,_⟩ |h
  .exact aC _
  .have:=Z2 h;split at this<;>omega
theorem afJ:∀{l:U (RT X.ι)}{x:uF X l}{n j:Nat},j∈rN n l->∃p,(oO l x)[j -n]? =some (some p)
 |[],x,n,j,h=>by simp[rN]at h
 |[q],x,n,j,h=>by
  rcases Jh h with ⟨rfl,c,rfl⟩ |h
  .exact⟨_,by simp only[Nat.sub_self];rfl⟩
  .simp[rN]at h
 |q::q'::l,x,n,j,h=>by
  rcases Jh h with ⟨rfl,c,rfl⟩ |h
  .exact⟨_,by simp only[Nat.sub_self];rfl⟩
  .have⟨p,hp⟩:=afJ (l:=q'::l) (x:=x.2) h;have hge:=Z2 h;refine⟨p,?_⟩;show(rq q x.1++oO (q'::l) x.2)[j -n]? =_;have hl:=(Jg (q:=q) (x:=x.1)).1
   all_goals grind
theorem D5:∀{l:U (RT X.ι)}{x:uF X l}{n j:Nat}{p:fe},(oO l x)[j]? =some (some p)->n+j∈xC n l
 |[],x,n,j,p,h=>by simp[oO]at h
 |[q],x,n,j,p,h=>by
  have h:(rq q x)[j]? =some (some p):=h;cases q<;>simp only[rq,List.getElem?_nil,reduceCtorEq]at h
  case mu c=>cases j<;>simp at h<;>simp[xC]
  case mr c=>cases j<;>simp at h<;>simp[xC]
  case mv=>cases j<;>simp at h
 |q::q'::l,x,n,j,p,h=>by
  have h:(rq q x.1++oO (q'::l) x.2)[j]? =some (some p):=h;cases q
  case mu c=>
   cases j with
   |zero=>simp[xC]
   |succ j=>
    have:=D5 (l:=q'::l) (x:=x.2) (n:=n+1) (by simpa[rq]using h);simp only[xC,aO];right;rw[show n+(j+1)=n+1+j by omega];exact this
  case mr c=>
   cases j with
   |zero=>simp[xC]
   |succ j=>
    have:=D5 (l:=q'::l) (x:=x.2) (n:=n+1) (by simpa[rq]using h);simp only[xC,aO];right;rw[show n+(j+1)=n+1+j by omega];exact this
  case mv=>
   cases j with
   |zero=>simp[rq]at h
   |succ j=>
    have:=D5 (l:=q'::l) (x:=x.2) (n:=n+1) (by simpa[rq]using h);simp only[xC];rw[show n+(j+1)=n+1+j by omega];exact this
  all_goals
   simp only[xC];exact D5 (l:=q'::l) (x:=x.2) (by simpa[rq]using h)
theorem afK{rh:U Nat}{wl:U (Nat×Nat)}{n:Nat}{q:RT X.ι}{ds:U (DV X)}{p:(RT.T X q×List Bool)×List (DV X)}(h:OJ get bad rh fk wl n q ds=some p)(hb:∀b∈p.1.2,b=true):∀ec c,q= .mu c->lk wl n=some ec->wd q p.1.1=[ec]:=by
 rintro ec c rfl hl;simp only[OJ]at h;rw[ai]at h;obtain⟨o,h1,h⟩:=h;split at h
 .rename_i b l0;have⟨l,h2,h⟩:=ai.1 h;rw[hl]at h;cases h;have h5:(sub l 0 ec).length=ec:=by simpa[be]using hb (be (sub l 0 ec).length ec) (by simp)
  simp only[wd,h5]
 .cases h
theorem MP{rh:U Nat}{wl:U (Nat×Nat)}:∀{n:Nat}{l:U (RT X.ι)}{ds:U (DV X)}{x:uF X l×List Bool},OL get bad rh fk wl n l ds=some x->(∀ b∈x.2,b=true)->∀j ec,n+j∈rN n l->lk wl (n+j)=some ec->(yr l x.1).getD j 0=ec
 |n,[],ds,x,h,hb,j,ec,hm,_=>by simp[rN]at hm
 |n,[q],ds,x,h,hb,j,ec,hm,hl=>by
  simp only[OL]at h;have⟨p,h1,h⟩:=ai.1 h;split at h
  .cases h;rcases Jh hm with ⟨e,c,rfl⟩ |hm
   .have e:j=0:=(by omega);subst e;have:=(afK h1 hb) ec c rfl hl;show(wd _ p.1.1).getD 0 0=ec;rw[this];rfl
   .simp[rN]at hm
  .cases h
 |n,q::q'::l,ds,x,h,hb,j,ec,hm,hl=>by
  simp only[OL]at h;have⟨p,h1,h⟩:=ai.1 h;have⟨y,h2,h⟩:=ai.1 h;cases h;have hlen:=(Jg (q:=q) (x:=p.1.1)).2;rcases Jh hm with ⟨e,c,rfl⟩ |hm
  .have e:j=0:=(by omega);subst e;have:=(afK h1 (λ b hb'=>hb b (by simp[hb']))) ec c rfl hl;show(wd _ p.1.1++yr (q'::l) y.1).getD 0 0=ec;rw[this];rfl
  .have hge:=Z2 hm;show(wd _ p.1.1++yr (q'::l) y.1).getD j 0=ec;by_cases hq:q.out=true
   .rw[aT hq]at h2 hm hge hlen;have:=MP h2 (λ b hb'=>hb b (by simp[hb'])) (j -1) ec (by rw[show n+1+(j -1)=n+j by omega];exact hm) (by rw[show n+1+(j -1)=n+j by omega];exact hl);rw[List.getD_eq_getElem?_getD,lM (by omega),hlen,<- List.getD_eq_getElem?_getD];exact this
   .rw[aW hq]at h2 hm hge hlen;have:=MP h2 (λ b hb'=>hb b (by simp[hb'])) j ec hm hl;rw[List.getD_eq_getElem?_getD,lM (by omega),hlen,Nat.sub_zero,<- List.getD_eq_getElem?_getD];exact this
theorem acC{rh:U Nat}{wl:U (Nat×Nat)}{ns:U Nat}(hbad:∀j,j∉bad->fk≠some j/\¬kept os' j)(qS:∀k,fk=some k->¬kept os' k)(hns:∀j ec,j∈rh->lk wl j=some ec->ns.getD j 0=ec)(hmu:∀j∈rh,kept os' j):∀{n:Nat}{l:U (RT X.ι)}{ds:U (DV X)}{x:uF X l×List Bool},OL get bad rh fk wl n l ds=some x->(∀ b∈x.2,b=true)->
 m5 (fE get) fk os' (bM ds) (Cj ns l x.1)/\∀j t,(oO l x.1)[j]? =some (some t)->∃o,get (n+j)=some o/\(bG o).sz=t.1/\ed (fE get) fk os' ((bG o).rows.take t.2.length) t.2
 |n,[],ds,x,h,_=>by
  simp only[OL]at h;split at h
  .exact⟨trivial,λj t ht=>by simp[oO]at ht⟩
  .cases h
 |n,[q],ds,x,h,hb=>by
  simp only[OL]at h;rw[ai]at h;obtain⟨p,h1,h⟩:=h;split at h
  .rename_i hp;cases h;have⟨i1,i2,_⟩:=Yp (ns:=ns) hbad qS hns hmu h1 hb;rw[hp]at i1;have:=i1 [] trivial;rw[append_nil]at this;refine⟨this,λj t ht=>?_⟩;have ht:(rq q p.1.1)[j]? =some (some t):=ht;have hl:=(Jg (q:=q) (x:=p.1.1)).1;have hj:=(dh.1 ht).1;have hj0:j=0:=(by split at hl<;>omega);subst hj0;refine i2 t ?_
   match ho:rq q p.1.1,ht,hl with
   |[z],ht,_=>simpa using ht
   |[],ht,_=>simp at ht
   |_::_::_,_,hl=>simp only[bn]at hl;split at hl<;>omega
  .cases h
 |n,q::q'::l,ds,x,h,hb=>by
  simp only[OL]at h;have⟨p,h1,h⟩:=ai.1 h;have⟨y,h2,h⟩:=ai.1 h;cases h;obtain⟨i1,i2,_⟩:=Yp (ns:=ns) hbad qS hns hmu h1 (λ b hb'=>hb b (by simp[hb']));obtain⟨k1,k2⟩:=acC (ns:=ns) hbad qS hns hmu h2 (λ b hb'=>hb b (by simp[hb']));refine⟨i1 _ k1,λj t ht=>?_⟩;have ht:(rq q p.1.1++oO (q'::l) y.1)[j]? =some (some t):=ht;have hl:=(Jg (q:=q) (x:=p.1.1)).1;by_cases hq:q.out=true
  .rw[aT hq]at k2 hl;cases j with
   |zero=>
    refine i2 t ?_
    match ho:rq q p.1.1,ht,hl with
    |[z],ht,_=>simpa using ht
    |[],_,hl=>simp at hl
    |_::_::_,_,hl=>simp at hl
   |succ j=>
    rw[lM (by omega),hl,Nat.add_sub_cancel]at ht;rw[show n+(j+1)=n+1+j by omega];exact k2 j t ht
  .rw[aW hq]at k2 hl;rw[lM (by omega),hl,Nat.sub_zero]at ht;exact k2 j t ht
end
theorem m5.R{get:Nat->J aS}{fk:J Nat}{os':U (Option fe)}:∀{xs:U AV}{cs:U RC},m5 get fk os' xs cs->GG get fk os' xs (match cs with |[c]=> .one c |cs=> .eC cs)
 |[],[],_=>rfl
 |[_],[_],h=>h.1
 |_::_::_,_::_::_,h=>h
 |[],_::_,h=>h.elim
 |_::_,[],h=>h.elim
 |[_],_::_::_,h=>h.2.elim
 |_::_::_,[_],h=>h.2.elim
theorem amX{s:c9 X}{rs:U ResultVar}{l:U (RT X.ι)}{r:uF X l}(h:(Yo T s rs λds=>(P2 s l ds).bind λx=>XE x.2 (some x.1))=some r):∃xs fk,nU T s.st rs=some xs/\GG s.st.obj fk (oO l r) xs (uJ l r)/\MY s.st.obj fk (oO l r):=by
 have⟨ds,h1,h⟩:=DZ T h;rw[ai]at h;obtain⟨x,h2,h⟩:=h;have⟨h3,h⟩:=qF h;cases h;unfold P2 at h2;split at h2
 .rename_i hnb;have hkn:∀j,kept (oO l x.1) j->j∈xC 0 l:=λj ⟨p,hp⟩=>by
   have:=D5 (n:=0) hp;simpa using this
  have hbad:∀j,j∉xC 0 l++(Ro l ds).toList->Ro l ds≠some j/\¬kept (oO l x.1) j:=by
   intro j hj;simp only[bg,Option.mem_toList,not_or]at hj;exact⟨hj.2,λh=>hj.1 (hkn j h)⟩
  have qS:∀k,Ro l ds=some k->¬kept (oO l x.1) k:=λk hk hkk=>Fj hnb k (by simp[hk]) (hkn k hkk);have hmu:∀j∈rN 0 l,kept (oO l x.1) j:=λj hj=>by
   have⟨p,hp⟩:=afJ (x:=x.1) hj;exact⟨p,by simpa using hp⟩
  obtain⟨i1,i2⟩:=acC (ns:=yr l x.1) hbad qS (λ j ec hj hl=>MP h2 h3 j ec (by simpa using hj) (by simpa using hl)) hmu h2 h3;have ii:s.st.obj=fE (fL s.obj):=rfl;refine⟨bM ds,Ro l ds,Rn T h1,?_,λj p hp=>?_⟩
  .rw[ii];exact i1.R
  .have⟨o,g1,g2,g3⟩:=i2 j p hp;rw[Nat.zero_add]at g1;exact⟨λ e=>qS j e ⟨p,hp⟩,bG o,by rw[ii];simp[fE,g1],g2,by rw[ii];exact g3⟩
 .cases h2
variable {Γ:FuncId->Option (bz X)} {an:TypeId->Option (CT X.ι)} {P:Program}
theorem aq4(hT : eZ P T)(hm : P.follows .mixedOrders = true)(hΓ : sA P Γ){f : FuncId}{fn : Func}{c : Code}(hfn : P.funcs[f]? = some fn)(hb : fn.body = some c)(hname : (fn.name == "runtime.NumGoroutine") = false)(sa : U (AT X.ι))(sr : U (RT X.ι))(hN : sa.length <= fn.ntmps /\ ru sa <= 1000 /\ (sr.filter RT.out).length = ru sa)
 (h:Hn X.ι) (n:Nat) {a:je X sa} {r:uF X sr} (hr:run Γ T an fn.ntmps n c (uF X sr) h (xp sa a) (aq3 T fn.results.toList sr)=some r):p6 P f (zy sa a) (rf sa a) (oO sr r) (uJ sr r):=by
 have hl:(oO sr r).length=(rf sa a).length:=by
  rw[lY,<- hN.2.2];have:∀(sr:U (RT X.ι))(r:uF X sr),(oO sr r).length=(sr.filter RT.out).length:=by
   intro sr
   induction sr with
   |nil=>intro r;rfl
   |cons q l ih=>
    intro r;have hq:∀x:RT.T X q,(rq q x).length=(if q.out then 1 else 0):=λx=>Jg.1;cases l with
    |nil=>
     show(rq q r).length=_;rw[hq];by_cases e:q.out=true<;>simp[e]
    |cons q' l=>
     show(rq q r.1++oO (q'::l) r.2).length=_;rw[dM,hq,ih r.2];by_cases e:q.out=true<;>simp[List.filter_cons,e];omega
  exact this sr r
 refine akI hT hfn hb hname (by rw[lX];exact hN.1) (λ k hk=>?_) (by rw[lY];exact hN.2.1) hl ?_
 .rw[zy,<- uj,iD]at hk;have:=qi 0 sa a k hk;have:=hN.2.1;omega
 .rw[<- aql];refine(lu hT hm hΓ c _ h _ _ r (aoP sa a hN.2.1) hr).mono ?_;rintro e σ ⟨s',_,_,rfl,g4⟩;cases e<;>first |exact amX g4 |cases g4
theorem ul{f : FuncId}{fn : Func}{c : Code}(hfn : P.funcs[f]? = some fn)(hb : fn.body = some c)(hname : (fn.name == "runtime.NumGoroutine") = false): eU P f := ⟨fn, hfn, by rw [hb]; rfl, hname⟩
abbrev wA(P:Program)(f:FuncId)(s:bz X):Prop:=eU P f/\(∀ a r,s.fn a=some r->p6 P f (zy s.args a) (rf s.args a) (oO s.res r) (uJ s.res r))/\∀g,s.gen=some g->GE P f g
theorem An{P:Program}{f:FuncId}{s:bz X}(h:eU P f)(h1:∀a r,s.fn a=some r->p6 P f (zy s.args a) (rf s.args a) (oO s.res r) (uJ s.res r))(hg:s.gen=none):wA P f s:=by grind
theorem Nd{P:Program}{f:FuncId}{g:cH X}(h:eU P f)(hg:GE P f g):wA P f ⟨[],[.d .bool],λ_=>none,some g⟩:=by grind
def nt(s t:bz X):bz X:=⟨s.args,s.res,s.fn,t.gen⟩
theorem arx{P:Program}{f:FuncId}{s t:bz X}(h:wA P f s)(h':wA P f t):wA P f (nt s t):=⟨h.1,h.2.1,h'.2.2⟩
def xz(l:U (FuncId×bz X)):FuncId->J (bz X):=λf=>lk l f
theorem aA:sA P (xz ([]:U (FuncId×bz X))):=λ_ _ h=>by cases h
theorem au{f:FuncId}{s:bz X}{l:U (FuncId×bz X)}(h:wA P f s)(hl:sA P (xz l)):sA P (xz ((f,s)::l)):=by
 intro g q hg;simp only[xz,lk]at hg;split at hg
 .rename_i e;cases hg;subst e;exact h
 .exact hl g q hg
end
section
variable {X:SX} {T:dC}
theorem MQ(ol:Nat->Nat):∀(ps:U (Pt X.ι))(L:U (DC X)),(k8 ol ps L).1.length=ps.length
 |[],_=>rfl
 |p::ps,L=>by simp only[k8,bn,MQ ol ps]
def cH.A5(g:cH X):Bool:=
 decide (g.io.map (·.1)=List.range g.io.length)&&decide (g.io.length<=1000)&&((Ck g.pn).all λk=>Nat.blt k 1000)&&g.io.all λq=>q.2.refs.all λk=>Nat.blt k 1000
def FG(g:cH X)(v:VT (X:=X) (cI g.pn++cC g.io)):c9 X:=⟨(List.range g.pn.length).zip (g.args v),LN g.pn g.io (xq _ v),1000,[]⟩
theorem wu{ol:Nat->Nat}:∀(O:U (Nat×OP X.ι))(L:U (DC X)),cB ol O L=(dF (cB ol O L)).map λp=>(p.1,some p.2)
 |[],L=>rfl
 |(k,.l c)::O,L=>by
  match L with
  |[]=>rfl
  |⟨.sl c',x⟩::L=>simp only[cB,dF,aF];rw[<- wu O L]
  |⟨.int _,x⟩::L=>rfl
  |⟨.bool,x⟩::L=>rfl
  |⟨.str,x⟩::L=>rfl
  |⟨.any,x⟩::L=>rfl
  |⟨.st _,x⟩::L=>rfl
  |⟨.mp _ _,x⟩::L=>rfl
 |(k,.m kc vc)::O,L=>by
  match L with
  |[]=>rfl
  |⟨.mp _ _,x⟩::L=>simp only[cB,dF,aF];rw[<- wu O L]
  |⟨.sl _,x⟩::L=>rfl
  |⟨.int _,x⟩::L=>rfl
  |⟨.bool,x⟩::L=>rfl
  |⟨.str,x⟩::L=>rfl
  |⟨.any,x⟩::L=>rfl
  |⟨.st _,x⟩::L=>rfl
 |(k,.c sz rows)::O,L=>by simp only[cB,dF,aF];rw[<- wu O _]
theorem Fq{ol:Nat->Nat}:∀(O:U (Nat×OP X.ι))(L:U (DC X)),L.map (·.c)=cC O->(dF (cB ol O L)).map (·.1)=O.map (·.1)
 |[],L,_=>rfl
 |(k,.l c)::O,L,h=>by
  match L,h with
  |⟨.sl c',x⟩::L,h=>
   simp only[aF,cC,List.cons.injEq]at h;simp only[cB,dF,aF,Fq O L h.2]
  |[],h=>simp[cC]at h
  |⟨.int _,x⟩::L,h=>simp[cC]at h
  |⟨.bool,x⟩::L,h=>simp[cC]at h
  |⟨.str,x⟩::L,h=>simp[cC]at h
  |⟨.any,x⟩::L,h=>simp[cC]at h
  |⟨.st _,x⟩::L,h=>simp[cC]at h
  |⟨.mp _ _,x⟩::L,h=>simp[cC]at h
 |(k,.m kc vc)::O,L,h=>by
  match L,h with
  |⟨.mp _ _,x⟩::L,h=>
   simp only[aF,cC,List.cons.injEq]at h;simp only[cB,dF,aF,Fq O L h.2]
  |[],h=>simp[cC]at h
  |⟨.sl _,x⟩::L,h=>simp[cC]at h
  |⟨.int _,x⟩::L,h=>simp[cC]at h
  |⟨.bool,x⟩::L,h=>simp[cC]at h
  |⟨.str,x⟩::L,h=>simp[cC]at h
  |⟨.any,x⟩::L,h=>simp[cC]at h
  |⟨.st _,x⟩::L,h=>simp[cC]at h
 |(k,.c sz rows)::O,L,h=>by
  simp only[cC]at h;simp only[cB,dF,aF,Fq O _ (ML (ol:=ol) rows L _ h).1]
theorem alc(g:cH X)(v:VT (X:=X) (cI g.pn++cC g.io))(h:g.io.map (·.1)=List.range g.io.length):(g.cD v).map (·.1)=List.range (g.cD v).length:=by
 have e:(g.cD v).map (·.1)=g.io.map (·.1):=Fq g.io _ (by rw[map_drop,ah9,List.drop_left]);have l:=congrArg List.length e;rw[length_map,length_map]at l;rw[e,h,l]
theorem Yq(k:Nat):∀l:U (Nat×bp X),fL (l.map λp=>(p.1,some p.2)) k=tz l k
 |[]=>rfl
 |p::l=>by
  simp only[aF,fL,lk,tz];split
  .rfl
  .exact Yq k l
theorem amY(t:Nat):∀(ks:U Nat)(ds:U (DV X)),den (ey (ks.zip ds) t)=(lk (ks.zip (bM ds)) t).getD .undef:=by
 intro ks
 induction ks with
 |nil=>intro ds;rfl
 |cons k ks ih=>
  intro ds;cases ds with
  |nil=>rfl
  |cons d ds=>
   simp only[List.zip_cons_cons,ey,lk,bM];by_cases h:k=t
   .simp[h]
   .simp only[aW h];exact ih ds
theorem acD(t:Nat):∀(ks:U Nat)(ds:U (DV X)),∀j∈bm (ey (ks.zip ds) t),j∈aR ds:=by
 intro ks
 induction ks with
 |nil=>intro ds j hj;simp[ey,lk,bm]at hj
 |cons k ks ih=>
  intro ds j hj;cases ds with
  |nil=>simp[ey,lk,bm]at hj
  |cons d ds=>
   simp only[List.zip_cons_cons,ey,lk]at hj;simp only[aR,bg];by_cases e:k=t
   .simp only[aT e,Option.getD_some]at hj;exact .inl hj
   .simp only[aW e]at hj;exact .inr (ih ds j hj)
def Fs(O:U (Nat×OP X.ι)):U (Nat×Pt X.ι)->U (Nat×CT X.ι)
 |[]=>[]
 |(t,.o k)::r=>match lk O k with
  |some (.l c)=>(t,c)::Fs O r
  |_=>Fs O r
 |(t,.oz k)::r=>match lk O k with
  |some (.l c)=>(t+1099511627776,c)::Fs O r
  |_=>Fs O r
 |_::r=>Fs O r
def Yr(O:U (Nat×OP X.ι)):U (Nat×OP X.ι)->U (Nat×CT X.ι)
 |(q,.c _ [row])::r=>(Fs O (ld (1000000+q*4096) row)).filter (λ p=>Nat.ble p.1 1000000000)++Yr O r
 |_::r=>Yr O r
 |[]=>[]
def Bt(g:cH X):Sh X.ι:=⟨ld 0 g.fj,g.il,[],[],1000000,Fs g.il (ld 0 g.fj)++Yr g.il g.il⟩
def apT(T:dC)(rs:U ResultVar)(g:cH X):Exit->c9 X->J (VT (X:=X) (Bt g).vars)
 | .normal,s=>Yo T s rs λds=>bif decide (ds.length=g.fj.length)&&(aR ds).all (λ k=>Nat.blt k s.nx)then
  rz (Bt g) (List.range ds.length) ⟨(List.range ds.length).zip ds,s.obj,s.nx,s.log⟩ ⟨(List.range ds.length).zip ds,s.obj,s.nx,s.log⟩ some else none
 | .ret,s=>Yo T s rs λds=>bif decide (ds.length=g.fj.length)&&(aR ds).all (λ k=>Nat.blt k s.nx)then
  rz (Bt g) (List.range ds.length) ⟨(List.range ds.length).zip ds,s.obj,s.nx,s.log⟩ ⟨(List.range ds.length).zip ds,s.obj,s.nx,s.log⟩ some else none
 |_,_=>none
theorem Yt{ol:Nat->Nat}(t:Nat):∀(n:Nat)(ps:U (Pt X.ι))(L:U (DC X)),ey (MK ol (ld n ps) L) (n+t)=((k8 ol ps L).1[t]?).getD .undef
 |n,[],L=>by simp[ld,MK,ey,lk,k8]
 |n,p::ps,L=>by
  simp only[ld,MK,ey,lk,k8];cases t with
  |zero=>simp
  |succ t=>
   rw[aW (by omega)];have:=Yt (ol:=ol) t (n+1) ps (eP ol p L).2;rw[show n+1+t=n+(t+1)by omega]at this;simpa[ey]using this
theorem ald {P:Program} {g:cH X} {s:c9 X} {rs:U ResultVar} {r:VT (X:=X) (Bt g).vars} (hl:Low s) (h:(Yo T s rs λds=>bif decide (ds.length=g.fj.length)&&(aR ds).all (λ k=>Nat.blt k s.nx)then
 rz (Bt g) (List.range ds.length) ⟨(List.range ds.length).zip ds,s.obj,s.nx,s.log⟩ ⟨(List.range ds.length).zip ds,s.obj,s.nx,s.log⟩ some else none)=some r):
 ∃xs,nU T s.st rs=some xs/\NX P s.st.obj xs (rV (g.outs r)) (den (g.res r)):=by
 have⟨ds,h1,h⟩:=DZ T h;have⟨h2,h⟩:=dL h;simp only[aG,aJ]at h2;obtain⟨h2,h3⟩:=h2;have hl':Low (⟨(List.range ds.length).zip ds,s.obj,s.nx,s.log⟩:c9 X):=⟨hl.le,hl.ge,λt k hk=>by
  have:=all_eq_true.1 h3 k (acD t _ _ k hk);exact Nat.blt_eq.mp this,hl.obj⟩
 obtain⟨v,h4,_,_,hrel⟩:=lW hl' hl' (Ext.refl _ _) h;injection h4 with h4;subst h4;refine⟨bM ds,Rn T h1,λw0 O0 β I w vs hM hv=>?_⟩;have hvl:=bj.length _ _ hv;simp only[Array.length_toList,lT]at hvl;have hR:Rel P w0 O0 vs.size β I (⟨(List.range ds.length).zip ds,s.obj,s.nx,s.log⟩:c9 X).st { tmps:=vs,defers:=[] } w:=by
  refine⟨rfl,rfl,λt=>?_,hM⟩;show VR P β w I (den (ey ((List.range ds.length).zip ds) t)) (vs.getD t undef);rw[amY,show List.range ds.length=List.range (bM ds).length by rw[lT],Ci];cases ht:(bM ds)[t]? with
  |none=>simp[VR]
  |some x=>
   obtain⟨u,g1,g2⟩:=bj.get _ _ t _ hv ht;rw[Array.getElem?_toList]at g1;simp only[Option.getD_some,Array.getD_eq_getD_getElem?,g1];exact g2
 obtain⟨β',hR'⟩:=hrel P w0 O0 _ β I _ w hR;have hn:(gA (ld 0 g.fj)).length=(cI g.fj).length:=by rw[Rb]
 refine⟨β',I,?_,λ_ h=>h,?_⟩
 .have:=hR'.mem;have e:(encS (Bt g) ⟨(List.range ds.length).zip ds,s.obj,s.nx,s.log⟩ v).st.obj=nq (rV (g.outs v)):=by
   funext k;simp only[c9.st,encS,Bt,map_nil,append_nil,Rj,cH.outs,LN];rw[wu,Yq,<- hn];rfl
  rw[e]at this;exact this
 .obtain⟨pv,hpv⟩:∃pv,pv=XR g.fj g.il (xq (Bt g).vars v):=⟨_,rfl⟩;have hres:g.res v=zx pv:=by rw[hpv];rfl
  have sf:∀t,VR P β' w I (den ((pv[t]?).getD .undef)) (vs.getD t undef):=by
   intro t;have:=hR'.env t;simp only[c9.st,er,encS,Bt,map_nil,append_nil]at this;have e:=Yt (ol:=E5 g.il ((xq (Bt g).vars v).drop (cI g.fj).length)) t 0 g.fj ((xq (Bt g).vars v).take (cI g.fj).length);rw[Nat.zero_add]at e;rw[hpv];simp only[XR];rw[<- e,<- hn];exact this
  have hpl:pv.length=g.fj.length:=by rw[hpv];exact MQ _ _ _
  have hsz:vs.size=pv.length:=by rw[hpl,<- h2,hvl]
  rw[hres];have hall:bj P β' w I (bM pv) vs.toList:=by
   have gen:∀(pv:U (DV X)) (us:U Value),us.length=pv.length->(∀ t,t<pv.length->VR P β' w I (den ((pv[t]?).getD .undef)) (us.getD t undef))->bj P β' w I (bM pv) us:=by
    intro pv
    induction pv with
    |nil=>intro us hl _;cases us<;>simp_all [bM,bj]
    |cons d pv ih=>
     intro us hl hh;cases us with
     |nil=>simp at hl
     |cons u us=>
      simp only[bM,bj];refine⟨by simpa using hh 0 (by simp),ih us (by simpa using hl) λt ht=>by simpa using hh (t+1) (by simpa using ht)⟩
   refine gen pv vs.toList (by simpa using hsz) λt ht=>?_;have e:vs.toList.getD t undef=vs.getD t undef:=(by simp[List.getD_eq_getElem?_getD,Array.getD_eq_getD_getElem?]);rw[e];exact sf t
  match pv,hsz,hall with
  |[d],hsz,hall=>
   obtain⟨u,rfl⟩:=Array.size_eq_one_iff.1 (show vs.size=1 by simpa using hsz);simp only[bM,bj]at hall;simpa[zx]using hall.1
  |[],hsz,hall=>
   have h1:¬vs.size=1:=(by rw[hsz];simp);rw[dif_neg h1];simp only[zx,den,VR];exact⟨vs,rfl,hall⟩
  |d::e::pv,hsz,hall=>
   have h1:¬vs.size=1:=(by rw[hsz];simp);rw[dif_neg h1];simp only[zx,den,VR];exact⟨vs,rfl,hall⟩
variable {Γ:FuncId->Option (bz X)} {an:TypeId->Option (CT X.ι)} {P:Program}
theorem aqm(hT : eZ P T)(hm : P.follows .mixedOrders = true)(hΓ : sA P Γ){f : FuncId}{fn : Func}{c : Code}(hfn : P.funcs[f]? = some fn)(hb : fn.body = some c)(hname : (fn.name == "runtime.NumGoroutine") = false)(g : cH X)(hN : g.pn.length <= fn.ntmps)(hin : g.A5 = true)
 (h:Hn X.ι) (n:Nat) (hr:∀v (r:VT (X:=X) (Bt g).vars),g.fn v=some r->run Γ T an fn.ntmps n c (VT (X:=X) (Bt g).vars) h (FG g v) (apT T fn.results.toList g)=some r):GE P f g:=by
 intro v r hv;have hrun:=hr v r hv;simp only[cH.A5,aG,aJ]at hin;obtain⟨⟨⟨i1,i2⟩,i3⟩,i4⟩:=hin;obtain⟨s1,s2,_⟩:=zD (ol:=E5 g.io ((xq (cI g.pn++cC g.io) v).drop (cI g.pn).length)) g.io ((xq _ v).drop (cI g.pn).length);have hargs:∀k∈aR (g.args v),k<1000:=λk hk=>Nat.blt_eq.mp (all_eq_true.1 i3 k (zC g.pn _ k hk));have tx:∀p∈g.cD v,p.1<1000/\∀j∈dE p.2,j<1000:=by
  intro p hp;have⟨op,g1,g2⟩:=s2 p hp;have hk:p.1∈g.io.map (·.1):=mem_map.2 ⟨_,g1,rfl⟩;rw[i1]at hk;have:=List.mem_range.1 hk;exact⟨by omega,λj hj=>Nat.blt_eq.mp (all_eq_true.1 (all_eq_true.1 i4 _ g1) j (g2 j hj))⟩
 have hal:(g.args v).length=g.pn.length:=MQ _ _ _;have hkeys:(g.cD v).map (·.1)=List.range (g.cD v).length:=alc g v i1;have ii:∀k,fL (FG g v).obj k=tz (g.cD v) k:=by
  intro k;show fL (cB _ g.io _) k=tz (dF (cB _ g.io _)) k;rw[wu,Yq,<- wu]
 have Tb:∀(l:U (Nat×bp X))(n:Nat),l.map (·.1)=(List.range l.length).map (n+ ·)->∀k,tz l (n+k)=(l[k]?).map (·.2):=by
  intro l
  induction l with
  |nil=>intro n _ k;rfl
  |cons p l ih=>
   intro n hn k;rw[bn,List.range_succ_eq_map,aF,aF,map_map]at hn;injection hn with e1 e2;simp only[tz];cases k with
   |zero=>rw[aT (by omega)];rfl
   |succ k=>
    rw[aW (by omega),show n+(k+1)=(n+1)+k by omega,ih (n+1) (by rw[e2];refine map_congr_left λa _=>?_;simp only[Function.comp_apply];omega) k];rfl
 have hlow:Low (FG g v):=by
  refine⟨by show 1000<=1000000;decide,aC _,λt k hk=>hargs k (acD t _ _ k hk),λk o ho=>?_⟩;rw[ii]at ho;have hmem:∀(l:U (Nat×bp X)),tz l k=some o->(k,o)∈l:=by
   intro l
   induction l with
   |nil=>intro h;simp[tz]at h
   |cons p l ih=>
    intro h;simp only[tz]at h;split at h
    .rename_i e;cases h;subst e;exact List.mem_cons_self
    .exact fF _ (ih h)
  exact tx _ (hmem _ ho)
 refine akJ hT hfn hb hname (by rw[lT,hal];exact hN) (λ k hk=>hargs k (by rwa [iD]at hk)) (by rw[length_map,<- length_map (f:=Prod.fst),hkeys,List.length_range];have:=s1.length_le;rw[length_map,length_map]at this;exact Nat.le_trans this i2) ?_ ?_
 .intro o ho r' hr' x hx j hj;obtain⟨p,hp,rfl⟩:=mem_map.1 ho;exact(tx p hp).2 j (Yf hr' hx j hj)
 .have e:rj.st ⟨(List.range (bM (g.args v)).length).zip (bM (g.args v)),(List.range ((g.cD v).map λp=>bG p.2).length).zip ((g.cD v).map λp=>bG p.2)⟩=(FG g v).st:=by
   simp only[c9.st,rj.st,St.mk.injEq,and_true];refine⟨?_,?_⟩
   .funext t;simp only[FG];rw[amY,lT,hal]
   .funext k;rw[Ci,ii,List.getElem?_map];have:=Tb (g.cD v) 0 (by rw[hkeys];simp) k;rw[Nat.zero_add]at this;rw[this,Option.map_map];rfl
  rw[e];refine(lu hT hm hΓ c _ h _ _ r hlow hrun).mono ?_;rintro e σ ⟨s',hl',_,rfl,g4⟩;cases e<;>first |exact ald hl' g4 |cases g4
end
def encR{α:Type}(enc:α->Value)(l:U α):U (List Tree):=l.map λx=>[.sc (enc x)]
def AF{α:Type}(enc:α->Value)(d:α)(n₀:Nat)(W:World)(sv:Value)(zs:U α):Prop:=
 (∃ a cap,sv= .slice a 0 cap/\zs=[])\/∃b aa cap,sv= .slice (some ⟨b,aa,none⟩) zs.length cap/\b<n₀/\∀j,j<zs.length->W.cell? ⟨b,aa+j,none⟩=some (enc (zs[j]?.getD d))
theorem acE{α:Type}{enc:α->Value}{d:α}{w:World}{I:Nat->Prop}:∀(l:U α)(b aa sz:Nat),ci w I (encR enc l) b aa sz->∀j,j<l.length->w.cell? ⟨b,aa+j,none⟩=some (enc (l[j]?.getD d))
 |[],_,_,_,_,j,h=>by simp at h
 |x::l,b,aa,sz,h,j,hj=>by
  simp only[encR,aF,ci,df,TR]at h;obtain⟨h1,⟨⟨c,h2,rfl,_⟩,_⟩,h3⟩:=h;obtain rfl:sz=1:=by simpa using h1.symm
  cases j with
  |zero=>simpa using h2
  |succ j=>
   have:=acE (d:=d) l b (aa+1) 1 h3 j (by simpa using hj);simpa[Nat.add_assoc,Nat.add_comm 1 j]using this
section
variable {P:Program} {f F:FuncId} {E:TypeId} {α:Type} {enc:α->Value} {d:α}
theorem aoR(h1c:∀x,oneCell (enc x))(hcall:eU P f)
 (h:∀(Bn On:Nat)(sv:Value)(xs:U α),xs.length<=1000000->∀w:World,w.cell? ⟨Bn,On,none⟩=some sv->Bn<w.heap.size->AF enc d w.heap.size w sv xs->
  Calls P f #[.slice none 0 0,.func (.func F) #[] #[.pointer (some ⟨Bn,On,none⟩)]] w λe W'=>∃v,e= .returned v/\W'.ownsRow w.heap.size E 1 v xs.length (xs.map enc)/\Below w.heap.size w W')
 (l:U α) (hl:l.length<=1000000):
 yy P f [.cM,.fn F [] [.ptr 0 0 0]] [⟨1,[[.t (.sl (encR enc l))]]⟩] [(0,⟨1,[[.t (.sl (encR enc l))]]⟩),(1000,⟨1,aL (encR enc l)⟩)] (.own 1000 0 l.length):=by
 refine⟨hcall,λw β I vs hβ hM hvs=>?_⟩;obtain⟨vs⟩:=vs
 match vs,hvs with
 |[a,b],hvs=>
  simp only[bj,VR]at hvs;obtain⟨rfl,⟨⟨fs⟩,⟨cs⟩,rfl,hfs,hcs⟩,_⟩:=hvs
  match fs,hfs,cs,hcs with
  |[],_,[p],hcs=>
   simp only[bj,VR]at hcs;obtain⟨⟨b,sz,n,hb,rfl⟩,_⟩:=hcs;obtain⟨B,hB,hO⟩:=hM.cD 0 _ rfl;rw[hb]at hB;cases hB;simp only[OR,bo,cQ]at hO;obtain⟨rfl,c,e,hheap,hsz,⟨_,⟨⟨sv,hsv,hT,_⟩,_⟩,_⟩⟩:=hO;simp only[VR]at hT;have hcell:w.cell? ⟨b,n.s+0*1+0,none⟩=some sv:=(by simp[World.cell?,hheap,hsv]);have hblt:b<w.heap.size:=(Array.getElem?_eq_some_iff.1 hheap).1;have hI:AF enc d w.heap.size w sv l:=by
    simp only[TR]at hT;rcases hT with ⟨h1,a,cap,rfl,_⟩ |⟨b2,aa,cap,sz2,rfl,h2,h3,h4⟩
    .exact .inl ⟨a,cap,rfl,by simpa[encR]using h1⟩
    .exact .inr ⟨b2,aa,cap,by simp[encR],hM.lt b2 h3,acE (d:=d) l b2 aa sz2 h4⟩
   refine(h b _ sv l hl w hcell hblt hI).mono ?_;rintro e w' ⟨v,rfl,hown,hbel⟩;obtain⟨hs,hM'⟩:=hM.below hbel (I':=I) (λ _ h=>h) (λ b hb=>Nat.lt_of_lt_of_le (hM.lt b hb) hbel.size) (λ b k o B h1 h2 h3 h4=>(hM.ownB k o B b h2 h3 h4).1 h1) hM.up;have hf:WM P (λ b=>w.heap.size<=b) 1 (encR enc l) w' I v:=by
    rcases hown.2 with ⟨rfl,h0⟩ |⟨g,cap,cur,rfl,hg,hgb,hle,_,hcs,htk⟩
    .exact .inl ⟨by simpa[encR]using h0,rfl⟩
    .refine .inr ⟨g,cur,E,cap,0,0,by simp[encR],hg,λhi=>absurd (hM.lt g hi) (by omega),hgb,by simpa[encR]using hle,by omega,?_,λ_=>rfl⟩;rw[nI];intro i r hr;simp only[aL,encR,map_map,List.getElem?_map,eH]at hr;obtain⟨x,hx,rfl⟩:=hr;refine⟨rfl,?_⟩;have hi:i<l.length:=(dh.1 hx).1;have:=congrArg (λ q=>q[i]?) htk;simp only[List.getElem?_take,List.getElem?_map,hx,Option.map_some]at this;rw[aT (by omega)]at this;simp only[Function.comp,aF,map_nil,cQ,VR,TR];exact⟨⟨_,by simpa using this,⟨rfl,h1c x⟩,h1c x⟩,trivial⟩
   obtain⟨β',hS,hM2,hV⟩:=hM'.fresh (i:=1000) (hβ 1000 (by simp)) (F:=λb=>w.heap.size<=b) (λ k o b h1 h2 h3=>absurd (hM.ik k o b h1 h2).2.1 (by omega)) (λ b h=> .inr h) hf;refine⟨v,β',I,rfl,?_,λ_ h=>h,by simpa[encR]using hV⟩;have e:nq [(0,(⟨1,[[.t (.sl (encR enc l))]]⟩:aS)),(1000,⟨1,aL (encR enc l)⟩)]=bU (sR [⟨1,[[.t (.sl (encR enc l))]]⟩]) [(1000,some ⟨1,aL (encR enc l)⟩)]:=by
    funext k;simp only[nq,bU,sR];by_cases h1:k=1000
    .subst h1;simp
    .rw[aW h1];cases k with
     |zero=>rfl
     |succ k=>simp;intro h;omega
   rw[e];exact hM2
end
def FF{α:Type}(a0:U α):J (List α×List α):=bif Nat.ble a0.length 1000000 then some (a0,a0)else none
section
variable {X:SX}
def aq5(c:CT X.ι)(F:FuncId):cH X:=⟨[.nil,.f F [] [.p 0]],[(0,.c 1 [[.v (.sl c)]])],[.o 1000],[(0,.c 1 [[.v (.sl c)]]),(1000,.l c)],λv=>FF v⟩
theorem amZ{P:Program}{f F:FuncId}{E:TypeId}{c:CT X.ι}{enc:CT.T X.toSE c->Value}{d:CT.T X.toSE c}(hc:∀x,CT.row X.toSE c x=[.sc (enc x)])(h1c:∀x,oneCell (enc x))(hcall:eU P f)
 (h:∀(Bn On:Nat)(sv:Value)(xs:U (CT.T X.toSE c)),xs.length<=1000000->∀w:World,w.cell? ⟨Bn,On,none⟩=some sv->Bn<w.heap.size->AF enc d w.heap.size w sv xs->
  Calls P f #[.slice none 0 0,.func (.func F) #[] #[.pointer (some ⟨Bn,On,none⟩)]] w λe W'=>∃v,e= .returned v/\W'.ownsRow w.heap.size E 1 v xs.length (xs.map enc)/\Below w.heap.size w W'):
 GE P f (aq5 c F:cH X):=by
 intro v r hr;have hr':FF v=some r:=hr;unfold FF at hr';cases hb:Nat.ble (List.length v) 1000000 with
 |false=>rw[hb]at hr';cases hr'
 |true=>
  rw[hb]at hr';injection hr' with hr';subst hr';have h2:=aoR h1c hcall h v (Nat.le_of_ble_eq_true hb);have e:encR enc v=List.map (CT.row X.toSE c) v:=map_congr_left λx _=>(hc x).symm;have hz:CT.sz X c=1:=by have:=congrArg List.length (hc d);rw[xS]at this;exact this
  rw[e]at h2;have e2:bG (.da c v:bp X)=⟨1,aL (List.map (CT.row X.toSE c) v)⟩:=by show(⟨CT.sz X c,aL (List.map (CT.row X.toSE c) v)⟩:aS)=_;rw[hz]
  show yy P f _ _ (rV [(0,.cells 1 [[.c (.sl c) v]]),(1000,.da c v)]) _;simp only[rV,aF,map_nil,e2];exact h2
end
section
variable {X:SX}
def GH{α β:Type}(f:α->J β):U α->J (List β)
 |[]=>some []
 |x::xs=>(f x).bind λy=>(GH f xs).bind λys=>some (y::ys)
def mL(dq:(i j:X.ι)->Decidable (i=j))(i:X.ι):CT X.ι->J CS
 | .int k=>some (.int k)
 | .bool=>some .bool
 | .str=>some .str
 | .sl (.st j)=>match dq j i with
  | .isTrue _=>some .back
  | .isFalse _=>none
 |_=>none
def apU(dq:(i j:X.ι)->Decidable (i=j))(i:X.ι):Bool:=(X.cX i).any λc=>match c with
 | .sl (.st j)=>match dq j i with
  | .isTrue _=>true
  | .isFalse _=>false
 |_=>false
def aq6(dq:(i j:X.ι)->Decidable (i=j)):CT X.ι->J (List CS)
 | .st i=>bif apU dq i then GH (mL dq i) (X.cX i)else none
 |_=>none
theorem aqn(dq:(i j:X.ι)->Decidable (i=j)){i:X.ι}{row:U CS}(hm:GH (mL dq i) (X.cX i)=some row){x:Tree}(h:Hd row x):∃l:U (CT.T X.toSE (.st i)),x= .sl (l.map (CT.row X.toSE (.st i))):=by
 refine Hd.rec (row:=row) (motive_1:=λx _=>∃l:U (CT.T X.toSE (.st i)),x= .sl (l.map (CT.row X.toSE (.st i)))) (motive_2:=λrows _=>∃l:U (CT.T X.toSE (.st i)),rows=l.map (CT.row X.toSE (.st i)))
  (motive_3:=λcs r _=>∀codes:U (CT X.ι),GH (mL dq i) codes=some cs->∃h:HL X.toSE codes,r=HL.row X.toSE codes h) ?_ ?_ ?_ ?_ ?_ ?_ h
 .rintro rows _ _ ⟨l,rfl⟩;exact⟨l,rfl⟩
 .exact⟨[],rfl⟩
 .rintro r rs _ _ h1 ⟨l,rfl⟩;obtain⟨q,rfl⟩:=h1 _ hm;exact⟨(X.make i q:X.T i)::l,by rw[aF];congr 1;exact(X.fX i q).symm⟩
 .intro codes hc;cases codes with
  |nil=>exact⟨(),rfl⟩
  |cons c codes=>
   simp only[GH,ai]at hc;obtain⟨_,_,_,_,h⟩:=hc;cases h
 .intro cs x xs _ _ h1 h2 codes hc;obtain⟨l,rfl⟩:=h1;cases codes with
  |nil=>simp[GH]at hc
  |cons c codes=>
   simp only[GH,ai]at hc;obtain⟨c',g1,cs',g2,g3⟩:=hc;injection g3 with g3;injection g3 with g4 g5;subst g4 g5;obtain⟨q,rfl⟩:=h2 _ g2
   match c,g1 with
   | .sl (.st j),g1=>
    simp only[mL]at g1;split at g1
    .rename_i hj _;subst hj;exact⟨(l,q),rfl⟩
    .cases g1
   | .int _,g1=>simp[mL]at g1
   | .bool,g1=>simp[mL]at g1
   | .str,g1=>simp[mL]at g1
   | .any,g1=>simp[mL]at g1
   | .st _,g1=>simp[mL]at g1
   | .mp _ _,g1=>simp[mL]at g1
   | .sl (.int _),g1=>simp[mL]at g1
   | .sl .bool,g1=>simp[mL]at g1
   | .sl .str,g1=>simp[mL]at g1
   | .sl .any,g1=>simp[mL]at g1
   | .sl (.sl _),g1=>simp[mL]at g1
   | .sl (.mp _ _),g1=>simp[mL]at g1
 .intro c' cs x xs hf _ h2 codes hc;cases codes with
  |nil=>simp[GH]at hc
  |cons c codes=>
   simp only[GH,ai]at hc;obtain⟨c2,g1,cs',g2,g3⟩:=hc;injection g3 with g3;injection g3 with g4 g5;subst g4 g5;obtain⟨q,rfl⟩:=h2 _ g2
   match c,g1 with
   | .int k,g1=>
    cases g1;obtain⟨n,rfl,_⟩:=hf;exact⟨(n,q),rfl⟩
   | .bool,g1=>
    cases g1;obtain⟨n,rfl⟩:=hf;exact⟨(n,q),rfl⟩
   | .str,g1=>
    cases g1;obtain⟨n,rfl,_⟩:=hf;exact⟨(n,q),rfl⟩
   | .sl (.st j),g1=>
    simp only[mL]at g1;split at g1
    .cases g1;exact hf.elim
    .cases g1
   | .any,g1=>simp[mL]at g1
   | .st _,g1=>simp[mL]at g1
   | .mp _ _,g1=>simp[mL]at g1
   | .sl (.int _),g1=>simp[mL]at g1
   | .sl .bool,g1=>simp[mL]at g1
   | .sl .str,g1=>simp[mL]at g1
   | .sl .any,g1=>simp[mL]at g1
   | .sl (.sl _),g1=>simp[mL]at g1
   | .sl (.mp _ _),g1=>simp[mL]at g1
def t7:Nat->CT X.ι->J (List CS)
 | 0,_=>none
 |_+1,.int k=>some [.int k]
 |_+1,.bool=>some [.bool]
 |_+1,.str=>some [.str]
 |_+1,.any=>some [.any]
 |_+1,.mp _ _=>none
 |n+1,.sl e=>match aq6 X.dec e with
  |some row=>some [.mu row]
  |none=>(t7 n e).bind λr=>some [.sl r]
 |n+1,.st i=>(GH (t7 n) (X.cX i)).bind λl=>some l.flatten
def Hi(n:Nat)(c:CT X.ι):J VS:=
 match c with
 | .st i=>(t7 n (.st i:CT X.ι)).map .agg
 |c=>(t7 n c).bind λl=>match l with
  |[x]=>some (.one x)
  |_=>none
theorem Ui:∀(a b:U CS)(ys:U Tree),c8 (a++b) ys->∃ya yb,ys=ya++yb/\c8 a ya/\c8 b yb
 |[],b,ys,h=>⟨[],ys,rfl,trivial,h⟩
 |c::a,b,y::ys,h=>by
  simp only[cons_append,c8]at h;obtain⟨ya,yb,rfl,h1,h2⟩:=Ui a b ys h.2;exact⟨y::ya,yb,rfl,⟨h.1,h1⟩,h2⟩
 |_::_,_,[],h=>h.elim
theorem afM{c:CT X.ι}{cs:U CS}(h:∀ys,c8 cs ys->∃x:CT.T X.toSE c,ys=CT.row X.toSE c x):∀rows:U (List Tree),(∀ r∈rows,c8 cs r)->∃l:U (CT.T X.toSE c),rows=l.map (CT.row X.toSE c)
 |[],_=>⟨[],rfl⟩
 |r::rows,hr=>by
  obtain⟨x,hx⟩:=h r (hr r (by simp));obtain⟨l,hl⟩:=afM h rows λq hq=>hr q (fF _ hq);exact⟨x::l,by rw[aF,<- hx,<- hl]⟩
theorem am0{f:CT X.ι->J (List CS)}(hf:∀c cs,f c=some cs->∀ys,c8 cs ys->∃x:CT.T X.toSE c,ys=CT.row X.toSE c x):∀(l:U (CT X.ι))(css:U (List CS)),GH f l=some css->∀ys,c8 css.flatten ys->∃h:HL X.toSE l,ys=HL.row X.toSE l h
 |[],css,h,ys,hy=>by
  simp only[GH,ay]at h;subst h;cases ys with
  |nil=>exact⟨(),rfl⟩
  |cons y ys=>exact hy.elim
 |c::l,css,h,ys,hy=>by
  simp only[GH]at h;have⟨a,h1,h⟩:=ai.1 h;have⟨b,h2,h⟩:=ai.1 h;cases h;simp only[flatten_cons]at hy;obtain⟨ya,yb,rfl,g1,g2⟩:=Ui _ _ _ hy;have⟨x,hx⟩:=hf c a h1 ya g1;have⟨q,hq⟩:=am0 hf l b h2 yb g2;exact⟨(x,q),by rw[hx,hq];rfl⟩
theorem Wm:∀(n:Nat)(c:CT X.ι)(cs:U CS),t7 n c=some cs->∀ys,c8 cs ys->∃x:CT.T X.toSE c,ys=CT.row X.toSE c x
 | 0,_,_,h,_,_=>by cases h
 |n+1,.mp _ _,cs,h,ys,hy=>by simp[t7]at h
 |n+1,.int k,cs,h,ys,hy=>by
  simp only[t7,ay]at h;subst h
  match ys,hy with
  |[y],hy=>
   simp only[c8,Fit,and_true]at hy;obtain⟨m,rfl,_⟩:=hy;exact⟨m,rfl⟩
  |[],hy=>exact hy.elim
  |_::_::_,hy=>exact hy.2.elim
 |n+1,.bool,cs,h,ys,hy=>by
  simp only[t7,ay]at h;subst h
  match ys,hy with
  |[y],hy=>
   simp only[c8,Fit,and_true]at hy;obtain⟨m,rfl⟩:=hy;exact⟨m,rfl⟩
  |[],hy=>exact hy.elim
  |_::_::_,hy=>exact hy.2.elim
 |n+1,.str,cs,h,ys,hy=>by
  simp only[t7,ay]at h;subst h
  match ys,hy with
  |[y],hy=>
   simp only[c8,Fit,and_true]at hy;obtain⟨m,rfl,_⟩:=hy;exact⟨m,rfl⟩
  |[],hy=>exact hy.elim
  |_::_::_,hy=>exact hy.2.elim
 |n+1,.any,cs,h,ys,hy=>by
  simp only[t7,ay]at h;subst h
  match ys,hy with
  |[y],hy=>exact⟨y,rfl⟩
  |[],hy=>exact hy.elim
  |_::_::_,hy=>exact hy.2.elim
 |n+1,.sl e,cs,h,ys,hy=>by
  simp only[t7]at h;split at h
  .rename_i row hm;cases h
   match ys,hy with
   |[y],hy=>
    simp only[c8,Fit,and_true]at hy;cases e with
    |st i=>
     simp only[aq6]at hm;cases hb:apU X.dec i with
     |false=>rw[hb]at hm;cases hm
     |true=>
      rw[hb]at hm;have⟨l,hl⟩:=aqn X.dec hm hy;exact⟨l,by rw[hl];rfl⟩
    |_=>cases hm
   |[],hy=>exact hy.elim
   |_::_::_,hy=>exact hy.2.elim
  have⟨r,h1,h⟩:=ai.1 h;cases h
  match ys,hy with
  |[y],hy=>
   simp only[c8,Fit,and_true]at hy;obtain⟨rows,rfl,_,hr⟩:=hy;have⟨l,hl⟩:=afM (Wm n e r h1) rows hr;exact⟨l,by rw[hl];rfl⟩
  |[],hy=>exact hy.elim
  |_::_::_,hy=>exact hy.2.elim
 |n+1,.st i,cs,h,ys,hy=>by
  simp only[t7]at h;rw[ai]at h;obtain⟨css,h1,h⟩:=h;cases h;have⟨q,hq⟩:=am0 (Wm n) (X.cX i) css h1 ys hy;exact⟨X.make i q,by rw[hq];exact(X.fX i q).symm⟩
theorem aoS{n:Nat}{c:CT X.ι}{s:VS}(h:Hi n c=some s){x:TV}(hx:GF s x):∃y:CT.T X.toSE c,x=CT.tv X.toSE c y:=by
 have one:∀c:CT X.ι,c.one=true->((t7 n c).bind λl=>match l with
  |[x]=>some (VS.one x)
  |_=>none)=some s->∃y:CT.T X.toSE c,x=CT.tv X.toSE c y:=by
  intro c hc h;rw[ai]at h;obtain⟨l,h1,h⟩:=h;split at h
  .rename_i z;cases h;simp only[GF]at hx;obtain⟨t,rfl,ht⟩:=hx;obtain⟨y,hy⟩:=Wm n c _ h1 [t] ⟨ht,trivial⟩;obtain⟨t',e1,e2⟩:=row_one hc y;rw[e1]at hy;cases hy;exact⟨y,e2.symm⟩
  .cases h
 cases c
 case st i=>
  simp only[Hi,eH]at h;obtain⟨cs,h1,rfl⟩:=h;simp only[GF]at hx;obtain⟨ys,rfl,hy⟩:=hx;obtain⟨y,hy⟩:=Wm n (.st i) _ h1 ys hy;exact⟨y,by rw[hy];rfl⟩
 all_goals exact one _ rfl h
theorem afN(n:Nat):∀(cs:U (CT X.ι))(ss:U VS),GH (Hi n) cs=some ss->∀xs,XA ss xs->∃h:HL X.toSE cs,xs=HL.nh X.toSE cs h
 |[],ss,h,xs,hx=>by
  simp only[GH,ay]at h;subst h;cases xs with
  |nil=>exact⟨(),rfl⟩
  |cons x xs=>exact hx.elim
 |c::cs,ss,h,xs,hx=>by
  simp only[GH]at h;have⟨a,h1,h⟩:=ai.1 h;have⟨b,h2,h⟩:=ai.1 h;cases h;cases xs with
  |nil=>exact hx.elim
  |cons x xs=>
   obtain⟨y,rfl⟩:=aoS h1 hx.1;obtain⟨q,rfl⟩:=afN n cs b h2 xs hx.2;exact⟨(y,q),rfl⟩
theorem am1{P:Program}{f:FuncId}{n N:Nat}{cs:U (CT X.ι)}{ss:U VS}{fn:Nat->je X (cs.map AT.d)->J Bool}(hc:∀k,wA P f ⟨cs.map AT.d,[.d .bool],fn k,none⟩)(hs:GH (Hi n) cs=some ss)(hl:∀q:HL X.toSE cs,XA ss (HL.nh X.toSE cs q)->yi (HL.nh X.toSE cs q)<=N->∃k,fn k (hlA cs q)=some true)(xs:U TV)(h:XA ss xs)(hb:yi xs<=N):
 tf P f (xs.map TV.av) (.one (.d (.s (.sc (.bool true))))):=by
 obtain⟨q,rfl⟩:=afN n cs ss hs xs h;have⟨k,hk⟩:=hl q h hb;have h1:=(hc k).2.1 (hlA cs q) true hk;have h2:=h1;rw[zA (adD cs)]at h2;have h3:p6 P f (zy (cs.map AT.d) (hlA cs q)) [] [] (.one (.d (.s (.sc (.bool true))))):=h2;have h4:=Xz h3;rw[zy,Rc]at h4;exact h4
end
end Go.Gb
