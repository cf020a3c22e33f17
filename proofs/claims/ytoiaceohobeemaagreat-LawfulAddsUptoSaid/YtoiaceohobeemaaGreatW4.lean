import Derived.Test.YtoiaceohobeemaaGreatW3
open List (mem_map all_eq_true cons_append length_map append_nil map_map map_congr_left flatten_cons map_nil all_cons map_take map_drop map_append mem_append_right)
namespace Go.Gb
open Go.RowKit
section
variable {X:SX} {A:Type}
theorem VC:∀(l:List (CT X.ι))(v:VT (X:=X) l),(xB l v).map (·.c)=l
 |[],_=>rfl
 |[_],_=>rfl
 |c::c'::l,v=>by simp only[xB,aC,VC (c'::l) v.2]
theorem Rq:∀{l:List Tree},(∀ t∈l,t.flat)->qc (l.map AV.t)
 |[],_=>trivial
 |t::l,h=>⟨h t (by simp),Rq (λ u hu=>h u (by simp[hu]))⟩
theorem ack{c:CT X.ι}(h:ze c=true)(x:CT.T X.toSE c):vR (CT.tv X.toSE c x).av:=by
 have hf:=vV h x;cases c
 case st i=>exact Rq hf
 all_goals first |exact hf _ (aY.2 rfl) |cases h
section
variable {ol:Nat->Nat}
mutual
theorem ame:∀(p:Pt X.ι)(L:List (DC X))(cs:List (CT X.ι)),L.map (·.c)=p.vars++cs->p.vars.all ze=true->vR (den (eP ol p L).1)/\(eP ol p L).2.map (·.c)=cs
 | .v c,L,cs,h,hs=>by
  match L,h with
  |d::r,h=>
   simp only[Pt.vars,aC,List.singleton_append,List.cons.injEq]at h;simp only[Pt.vars,all_cons,List.all_nil,Bool.and_true]at hs;exact⟨ack (h.1 ▸ hs) d.x,h.2⟩
  |[],h=>simp[Pt.vars]at h
 | .o k,L,cs,h,_=>⟨trivial,by simpa[Pt.vars,eP]using h⟩
 | .p k,L,cs,h,_=>⟨trivial,by simpa[Pt.vars,eP]using h⟩
 | .mp k,L,cs,h,_=>⟨trivial,by simpa[Pt.vars,eP]using h⟩
 | .oz k,L,cs,h,_=>⟨trivial,by simpa[Pt.vars,eP]using h⟩
 | .nil,L,cs,h,_=>⟨trivial,by simpa[Pt.vars,eP]using h⟩
 | .od k,L,cs,h,_=>by
  match L,h with
  |d::r,h=>
   simp only[Pt.vars,aC,List.singleton_append,List.cons.injEq]at h;exact⟨trivial,h.2⟩
  |[],h=>simp[Pt.vars]at h
 | .f F fs ps,L,cs,h,hs=>by
  simp only[Pt.vars,List.all_append,aJ]at hs;simp only[Pt.vars,aK]at h;obtain⟨a1,a2⟩:=Fj fs L _ h hs.1;obtain⟨b1,b2⟩:=Fj ps _ _ a2 hs.2;exact⟨⟨a1,b1⟩,b2⟩
 | .a ps,L,cs,h,hs=>by
  simp only[Pt.vars]at h hs;exact Fj ps L cs h hs
theorem Fj:∀(ps:List (Pt X.ι))(L:List (DC X))(cs:List (CT X.ι)),L.map (·.c)=cJ ps++cs->(cJ ps).all ze=true->qc (bK (lp ol ps L).1)/\(lp ol ps L).2.map (·.c)=cs
 |[],L,cs,h,_=>⟨trivial,by simpa[cJ,lp]using h⟩
 |p::ps,L,cs,h,hs=>by
  simp only[cJ,List.all_append,aJ]at hs;simp only[cJ,aK]at h;obtain⟨a1,a2⟩:=ame p L _ h hs.1;obtain⟨b1,b2⟩:=Fj ps _ _ a2 hs.2;exact⟨⟨a1,b1⟩,b2⟩
end
mutual
theorem amf:∀(p:Pt X.ι)(L:List (DC X)),∀j∈bm (eP ol p L).1,j∈p.refs
 | .v c,L,j,h=>by cases L<;>simp[eP,bm]at h
 | .o k,L,j,h=>by simpa[eP,bm,Pt.refs]using h
 | .p k,L,j,h=>by simpa[eP,bm,Pt.refs]using h
 | .mp k,L,j,h=>by simpa[eP,bm,Pt.refs]using h
 | .oz k,L,j,h=>by simpa[eP,bm,Pt.refs]using h
 | .nil,L,j,h=>by simp[eP,bm]at h
 | .od k,L,j,h=>by cases L<;>simp[eP,bm]at h<;>simp[Pt.refs,h]
 | .f F fs ps,L,j,h=>by
  simp only[eP,bm,aX]at h;simp only[Pt.refs,aX];exact h.imp (Aw fs _ j) (Aw ps _ j)
 | .a ps,L,j,h=>by
  simp only[eP,bm]at h;simp only[Pt.refs];exact Aw ps _ j h
theorem Aw:∀(ps:List (Pt X.ι))(L:List (DC X)),∀j∈aS (lp ol ps L).1,j∈Dx ps
 |[],L,j,h=>by simp[lp,aS]at h
 |p::ps,L,j,h=>by
  simp only[lp,aS,aX]at h;simp only[Dx,aX];exact h.imp (amf p _ j) (Aw ps _ j)
end
theorem Ns:∀(rs:List (List (Pt X.ι)))(L:List (DC X))(cs:List (CT X.ι)),L.map (·.c)=xA rs++cs->(xC ol rs L).2.map (·.c)=cs/\((xA rs).all ze=true->∀r∈(xC ol rs L).1,qc (bK r))
 |[],L,cs,h=>⟨by simpa[xA,xC]using h,by simp[xC]⟩
 |r::rs,L,cs,h=>by
  simp only[xA,aK]at h;have step:(lp ol r L).2.map (·.c)=xA rs++cs:=tj r L _ h;obtain⟨b1,b2⟩:=Ns rs _ _ step;refine⟨b1,λhs q hq=>?_⟩;simp only[xA,List.all_append,aJ]at hs;simp only[xC,aN]at hq;rcases hq with rfl |hq
  ·exact(Fj r L _ h hs.1).1
  ·exact b2 hs.2 q hq
where
 tj (ps:List (Pt X.ι)) (L:List (DC X)) (cs:List (CT X.ι)) (h:L.map (·.c)=cJ ps++cs):(lp ol ps L).2.map (·.c)=cs:=pc ps L cs h
 Bm:∀(p:Pt X.ι)(L:List (DC X))(cs:List (CT X.ι)),L.map (·.c)=p.vars++cs->(eP ol p L).2.map (·.c)=cs
  | .v c,L,cs,h=>by
   match L,h with
   |d::r,h=>simp only[Pt.vars,aC,List.singleton_append,List.cons.injEq]at h;exact h.2
   |[],h=>simp[Pt.vars]at h
  | .o k,L,cs,h=>by simpa[Pt.vars,eP]using h
  | .p k,L,cs,h=>by simpa[Pt.vars,eP]using h
  | .mp k,L,cs,h=>by simpa[Pt.vars,eP]using h
  | .oz k,L,cs,h=>by simpa[Pt.vars,eP]using h
  | .nil,L,cs,h=>by simpa[Pt.vars,eP]using h
  | .od k,L,cs,h=>by
   match L,h with
   |d::r,h=>simp only[Pt.vars,aC,List.singleton_append,List.cons.injEq]at h;exact h.2
   |[],h=>simp[Pt.vars]at h
  | .f F fs ps,L,cs,h=>by
   simp only[Pt.vars,aK]at h;exact pc ps _ _ (pc fs L _ h)
  | .a ps,L,cs,h=>by
   simp only[Pt.vars]at h;exact pc ps L cs h
 pc:∀(ps:List (Pt X.ι))(L:List (DC X))(cs:List (CT X.ι)),L.map (·.c)=cJ ps++cs->(lp ol ps L).2.map (·.c)=cs
  |[],L,cs,h=>by simpa[cJ,lp]using h
  |p::ps,L,cs,h=>by
   simp only[cJ,aK]at h;exact pc ps _ _ (Bm p L _ h)
theorem Xk:∀(rs:List (List (Pt X.ι)))(L:List (DC X)),∀j∈((xC ol rs L).1.map aS).flatten,j∈rs.flatMap Dx
 |[],L,j,h=>by simp[xC]at h
 |r::rs,L,j,h=>by
  simp only[xC,aC,flatten_cons,aX]at h;simp only[List.flatMap_cons,aX];exact h.imp (Aw r _ j) (Xk rs _ j)
theorem Ay:∀(O:List (Nat×OP X.ι))(L:List (DC X)),((dn (cu ol O L)).map (·.1)).Sublist (O.map (·.1))/\(∀ p∈dn (cu ol O L),∃op,(p.1,op)∈O/\∀j∈dE p.2,j∈op.refs)/\
 (L.map (·.c)=cD O->(O.all λq=>match q.2 with | .l c=>ze c | .m _ _=>false | .c _ rows=>(xA rows).all ze)=true->∀p∈dn (cu ol O L),∀r∈(bG p.2).rows,qc r)
 |[],L=>⟨by simp[cu,dn],by simp[cu,dn],by simp[cu,dn]⟩
 |(k,.l c)::O,L=>by
  match L with
  |[]=>exact⟨by simp[cu,dn],by simp[cu,dn],by simp[cu,dn]⟩
  |⟨.sl c',x⟩::L=>
   have⟨h1,h2,h3⟩:=Ay O L;refine⟨?_,?_,?_⟩
   ·simp only[cu,dn,aC];exact h1.cons_cons _
   ·intro p hp;simp only[cu,dn,aN]at hp;rcases hp with rfl |hp
    ·exact⟨.l c,by simp,by simp[dE]⟩
    ·have⟨op,g1,g2⟩:=h2 p hp;exact⟨op,dS _ g1,g2⟩
   ·intro hL hs p hp r hr;simp only[aC,cD,List.cons.injEq]at hL;simp only[all_cons,aJ]at hs;simp only[cu,dn,aN]at hp;rcases hp with rfl |hp
    ·obtain⟨e,_⟩:=hL;injection e with e;simp only[bG,aL,mem_map]at hr;obtain⟨q,⟨y,hy,rfl⟩,rfl⟩:=hr;exact Rq (vV (e ▸ hs.1) y)
    ·exact h3 hL.2 hs.2 p hp r hr
  |⟨.int _,x⟩::L=>exact⟨by simp[cu,dn],by simp[cu,dn],by simp[cu,dn]⟩
  |⟨.bool,x⟩::L=>exact⟨by simp[cu,dn],by simp[cu,dn],by simp[cu,dn]⟩
  |⟨.str,x⟩::L=>exact⟨by simp[cu,dn],by simp[cu,dn],by simp[cu,dn]⟩
  |⟨.any,x⟩::L=>exact⟨by simp[cu,dn],by simp[cu,dn],by simp[cu,dn]⟩
  |⟨.mp _ _,x⟩::L=>exact⟨by simp[cu,dn],by simp[cu,dn],by simp[cu,dn]⟩
  |⟨.st _,x⟩::L=>exact⟨by simp[cu,dn],by simp[cu,dn],by simp[cu,dn]⟩
 |(k,.m kc vc)::O,L=>by
  match L with
  |[]=>exact⟨by simp[cu,dn],by simp[cu,dn],by simp[cu,dn]⟩
  |⟨.mp tg s9,x⟩::L=>
   have⟨h1,h2,h3⟩:=Ay O L;refine⟨?_,?_,?_⟩
   ·simp only[cu,dn,aC];exact h1.cons_cons _
   ·intro p hp;simp only[cu,dn,aN]at hp;rcases hp with rfl |hp
    ·exact⟨.m kc vc,by simp,by simp[dE]⟩
    ·have⟨op,g1,g2⟩:=h2 p hp;exact⟨op,dS _ g1,g2⟩
   ·intro hL hs;simp at hs
  |⟨.sl _,x⟩::L=>exact⟨by simp[cu,dn],by simp[cu,dn],by simp[cu,dn]⟩
  |⟨.int _,x⟩::L=>exact⟨by simp[cu,dn],by simp[cu,dn],by simp[cu,dn]⟩
  |⟨.bool,x⟩::L=>exact⟨by simp[cu,dn],by simp[cu,dn],by simp[cu,dn]⟩
  |⟨.str,x⟩::L=>exact⟨by simp[cu,dn],by simp[cu,dn],by simp[cu,dn]⟩
  |⟨.any,x⟩::L=>exact⟨by simp[cu,dn],by simp[cu,dn],by simp[cu,dn]⟩
  |⟨.st _,x⟩::L=>exact⟨by simp[cu,dn],by simp[cu,dn],by simp[cu,dn]⟩
 |(k,.c sz rows)::O,L=>by
  have⟨h1,h2,h3⟩:=Ay O (xC ol rows L).2;refine⟨?_,?_,?_⟩
  ·simp only[cu,dn,aC];exact h1.cons_cons _
  ·intro p hp;simp only[cu,dn,aN]at hp;rcases hp with rfl |hp
   ·exact⟨.c sz rows,by simp,λj hj=>Xk rows L j hj⟩
   ·have⟨op,g1,g2⟩:=h2 p hp;exact⟨op,dS _ g1,g2⟩
  ·intro hL hs p hp r hr;simp only[cD]at hL;simp only[all_cons,aJ]at hs;obtain⟨e1,e2⟩:=Ns (ol:=ol) rows L _ hL;simp only[cu,dn,aN]at hp;rcases hp with rfl |hp
   ·simp only[bG,mem_map]at hr;obtain⟨q,hq,rfl⟩:=hr;exact e2 hs.1 q hq
   ·exact h3 e1 hs.2 p hp r hr
end
theorem Rs(k:Nat):∀os:List (Nat×br X),pm (uo os) k=(sY os k).map bG
 |[]=>rfl
 |(j,o)::r=>by
  simp only[uo,aC,pm,sY];split
  ·rfl
  ·exact Rs k r
theorem Xl(f:Nat->Nat)(c:CT X.ι)(x:CT.T X.toSE c):eW f (CT.tv X.toSE c x).av=(CT.tv X.toSE c x).av:=(Cz f (.c c x)).symm
theorem ad6(f:Nat->Nat)(o:br X):bG (oy f o)=Mh f (bG o):=by
 cases o with
 |cells sz rows=>simp only[oy,bG,Mh,map_map];congr 1;exact map_congr_left λr _=>Fg f r
 |dc c l=>simp only[oy,bG,Mh,aL,map_map];congr 1;exact map_congr_left λr _=>(T5 f _).symm
 |map kc vc l=>simp only[oy,bG,Mh,map_map];congr 1;exact map_congr_left λr _=>by simp only[Function.comp_apply,zi,Xl]
theorem ai0(i:Nat)(ae:List Nat)(os:List (Nat×br X)):gM (L0 i ae os)=wa i ae (uo os):=by
 simp only[L0,wa,tH];congr 1
 ·simp only[gM,map_map];refine map_congr_left λp _=>?_;simp only[Function.comp_apply,Rs,Option.map_map];congr 1;cases sY os p.2<;>simp[ad6]
 ·simp only[gM,uo,List.filter_map,map_map];refine map_congr_left λq _=>?_;simp[ad6]
theorem Xm{ds:List (DV X)}:(∀ j∈refs (den (Aq ds)),j∈aS ds)/\(qc (bK ds)->vR (den (Aq ds))):=by
 match ds with
 |[]=>exact⟨λ j hj=>by simp[Aq,den,bK,refs,eH]at hj,λ_=>by simp only[Aq,den,vR];exact trivial⟩
 |[d]=>exact⟨λ j hj=>by simp only[Aq,iV]at hj;simpa[aS]using hj,λh=>h.1⟩
 |d::e::r=>exact⟨λ j hj=>by simp only[Aq,den,refs,iA]at hj;exact hj,λh=>h⟩
theorem aaW:∀xs:List (Nat×br X),dn (xs.map λp=>(p.1,some p.2))=xs
 |[]=>rfl
 |p::xs=>by simp only[aC,dn,aaW xs]
theorem ah6:∀l:List Tree,eH (l.map AV.t)=[]
 |[]=>rfl
 |_::l=>by simp only[aC,eH,refs,ah6 l,bO]
theorem acn{P:Program}{g:cR X}{F:FuncId}(hg:HP P F g){i:Nat}{first args caps:List (DV X)}{get:Nat->Option (br X)}{k:KK X A}{r:A}(h:T4 g i (first++args++caps) get k=some r):
 ∃cw rd wr dv upd ab,kF P i (den (.fn F first caps)) (bK args) cw (dG rd (fD get))=some ab/\j5 ab.obs/\ab.v=den dv/\ab.upd=gM upd/\(∀ p∈upd,p.1=cy i\/p.1∈wr)/\k dv upd rd wr=some r:=by
 unfold T4 at h;rw[ai]at h;obtain⟨m1,h1,h⟩:=h;rw[ai]at h;obtain⟨m,h2,h⟩:=h;have⟨h3,h⟩:=dF h;rw[ai]at h;obtain⟨v,h4,h⟩:=h;have⟨h5,h⟩:=qd h;rw[ai]at h;obtain⟨rr,h6,h⟩:=h;simp only[aJ]at h3;obtain⟨hok,zc⟩:=h3;simp only at h;generalize ke:(List.range g.iz.length).map (p6 m)=ae at h zc;simp only[cR.ok,aJ,aT]at hok;obtain⟨⟨⟨⟨n1,n2⟩,n3⟩,n4⟩,n5⟩:=hok;simp only[ZD,aJ,aT]at zc;obtain⟨⟨hnd,hnm⟩,yz⟩:=zc;have hlen:ae.length=g.iz.length:=by rw[<- ke];simp
 have hi:∀q∈m.nm,ae[q.2]? =some q.1:=by
  intro q hq;have:=all_eq_true.1 hnm q hq;split at this
  ·rename_i k' e;rw[e,Nat.eq_of_beq_eq_true this]
  ·cases this
 have hv:∀k∈m.vr,k∉ae:=λk hk=>by
  have:=all_eq_true.1 yz k hk;simpa using this
 have hrd:∀k,(∃ q,(k,q)∈m.nm)\/k∈m.vr->k∈ae++m.vr:=by
  rintro k (⟨q,hq⟩ |hk)
  ·exact List.mem_append_left _ (cB (hi _ hq))
  ·exact mem_append_right _ hk
 have hm2:=(mK _ _ _ h2).1;have t7:=Xa h4;obtain⟨_,nA,dA,lA⟩:=xD _ _ _ _ h1;simp only[bO]at dA;obtain⟨nB,dB,lB⟩:=GJ (NM:=m.nm) _ _ _ h2 (λ q hq=>hq);have hL:m.ey=nA++nB:=by rw[dB,dA]
 have hdrop:(xB _ v).drop (cJ g.pn).length=nB:=by rw[t7,hL,<- lA,List.drop_left]
 have htake:(xB _ v).take (cJ g.pn).length=nA:=by rw[t7,hL,<- lA,List.take_left]
 have ho:∀q∈m.nm,∀c l,get q.1=some (.dc c l)->Dv g.iz nB q.2=l.length:=by
  rintro⟨p,q⟩ hq c l hl;have hq2:=hi _ hq;have hqn:q<g.iz.length:=by rw[<- hlen];exact(dm.1 hq2).1
  obtain⟨p',o,g1,g2,g3⟩:=lB [] q (by rw[n1];exact List.mem_range.2 hqn);have:p'=p:=by
   have e1:=hi _ g1;rw[hq2]at e1;injection e1 with e1;exact e1.symm
  subst this;simp only at hl;rw[hl]at g2;injection g2 with g2;have h3:=g3 c l g2.symm;rw[append_nil]at h3;have hk:=(GK g.iz nB).nodup (by rw[n1];exact List.nodup_range);simp only[Dv,vT hk h3,Option.getD_some]
 obtain⟨N6,HD,ds',eA,⟨hs,obs,pA,qA⟩,rA⟩:=Ac (P:=P) (ae:=ae) (rd:=ae++m.vr) (NM:=m.nm) (py:=m.vr) (dp:=Dv g.iz nB) hi hv hrd ho _ _ _ _ h1 (λ q hq=>hm2.1 q hq) (λ c hc=>h5 c (hm2.2.1 c hc)) (λ q hq=>hm2.2.2 q hq);obtain⟨N5,Ss,xs,eB,bs,mo,pB,qB,rB⟩:=CB (P:=P) (ae:=ae) (rd:=ae++m.vr) (NM:=m.nm) (py:=m.vr) (dp:=Dv g.iz nB) hi hv hrd ho _ _ _ h2 (λ q hq=>hq) h5 (λ q hq=>hq);have So:N6=nA:=by simp only[bO]at HD;rw[<- HD,dA]
 have Sf:N5=nB:=List.append_cancel_left (Ss.symm.trans dB);subst So Sf;have HB:=eA [];have HA:=eB [];rw[append_nil]at HB HA;have hargs:g.args v=ds':=by simp only[cR.args,Xc,hdrop,htake,HB]
 have sX:g.cH v=xs:=by simp only[cR.cH,H5,hdrop,HA,aaW]
 have PR:(g.iz.map λp=>(ae[p.1]?).getD 0)=ae:=by
  have:(g.iz.map λp=>(ae[p.1]?).getD 0)=(g.iz.map (·.1)).map λj=>(ae[j]?).getD 0:=by rw[map_map];rfl
  rw[this,n1];refine List.ext_getElem (by simp[hlen]) λj a b=>?_;simp[dI b]
 rw[PR]at qB rB;have YY:=qA [];rw[append_nil,iG,iG]at YY;have hcon:=hg v rr h6;rw[hargs,sX]at hcon;obtain⟨s1,s2,s3⟩:=Ay (ol:=Dv g.ix ((xB (ia (lr 0 g.fL)++cD g.ix) rr).drop (cJ g.fL).length)) g.ix ((xB _ rr).drop (cJ g.fL).length);have yn:∀k,F1 g.iz.length k=true->xz ae.length k:=by
  intro k hk;simp only[F1,Bool.or_eq_true,aJ,Nat.blt_eq,Nat.ble_eq]at hk;simp only[xz,hlen];exact hk
 have good:EV ae.length (uo (g.outs rr)) (den (g.res rr)):=by
  refine⟨?_,?_,?_,?_⟩
  ·intro q hq;simp only[uo,mem_map]at hq;obtain⟨p,hp,rfl⟩:=hq;have⟨op,g1,_⟩:=s2 p hp;have:=all_eq_true.1 n3 _ g1;simp only[aJ]at this;exact yn _ this.1
  ·have:(uo (g.outs rr)).map (·.1)=(g.outs rr).map (·.1):=(by simp[uo]);rw[this];exact s1.nodup n4
  ·intro q hq r' hr' j hj;simp only[uo,mem_map]at hq;obtain⟨p,hp,rfl⟩:=hq;have⟨op,g1,g2⟩:=s2 p hp;have:=all_eq_true.1 n3 _ g1;simp only[aJ]at this;refine yn _ (all_eq_true.1 this.2 j (g2 j ?_));obtain⟨pk,po⟩:=p;cases po with
   |cells sz rows=>exact O3 (List.mem_flatMap.2 ⟨r',hr',hj⟩)
   |dc c l=>
    simp only[bG,aL,mem_map]at hr';obtain⟨z,_,rfl⟩:=hr';rw[ah6]at hj;simp at hj
   |map kc vc l=>
    simp only[bG,mem_map]at hr';obtain⟨z,_,rfl⟩:=hr';simp only[eH,GA,append_nil]at hj;simp at hj
  ·intro j hj;have:=(Xm (ds:=Xc g.fL g.ix (xB _ rr))).1 j hj;exact yn _ (all_eq_true.1 n5 j (Aw g.fL _ j this))
 have flat:g.flat=true->m5 (uo (g.outs rr)) (den (g.res rr)):=by
  intro hf;simp only[cR.flat,aJ]at hf;have hc:(xB (ia (lr 0 g.fL)++cD g.ix) rr).map (·.c)=cJ g.fL++cD g.ix:=(VC _ rr).trans (by rw[Rm]);refine⟨(Xm (ds:=Xc g.fL g.ix (xB _ rr))).2 ?_,?_⟩
  ·refine(Fj (ol:=_) g.fL _ [] ?_ hf.1).1;rw[append_nil,map_take,hc,List.take_left]
  ·intro q hq r' hr';simp only[uo,mem_map]at hq;obtain⟨p,hp,rfl⟩:=hq;exact s3 (by rw[map_drop,hc,List.drop_left]) hf.2 p hp r' hr'
 have cL:Wx (dG (ae++m.vr) (fD get)) (bK first++bK args++bK caps) ae m.vr bs:=by
  refine⟨hv,λj hj hn=>?_,λj hs' q o e1 e2 e3 z hz hn=>?_⟩
  ·rw[<- iG,<- iG,iA]at hj;rcases rA j hj with ⟨q,hq⟩ |hj
   ·exact absurd (cB (hi _ hq)) hn
   ·exact hj
  ·rcases rB j hs' q o e1 e2 e3 z hz with ⟨q',hq⟩ |hz
   ·exact absurd (cB (hi _ hq)) hn
   ·exact hz
 refine⟨.s8 ae m.vr bs hs (uo (g.outs rr)) (den (g.res rr)) g.flat,ae++m.vr,_,_,_,
  ⟨eW (cn i ae) (den (g.res rr)),wa i ae (uo (g.outs rr))++(if g.flat then []else m.vr.map λk=>(k,none)),obs++mo++[CE P F (bK ds') (xs.map λp=>bG p.2) (uo (g.outs rr)) (den (g.res rr)),EV ae.length (uo (g.outs rr)) (den (g.res rr)),Wx (dG (ae++m.vr) (fD get)) (bK first++bK args++bK caps) ae m.vr bs]++(if g.flat then [m5 (uo (g.outs rr)) (den (g.res rr))]else [])⟩,?_,?_,(Cz _ _).symm,?_,?_,h⟩
 ·simp only[den,kF,OE,qB,YY,ah];rw[aP ⟨hnd,by omega⟩]
 ·refine rW _ (gX (gX (gX pA pB) ?_) ?_)
  ·intro z hz;simp only[aN,jB,or_false]at hz;rcases hz with rfl |rfl |rfl
   ·exact hcon
   ·exact good
   ·exact cL
  ·intro z hz;cases hf:g.flat with
   |true=>rw[hf]at hz;simp only[if_true,aY]at hz;subst hz;exact flat hf
   |false=>rw[hf]at hz;simp at hz
 ·simp only[tH,ai0];congr 1;cases g.flat with
  |true=>rfl
  |false=>exact(Fb m.vr).symm
 ·intro p hp;refine .inr ?_;rcases aX.1 hp with hp |hp
  ·exact List.mem_append_left _ (mem_append_right _ (mem_map.2 ⟨p,hp,rfl⟩))
  ·cases hf:g.flat with
   |true=>rw[hf]at hp;simp at hp
   |false=>
    rw[hf]at hp;simp only[Bool.false_eq_true,if_false,mem_map]at hp;obtain⟨z,hz,rfl⟩:=hp;exact mem_append_right _ hz
end
section
variable {X:SX} {A:Type}
def Xn:RT X.ι->Bool
 | .d c=>ze c
 | .fresh e=>ze e
 | .whole _=>true
 | .mu c=>ze c
 | .mr c=>ze c
 | .mv=>true
theorem ad7{c:CT X.ι}(h:ze c=true)(x:CT.T X.toSE c):(CT.tv X.toSE c x).flat:=by
 cases c
 case st i=>exact vV h x
 all_goals first |exact trivial |cases h
theorem Xo{ns:List Nat}{q:RT X.ι}{x:RT.T X q}(h:Xn q=true):∀c∈Xd ns q x,c.flat:=by
 intro c hc;cases q<;>simp only[Xd,aY,jB]at hc
 case d c=>subst hc;exact ad7 h x
 case fresh e=>
  subst hc;intro row hr;obtain⟨y,_,rfl⟩:=mem_map.1 hr;exact vV h y
 case whole j=>subst hc;exact trivial
theorem TD{ns:List Nat}:∀{l:List (RT X.ι)}{x:ul X l},l.all Xn=true->∀c∈Dw ns l x,c.flat
 |[],x,_,c,hc=>by simp[Dw]at hc
 |[q],x,h,c,hc=>Xo (by simpa using h) c hc
 |q::q'::l,x,h,c,hc=>by
  simp only[all_cons,aJ]at h;simp only[Dw,aX]at hc;rcases hc with hc |hc
  ·exact Xo h.1 c hc
  ·exact TD (by simp only[all_cons,aJ];exact h.2) c hc
theorem Xp{l:List (RT X.ι)}(x:ul X l)(h:l.all Xn=true):(uq l x).flat:=by
 have:=TD (ns:=vA l x) (x:=x) h;unfold uq;split
 ·rename_i c hc;exact this c (by rw[hc];simp)
 ·exact this
theorem aaX{q:RT X.ι}{x:RT.T X q}(h:Xn q=true):Wl (qO q x):=by
 intro p hp;cases q<;>simp only[qO,aY,jB,aA,reduceCtorEq]at hp
 case mu c=>
  subst hp;intro r hr;obtain⟨y,_,rfl⟩:=mem_map.1 hr;exact vV h y
 case mr c=>
  subst hp;intro r hr;obtain⟨y,_,rfl⟩:=mem_map.1 hr;exact vV h y
theorem aaY:∀{l:List (RT X.ι)}{x:ul X l},l.all Xn=true->Wl (oD l x)
 |[],x,_=>λp hp=>by simp[oD]at hp
 |[q],x,h=>aaX (q:=q) (by simpa using h)
 |q::q'::l,x,h=>by
  simp only[all_cons,aJ]at h;intro p hp;rcases aX.1 (show some p∈qO q x.1++oD (q'::l) x.2 from hp)with hp |hp
  ·exact aaX h.1 p hp
  ·exact aaY (l:=q'::l) (by simp only[all_cons,aJ];exact h.2) p hp
def Ke(i:Nat)(ae ns:List Nat):(q:RT X.ι)->RT.T X q->List (DV X)×List (Nat×Option (br X))
 | .d c,x=>([.c c x],[])
 | .fresh e,l=>([.own (cy i) 0 l.length],[(cy i,some (.dc e l))])
 | .whole j,_=>([match ae[j]? with |some k=> .own k 0 (ns.getD j 0) |none=> .undef],[])
 |_,_=>([],[])
def M6(i:Nat)(ae ns:List Nat):(l:List (RT X.ι))->ul X l->Option (List (DV X)×List (Nat×Option (br X)))
 |[],_=>some ([],[])
 |[q],x=>some (Ke i ae ns q x)
 |q::q'::l,x=>(M6 i ae ns (q'::l) x.2).bind λp=>if (Ke i ae ns q x.1).2.isEmpty || p.2.isEmpty then some ((Ke i ae ns q x.1).1++p.1,(Ke i ae ns q x.1).2++p.2)else none
def aog:List (DV X)->DV X
 |[d]=>d
 |ds=> .fi ds
def DO(i:Nat)(ae:List Nat)(l:List (RT X.ι))(x:ul X l):Option (DV X×List (Nat×Option (br X))):=
 (M6 i ae (vA l x) l x).bind λp=>some (aog p.1,p.2)
theorem aco(u:List (Nat×Option (br X))):(gM u).isEmpty=u.isEmpty:=by cases u<;>rfl
theorem aaZ(i:Nat)(ae ns:List Nat)(q:RT X.ι)(x:RT.T X q):(∃ c,Xd ns q x=[c]/\∃d,(Ke i ae ns q x).1=[d]/\Mf i ae c=(den d,gM (Ke i ae ns q x).2))\/(Xd ns q x=[]/\Ke i ae ns q x=([],[])):=by
 cases q
 case d c=>exact .inl ⟨_,rfl,_,rfl,rfl⟩
 case fresh e=>exact .inl ⟨_,rfl,_,rfl,by simp[Mf,Ke,den,gM,bG,aL]⟩
 case whole j=>
  refine .inl ⟨_,rfl,_,rfl,?_⟩;simp only[Mf,gM,Ke,map_nil,Prod.mk.injEq,and_true];cases ae[j]?<;>rfl
 all_goals exact .inr ⟨rfl,rfl⟩
theorem ad8(i:Nat)(ae:List Nat)(c:RC):Ow i ae [c]=some ([(Mf i ae c).1],(Mf i ae c).2):=by simp[Ow]
theorem aa0(i:Nat)(ae ns:List Nat):∀(l:List (RT X.ι))(x:ul X l)(p:List (DV X)×List (Nat×Option (br X))),M6 i ae ns l x=some p->Ow i ae (Dw ns l x)=some (bK p.1,gM p.2)
 |[],_,p,h=>by simp only[M6,aA]at h;subst h;rfl
 |[q],x,p,h=>by
  simp only[M6,aA]at h;subst h;simp only[Dw];rcases aaZ i ae ns q x with ⟨c,h1,d,h2,h3⟩ |⟨h1,h2⟩
  ·rw[h1,ad8,h2,h3];simp[bK]
  ·rw[h1,h2];rfl
 |q::q'::l,x,p,h=>by
  simp only[M6]at h;rw[ai]at h;obtain⟨p',h1,h⟩:=h;have ih:=aa0 i ae ns (q'::l) x.2 p' h1;split at h
  ·rename_i hc;cases h;simp only[Dw];rcases aaZ i ae ns q x.1 with ⟨c,h1,d,h2,h3⟩ |⟨h1,h2⟩
   ·rw[h1];simp only[List.singleton_append,Ow,ih,ah,h3,aco];rw[aP hc,h2];simp[bK,gM]
   ·rw[h1,h2];simp only[bO];exact ih
  ·cases h
theorem ad9{i:Nat}{ae:List Nat}{l:List (RT X.ι)}{x:ul X l}{p:DV X×List (Nat×Option (br X))}(h:DO i ae l x=some p):imp i ae (uq l x)=some (den p.1,gM p.2):=by
 unfold DO at h;rw[ai]at h;obtain⟨p',h1,h⟩:=h;cases h;have ih:=aa0 i ae _ l x p' h1;unfold uq;split
 ·rename_i c hc;rw[hc,ad8]at ih;simp only[aA,Prod.mk.injEq]at ih;obtain⟨ds,u⟩:=p'
  match ds,ih with
  |[d],ih=>
   simp only[bK,List.cons.injEq,and_true]at ih;simp only[imp,aog,<- ih.1,<- ih.2]
  |[],ih=>simp[bK]at ih
  |_::_::_,ih=>simp[bK]at ih
 ·rename_i hne;simp only[imp,ih,ah];obtain⟨ds,u⟩:=p'
  match ds,ih with
  |[],_=>rfl
  |_::_::_,_=>rfl
  |[d],ih=>
   exfalso;generalize hcs:Dw (vA l x) l x=cs at ih hne
   match cs,ih,hne with
   |[],ih,_=>simp[Ow,bK]at ih
   |[c],_,hne=>exact hne c rfl
   |c::c'::cs,ih,_=>
    simp only[Ow]at ih;cases h3:Ow i ae cs with
    |none=>rw[h3]at ih;simp at ih
    |some q=>
     rw[h3]at ih;simp only[ah]at ih;split at ih
     ·simp only[ah]at ih;split at ih
      ·simp[bK]at ih
      ·cases ih
     ·simp at ih
def I3:(q:RT X.ι)->RT.T X q->List (Option (br X))
 | .mu c,x=>[some (.dc c x)]
 | .mr c,x=>[some (.cells (CT.sz X c) [vU c x])]
 | .mv,_=>[none]
 |_,_=>[]
def Xq:(l:List (RT X.ι))->ul X l->List (Option (br X))
 |[],_=>[]
 |[q],x=>I3 q x
 |q::q'::l,x=>I3 q x.1++Xq (q'::l) x.2
def Kg:List Nat->List (Option (br X))->List (Nat×Option (br X))
 |k::ae,p::os=>(k,p)::Kg ae os
 |_,_=>[]
theorem aea(q:RT X.ι)(x:RT.T X q):(I3 q x).map (·.map bG)=(qO q x).map (·.map hZ):=by
 cases q<;>try rfl
 case mr c=>simp only[I3,qO,aC,map_nil,Option.map_some,bG,hZ,sM,aL,nU]
theorem Rt:∀(l:List (RT X.ι))(x:ul X l),(Xq l x).map (·.map bG)=(oD l x).map (·.map hZ)
 |[],_=>rfl
 |[q],x=>aea q x
 |q::q'::l,x=>by simp only[Xq,oD,map_append,aea,Rt (q'::l) x.2]
theorem aa1:∀(ae:List Nat)(os:List (Option (br X)))(os':List (Option fe)),os.map (·.map bG)=os'.map (·.map hZ)->gM (Kg ae os)=Dm ae os'
 |[],_,_,_=>by simp[Kg,Dm,gM]
 |_::_,[],[],_=>rfl
 |k::ae,p::os,p'::os',h=>by
  simp only[aC,List.cons.injEq]at h;have:=aa1 ae os os' h.2;simp only[gM]at this;simp only[Kg,Dm,gM,aC,h.1,this]
 |_::_,[],_::_,h=>by simp at h
 |_::_,_::_,[],h=>by simp at h
theorem Nt:∀{ae:List Nat}{os:List (Option (br X))}{p:Nat×Option (br X)},p∈Kg ae os->p.1∈ae
 |[],_,_,h=>by simp[Kg]at h
 |_::_,[],_,h=>by simp[Kg]at h
 |k::ae,q::os,p,h=>by
  simp only[Kg,aN]at h;rcases h with rfl |h
  ·simp
  ·exact dS _ (Nt h)
def Wa(get:Nat->Option (br X))(d:DV X)(c:CT X.ι):Option (List (CT.T X.toSE c)×Nat×List Bool):=
 match d with
 | .own k 0 len=>(get k).bind λo=>match o with
  | .dc b l=>(gD (.sl b) (.sl c) l).bind λ(l:List (CT.T X.toSE c))=>some (l,k,[bk len (List.length l)])
  |_=>none
 |_=>none
def Xr(get:Nat->Option (br X))(d:DV X)(c:CT X.ι):Option (CT.T X.toSE c×Nat):=
 match d with
 | .ptr k 0 0=>(get k).bind λo=>match o with
  | .cells sz [row]=>if sz=CT.sz X c then(OT c row).bind λx=>some (x,k)else none
  |_=>none
 |_=>none
def pM(Γ:FuncId->Option (bz X))(get:Nat->Option (br X)):List (DV X)->(l:List (AT X.ι))->Option (jg X l×List Nat×List Bool)
 |[],[]=>some ((),[],[])
 |d::ds,.mut c::l=>(Wa get d c).bind λx=>(pM Γ get ds l).bind λh=>some ((x.1,h.1),x.2.1::h.2.1,x.2.2++h.2.2)
 |d::ds,.fp c::l=>(Xr get d c).bind λx=>(pM Γ get ds l).bind λh=>some ((x.1,h.1),x.2::h.2.1,h.2.2)
 |d::ds,.d c::l=>(Tz Γ get 3 [d] [.d c]).bind λx=>(pM Γ get ds l).bind λh=>some ((x.1.1,h.1),h.2.1,x.2++h.2.2)
 |d::ds,.ref c::l=>(Tz Γ get 3 [d] [.ref c]).bind λx=>(pM Γ get ds l).bind λh=>some ((x.1.1,h.1),h.2.1,x.2++h.2.2)
 |d::ds,.cT as r::l=>(Tz Γ get 3 [d] [.cT as r]).bind λx=>(pM Γ get ds l).bind λh=>some ((x.1.1,h.1),h.2.1,x.2++h.2.2)
 |d::ds,.nil::l=>match d with
  | .nil=>(pM Γ get ds l).bind λh=>some (((),h.1),h.2.1,h.2.2)
  |_=>none
 |_,_=>none
def LG:List (DV X)->List (AT X.ι)->List Nat
 |d::ds,a::l=>(if a.im then []else bm d)++LG ds l
 |_,_=>[]
def Ru(get:Nat->Option (br X)):List (DV X)->(l:List (CT X.ι))->Option (HL X.toSE l×List Bool)
 |[],[]=>some ((),[])
 |d::ds,c::l=>(IC get d c).bind λx=>(Ru get ds l).bind λh=>some ((x.1,h.1),x.2++h.2)
 |_,_=>none
variable (Γ:FuncId->Option (bz X))
def T1(i:Nat)(f:DV X)(args:List (DV X))(get:Nat->Option (br X))(k:KK X A):Option A:=
 match f with
 | .fn F first caps=>(Γ F).bind λs=>match s.gen.filter λg=>(rk get g.pn (first++args++caps) ⟨[],[],[],[]⟩).isSome with
  |some g=>T4 g i (first++args++caps) get k
  |none=>if (s.args.all (λ q=>q.pl)&&s.res.all (λ q=>!q.out))=true then(Tz Γ get 3 (first++args++caps) s.args).bind λa=>WR a.2 ((s.fn a.1).bind λx=>(DO i [] s.res x).bind λp=>
   if s.res.all Xn then k p.1 p.2 (aS (first++args++caps)) []
   else k p.1 (p.2++OZ (aS (first++args++caps))) (aS (first++args++caps)) (aS (first++args++caps)))
  else(pM Γ get (first++args++caps) s.args).bind λa=>WR a.2.2 ((s.fn a.1).bind λx=>(DO i a.2.1 s.res x).bind λp=>
   if (decide a.2.1.Nodup&&(LG (first++args++caps) s.args).all (λ j=>!a.2.1.contains j)&&decide ((Xq s.res x).length=a.2.1.length))=true then
    if s.res.all Xn then k p.1 (p.2++Kg a.2.1 (Xq s.res x)) (aS (first++args++caps)) a.2.1
    else k p.1 (p.2++(Kg a.2.1 (Xq s.res x)++OZ ((aS (first++args++caps)).filter λj=>!a.2.1.contains j))) (aS (first++args++caps)) (a.2.1++(aS (first++args++caps)).filter λj=>!a.2.1.contains j)
   else none)
 | .cT as q φ=>(Ru get args as).bind λh=>WR h.2 ((φ h.1).bind λy=>
  if ze q then k (.c q y) [] (aS args) []else k (.c q y) (OZ (aS args)) (aS args) (aS args))
 |_=>none
def B8(fz:List Nat)(T:dy)(ao:TypeId->Option (CT X.ι))(i:Nat)(o:Op)(ρ:Operand->DV X)(get:Nat->Option (br X))(k:KK X A):Option A:=
 match o with
 | .call { callee:= .value f,args:=args,argTypes:=_ }=>T1 Γ i (ρ f) (args.toList.map ρ) get k
 |o=>if aoc o ρ then Sx T ao i o ρ get k else if aod o ρ || fz.contains i then Th T ao i o ρ get k else if aof o ρ then S8 T i o ρ get k else if aoe T o ρ then Tb T ao o ρ get k else IH T ao i o ρ get k
variable {Γ}
theorem O4{P:Program}{get:Nat->Option (br X)}{rd:List Nat}:∀{ds:List (DV X)}{l:List (CT X.ι)}{h:HL X.toSE l×List Bool},Ru get ds l=some h->(∀ b∈h.2,b=true)->(∀ j∈aS ds,j∈rd)->
 ∃hs obs,(∀ p∈obs,p)/\∀ag,nO P (dG rd (fD get)) (bK ds) (hs++ag)=some ((HL.nq X.toSE l h.1).map TV.av,ag,obs)
 |[],[],h,_,_,_=>⟨[],[],by simp,λag=>rfl⟩
 |d::ds,c::l,h,hr,hc,hrd=>by
  simp only[Ru]at hr;have⟨x,h1,hr⟩:=ai.1 hr;have⟨g,h2,hr⟩:=ai.1 hr;cases hr;obtain⟨hs1,o1,p1,q1⟩:=Cy (P:=P) (rd:=rd) h1 (λ b hb=>hc b (by simp[hb])) (λ j hj=>hrd j (by simp[aS,hj]));obtain⟨hs2,o2,p2,q2⟩:=O4 (P:=P) (rd:=rd) h2 (λ b hb=>hc b (by simp[hb])) (λ j hj=>hrd j (by simp[aS,hj]));refine⟨hs1++hs2,o1++o2,gX p1 p2,λag=>?_⟩;simp only[bK,nO,aK,q1,ah,q2];rfl
 |[],_::_,_,hr,_,_=>by simp[Ru]at hr
 |_::_,[],_,hr,_,_=>by simp[Ru]at hr
theorem Xt{i:Nat}{ae ns:List Nat}{q:RT X.ι}{x:RT.T X q}:∀p∈(Ke i ae ns q x).2,p.1=cy i:=by cases q<;>simp[Ke]
theorem Xu{i:Nat}{ae ns:List Nat}:∀{l:List (RT X.ι)}{x:ul X l}{p:List (DV X)×List (Nat×Option (br X))},M6 i ae ns l x=some p->∀q∈p.2,q.1=cy i
 |[],_,p,h=>by simp only[M6,aA]at h;subst h;simp
 |[q],x,p,h=>by simp only[M6,aA]at h;subst h;exact Xt
 |q::q'::l,x,p,h=>by
  simp only[M6]at h;have⟨p',h1,h⟩:=ai.1 h;split at h
  ·cases h;intro z hz;rcases aX.1 hz with hz |hz
   ·exact Xt z hz
   ·exact Xu h1 z hz
  ·cases h
theorem aa2{i:Nat}{ae:List Nat}{l:List (RT X.ι)}{x:ul X l}{p:DV X×List (Nat×Option (br X))}(h:DO i ae l x=some p):∀q∈p.2,q.1=cy i:=by
 unfold DO at h;have⟨p',h1,h⟩:=ai.1 h;cases h;exact Xu h1
theorem Kh{P:Program}{get:Nat->Option aU}{x:AV}{hs ag:List LH}{y:AV}{o:List Prop}(h:nO P get [x] hs=some ([y],ag,o)):pG P get x hs=some (y,ag,o):=by
 simp only[nO,ah,append_nil,ai,aA,Prod.mk.injEq,List.cons.injEq,and_true]at h;obtain⟨q,h1,h2,h3,h4⟩:=h;rw[h1,<- h2,<- h3,<- h4]
theorem lU{d:DV X}{ds:List (DV X)}{a:AT X.ι}{l:List (AT X.ι)}{P:Nat->Prop}(h:∀j∈LG (d::ds) (a::l),P j):(a.im=false->∀j∈bm d,P j)/\∀j∈LG ds l,P j:=by
 simp only[LG,aX]at h;exact⟨λ e j hj=>h j (.inl (by rw[e];simpa using hj)),λj hj=>h j (.inr hj)⟩
theorem anE{c:CT X.ι}{l:List (CT.T X.toSE c)}:dV ((aL (l.map (CT.row X.toSE c))).take (l.map (CT.row X.toSE c)).length)=aL (l.map (CT.row X.toSE c)):=by
 rw[List.take_of_length_le (by simp[aL])];simp only[dV,aL,map_map];exact map_congr_left λy _=>by
  simp only[Function.comp,map_map];exact map_congr_left λz _=>rfl
theorem ZP{get:Nat->Option (br X)}{d:DV X}{c:CT X.ι}{x:List (CT.T X.toSE c)×Nat×List Bool}(h:Wa get d c=some x)(hc:∀b∈x.2.2,b=true):
 d= .own x.2.1 0 (List.length x.1)/\∃o,get x.2.1=some o/\(bG o).sz=(sM c x.1).1/\dV ((bG o).rows.take (sM c x.1).2.length)=aL (sM c x.1).2:=by
 unfold Wa at h;split at h
 ·rename_i k len;rw[ai]at h;obtain⟨o,h1,h⟩:=h;split at h
  ·rename_i b l;rw[ai]at h;obtain⟨l',h2,h⟩:=h;cases h;have⟨h3,h4⟩:=jo h2;have h5:len=List.length l':=(by simpa[bk]using hc (bk len (List.length l')) (by simp));refine⟨by rw[h5],.dc b l,h1,by simp only[bG,sM];exact h3,?_⟩;simp only[bG,sM,h4];exact anE
  ·cases h
 ·cases h
theorem Xv{get:Nat->Option (br X)}{d:DV X}{c:CT X.ι}{x:CT.T X.toSE c×Nat}(h:Xr get d c=some x):
 d= .ptr x.2 0 0/\∃o,get x.2=some o/\(bG o).sz=(sM c [x.1]).1/\dV ((bG o).rows.take (sM c [x.1]).2.length)=aL (sM c [x.1]).2:=by
 unfold Xr at h;split at h
 ·rename_i k;rw[ai]at h;obtain⟨o,h1,h⟩:=h;split at h
  ·rename_i sz row;split at h
   ·rename_i hsz;have⟨y,h2,h⟩:=ai.1 h;cases h;refine⟨rfl,_,h1,by simp only[bG,sM];exact hsz,?_⟩;simp only[bG,sM,aC,map_nil,List.length_singleton,List.take_succ_cons,List.take_zero,dV,aL];rw[Aa h2]
   ·cases h
  ·cases h
 ·cases h
theorem nV{P:Program}{Γ:FuncId->Option (bz X)}(hΓ:rL P Γ){get:Nat->Option (br X)}{rd ae:List Nat}:∀{n:Nat}{ds:List (DV X)}{l:List (AT X.ι)}{a:jg X l×List Nat×List Bool},pM Γ get ds l=some a->(∀ b∈a.2.2,b=true)->(∀ j∈aS ds,j∈rd)->(∀ j∈LG ds l,j∉ae)->ae.drop n=a.2.1->
 (∃ hs obs,(∀ p∈obs,p)/\∀ag,nG P (dG rd (fD get)) ae (bK ds) (hs++ag)=some (dQ n l a.1,ag,obs))/\∃mo,Dl (dG rd (fD get)) a.2.1 (qN l a.1)=some mo/\∀p∈mo,p
 |n,[],[],a,h,_,_,_,_=>by
  simp only[pM,aA]at h;subst h;exact⟨⟨[],[],by simp,λag=>rfl⟩,[],rfl,by simp⟩
 |n,d::ds,.mut c::l,a,h,hc,hrd,hnr,hid=>by
  simp only[pM]at h;have⟨x,h1,h⟩:=ai.1 h;have⟨q,h2,h⟩:=ai.1 h;cases h;obtain⟨rfl,o,g1,g2,g3⟩:=ZP h1 (λ b hb=>hc b (by simp[hb]));have zE:ae[n]? =some x.2.1:=by rw[<- List.head?_drop,hid];rfl
  have z6:ae.drop (n+1)=q.2.1:=by rw[<- List.tail_drop,hid];rfl
  obtain⟨⟨hs,obs,p1,p2⟩,mo,m1,m2⟩:=nV hΓ (n:=n+1) h2 (λ b hb=>hc b (by simp[hb])) (λ j hj=>hrd j (by simp[aS,hj])) (lU hnr).2 z6;refine⟨⟨.mut n::hs,obs,p1,λag=>?_⟩,((bG o).sz=(sM c x.1).1/\dV ((bG o).rows.take (sM c x.1).2.length)=aL (sM c x.1).2)::mo,?_,?_⟩
  ·simp only[bK,den,nG,cons_append,sJ,zE,if_true,ah,p2,dQ,bO]
  ·simp only[qN,Dl,dO (hrd x.2.1 (by simp[aS,bm])) g1,ah,m1]
  ·intro p hp;rcases aN.1 hp with rfl |hp
   ·exact⟨g2,g3⟩
   ·exact m2 p hp
 |n,d::ds,.fp c::l,a,h,hc,hrd,hnr,hid=>by
  simp only[pM]at h;have⟨x,h1,h⟩:=ai.1 h;have⟨q,h2,h⟩:=ai.1 h;cases h;obtain⟨rfl,o,g1,g2,g3⟩:=Xv h1;have zE:ae[n]? =some x.2:=by rw[<- List.head?_drop,hid];rfl
  have z6:ae.drop (n+1)=q.2.1:=by rw[<- List.tail_drop,hid];rfl
  obtain⟨⟨hs,obs,p1,p2⟩,mo,m1,m2⟩:=nV hΓ (n:=n+1) h2 (λ b hb=>hc b (by simp[hb])) (λ j hj=>hrd j (by simp[aS,hj])) (lU hnr).2 z6;refine⟨⟨.mut n::hs,obs,p1,λag=>?_⟩,((bG o).sz=(sM c [x.1]).1/\dV ((bG o).rows.take (sM c [x.1]).2.length)=aL (sM c [x.1]).2)::mo,?_,?_⟩
  ·simp only[bK,den,nG,cons_append,sJ,zE,if_true,ah,p2,dQ,bO]
  ·simp only[qN,Dl,dO (hrd x.2 (by simp[aS,bm])) g1,ah,m1]
  ·intro p hp;rcases aN.1 hp with rfl |hp
   ·exact⟨g2,g3⟩
   ·exact m2 p hp
 |n,d::ds,.d c::l,a,h,hc,hrd,hnr,hid=>by
  simp only[pM]at h;have⟨x,h1,h⟩:=ai.1 h;have⟨q,h2,h⟩:=ai.1 h;cases h;obtain⟨hs1,o1,p1,q1⟩:=tF (P:=P) hΓ 3 (n:=n) h1 (λ b hb=>hc b (by simp[hb])) (rd:=rd) (λ j hj=>hrd j (by simp only[aS,append_nil]at hj;simp[aS,hj]));obtain⟨⟨hs,obs,p2,q2⟩,mo,m1,m2⟩:=nV hΓ (n:=n) h2 (λ b hb=>hc b (by simp[hb])) (λ j hj=>hrd j (by simp[aS,hj])) (lU hnr).2 hid;refine⟨⟨ZO (den d) hs1++hs,o1++obs,gX p1 p2,λag=>?_⟩,mo,m1,m2⟩;have:=Ab (Kh (q1 (hs++ag))) (λ k hk=>(lU hnr).1 rfl k (by rwa [iV]at hk));rw[O1]at this;simp only[bK,nG,aK,this,ah,q2,dQ]
 |n,d::ds,.ref c::l,a,h,hc,hrd,hnr,hid=>by
  simp only[pM]at h;have⟨x,h1,h⟩:=ai.1 h;have⟨q,h2,h⟩:=ai.1 h;cases h;obtain⟨hs1,o1,p1,q1⟩:=tF (P:=P) hΓ 3 (n:=n) h1 (λ b hb=>hc b (by simp[hb])) (rd:=rd) (λ j hj=>hrd j (by simp only[aS,append_nil]at hj;simp[aS,hj]));obtain⟨⟨hs,obs,p2,q2⟩,mo,m1,m2⟩:=nV hΓ (n:=n) h2 (λ b hb=>hc b (by simp[hb])) (λ j hj=>hrd j (by simp[aS,hj])) (lU hnr).2 hid;refine⟨⟨ZO (den d) hs1++hs,o1++obs,gX p1 p2,λag=>?_⟩,mo,m1,m2⟩;have:=Ab (Kh (q1 (hs++ag))) (λ k hk=>(lU hnr).1 rfl k (by rwa [iV]at hk));rw[O1]at this;simp only[bK,nG,aK,this,ah,q2,dQ]
 |n,d::ds,.cT as r::l,a,h,hc,hrd,hnr,hid=>by
  simp only[pM]at h;have⟨x,h1,h⟩:=ai.1 h;have⟨q,h2,h⟩:=ai.1 h;cases h;obtain⟨hs1,o1,p1,q1⟩:=tF (P:=P) hΓ 3 (n:=n) h1 (λ b hb=>hc b (by simp[hb])) (rd:=rd) (λ j hj=>hrd j (by simp only[aS,append_nil]at hj;simp[aS,hj]));obtain⟨⟨hs,obs,p2,q2⟩,mo,m1,m2⟩:=nV hΓ (n:=n) h2 (λ b hb=>hc b (by simp[hb])) (λ j hj=>hrd j (by simp[aS,hj])) (lU hnr).2 hid;refine⟨⟨ZO (den d) hs1++hs,o1++obs,gX p1 p2,λag=>?_⟩,mo,m1,m2⟩;have:=Ab (Kh (q1 (hs++ag))) (λ k hk=>(lU hnr).1 rfl k (by rwa [iV]at hk));rw[O1]at this;simp only[bK,nG,aK,this,ah,q2,dQ]
 |n,d::ds,.nil::l,a,h,hc,hrd,hnr,hid=>by
  simp only[pM]at h;split at h
  ·have⟨q,h2,h⟩:=ai.1 h;cases h;obtain⟨⟨hs,obs,p2,q2⟩,mo,m1,m2⟩:=nV hΓ (n:=n) h2 hc (λ j hj=>hrd j (by simp[aS,hj])) (lU hnr).2 hid;refine⟨⟨.nil::hs,obs,p2,λag=>?_⟩,mo,m1,m2⟩;have:=Ab (P:=P) (get':=dG rd (fD get)) (ae:=ae) (x:= .cM) (hs:= .nil::(hs++ag)) (p:=(.cM,hs++ag,[])) rfl (λ k hk=>by simp[refs]at hk);simp only[ZO]at this;simp only[bK,den,nG,cons_append,this,ah,q2,dQ,bO]
  ·cases h
 |_,[],_::_,_,h,_,_,_,_=>by simp[pM]at h
 |_,_::_,[],_,h,_,_,_,_=>by simp[pM]at h
theorem aeb{P:Program}(hΓ:rL P Γ){i:Nat}{f:DV X}{args:List (DV X)}{get:Nat->Option (br X)}{k:KK X A}{r:A}(h:T1 Γ i f args get k=some r):
 ∃cw rd wr dv upd ab,kF P i (den f) (bK args) cw (dG rd (fD get))=some ab/\j5 ab.obs/\ab.v=den dv/\ab.upd=gM upd/\(∀ p∈upd,p.1=cy i\/p.1∈wr)/\k dv upd rd wr=some r:=by
 unfold T1 at h;split at h
 ·rename_i F first caps
  rw[ai]at h;obtain⟨s,h1,h⟩:=h;split at h
  ·rename_i g hgen;exact acn ((hΓ F s h1).2.2 g (Option.filter_eq_some_iff.1 hgen).1) h
  split at h
  ·rename_i hpure;rw[ai]at h;obtain⟨⟨a,cs⟩,h2,h⟩:=h;have⟨hcs,h⟩:=qd h;rw[ai]at h;obtain⟨x,h3,h⟩:=h;rw[ai]at h;obtain⟨p,h4,h⟩:=h;have hf0:=(hΓ F s h1).2.1 a x h3;simp only[aJ]at hpure;rw[Au (an8 hpure.1),adV hpure.2]at hf0;have hf:=WJ hf0;have hi:=ad9 h4;have hk:=aa2 h4;obtain⟨hs,obs,g1,g2⟩:=tF (P:=P) hΓ 3 h2 hcs (rd:=aS (first++args++caps)) (λ j hj=>hj);have g3:=g2 [];rw[append_nil,iG,iG]at g3;have hrefs:eH (bK first++bK args++bK caps)=aS (first++args++caps):=(by rw[<- iG,<- iG,iA]);split at h
   ·rename_i hfl;refine⟨.call hs (uq s.res x) true,_,[],p.1,p.2,⟨den p.1,gM p.2,obs++[sB P F (Ar s.args a) (uq s.res x),(uq s.res x).flat]⟩,?_,?_,rfl,rfl,λq hq=> .inl (hk q hq),h⟩
    ·simp only[den,kF,pK,zh,hi,ah,g3];rfl
    ·exact rW _ (gX g1 (by
      intro q hq;simp only[aN,jB,or_false]at hq;rcases hq with rfl |rfl
      ·exact hf
      ·exact Xp x hfl))
   ·refine⟨.call hs (uq s.res x) false,_,_,p.1,_,⟨den p.1,gM p.2++(aS (first++args++caps)).map (λ k=>(k,none)),obs++[sB P F (Ar s.args a) (uq s.res x)]⟩,?_,?_,rfl,?_,?_,h⟩
    ·simp only[den,kF,pK,zh,hi,ah,g3,hrefs];rfl
    ·exact rW _ (gX g1 (by
      intro q hq;simp only[aY]at hq;subst hq;exact hf))
    ·simp only[tH,Fb]
    ·intro q hq;rcases aX.1 hq with hq |hq
     ·exact .inl (hk q hq)
     ·exact .inr (LC hq)
  ·rename_i hpure;rw[ai]at h;obtain⟨⟨a,ae,cs⟩,h2,h⟩:=h;have⟨hcs,h⟩:=qd h;rw[ai]at h;obtain⟨x,h3,h⟩:=h;rw[ai]at h;obtain⟨p,h4,h⟩:=h;split at h
   ·rename_i hc;simp only[aJ,aT]at hc;obtain⟨⟨hnd,hnr⟩,hlen⟩:=hc;have hf:=(hΓ F s h1).2.1 a x h3;have hi:=ad9 h4;have hk:=aa2 h4;obtain⟨⟨hs,obs,g1,g2⟩,mo,m1,m2⟩:=nV (P:=P) hΓ (rd:=aS (first++args++caps)) (ae:=ae) (n:=0) h2 hcs (λ j hj=>hj) (λ j hj=>by simpa using all_eq_true.1 hnr j hj) rfl;have g3:=g2 [];rw[append_nil,iG,iG]at g3;have hrefs:eH (bK first++bK args++bK caps)=aS (first++args++caps):=(by rw[<- iG,<- iG,iA]);have hlen':(oD s.res x).length=ae.length:=by
     rw[<- hlen];simpa using (congrArg List.length (Rt s.res x)).symm
    have hout:gM (Kg ae (Xq s.res x))=Dm ae (oD s.res x):=aa1 _ _ _ (Rt s.res x);split at h
    ·rename_i hfl;refine⟨.s7 ae (qN s.args a) (oD s.res x) hs (uq s.res x) true,_,ae,p.1,_,⟨den p.1,gM p.2++Dm ae (oD s.res x),obs++mo++[rN P F (Ar s.args a) (qN s.args a) (oD s.res x) (uq s.res x),(uq s.res x).flat,Wl (oD s.res x)]⟩,?_,?_,rfl,?_,?_,h⟩
     ·simp only[den,kF,pK,JX,hi,ah,m1,g3];rw[aP ⟨hnd,hlen'⟩];rfl
     ·refine rW _ (gX (gX g1 m2) ?_);intro q hq;simp only[aN,jB,or_false]at hq;rcases hq with rfl |rfl |rfl
      ·exact hf
      ·exact Xp x hfl
      ·exact aaY hfl
     ·simp only[tH,hout]
     ·intro q hq;rcases aX.1 hq with hq |hq
      ·exact .inl (hk q hq)
      ·exact .inr (Nt hq)
    ·refine⟨.s7 ae (qN s.args a) (oD s.res x) hs (uq s.res x) false,_,_,p.1,_,⟨den p.1,gM p.2++(Dm ae (oD s.res x)++((aS (first++args++caps)).filter λj=>!ae.contains j).map (λ k=>(k,none))),obs++mo++[rN P F (Ar s.args a) (qN s.args a) (oD s.res x) (uq s.res x)]⟩,?_,?_,rfl,?_,?_,h⟩
     ·simp only[den,kF,pK,JX,hi,ah,m1,g3,JW,hrefs];rw[aP ⟨hnd,hlen'⟩];rfl
     ·refine rW _ (gX (gX g1 m2) ?_);intro q hq;simp only[aY]at hq;subst hq;exact hf
     ·simp only[tH,hout,Fb]
     ·intro q hq;rcases aX.1 hq with hq |hq
      ·exact .inl (hk q hq)
      ·rcases aX.1 hq with hq |hq
       ·exact .inr (List.mem_append_left _ (Nt hq))
       ·exact .inr (mem_append_right _ (LC hq))
   ·cases h
 ·rename_i as q φ;rw[ai]at h;obtain⟨⟨hh,cs⟩,h1,h⟩:=h;have⟨hcs,h⟩:=qd h;rw[ai]at h;obtain⟨y,h2,h⟩:=h;obtain⟨hs,obs,g1,g2⟩:=O4 (P:=P) h1 hcs (rd:=aS args) (λ j hj=>hj);have g3:=g2 [];rw[append_nil]at g3;have hφ:∃h' x',φ h'=some x'/\HL.nq X.toSE as hh=HL.nq X.toSE as h'/\CT.tv X.toSE q y=CT.tv X.toSE q x':=⟨hh,y,h2,rfl,rfl⟩;split at h
  ·rename_i hfl;refine⟨.Bs hs (HL.nq X.toSE as hh) (CT.tv X.toSE q y) true,_,[],.c q y,[],⟨(CT.tv X.toSE q y).av,[],obs++[(HL.nq X.toSE as hh).map TV.av=(HL.nq X.toSE as hh).map TV.av,(∃ h' x',φ h'=some x'/\HL.nq X.toSE as hh=HL.nq X.toSE as h'/\CT.tv X.toSE q y=CT.tv X.toSE q x'),(CT.tv X.toSE q y).flat]⟩,?_,?_,rfl,rfl,by simp,h⟩
   ·simp only[den,kF,pK,zh,g3,ah];rfl
   ·exact rW _ (gX g1 (by
     intro z hz;simp only[aN,jB,or_false]at hz;rcases hz with rfl |rfl |rfl
     ·trivial
     ·exact hφ
     ·exact ad7 hfl y))
  ·refine⟨.Bs hs (HL.nq X.toSE as hh) (CT.tv X.toSE q y) false,_,_,.c q y,_,⟨(CT.tv X.toSE q y).av,(aS args).map (λ k=>(k,none)),obs++[(HL.nq X.toSE as hh).map TV.av=(HL.nq X.toSE as hh).map TV.av,(∃ h' x',φ h'=some x'/\HL.nq X.toSE as hh=HL.nq X.toSE as h'/\CT.tv X.toSE q y=CT.tv X.toSE q x')]⟩,?_,?_,rfl,(Fb _).symm,λz hz=> .inr (LC hz),h⟩
   ·simp only[den,kF,pK,zh,g3,ah,iA];rfl
   ·exact rW _ (gX g1 (by
     intro z hz;simp only[aN,jB,or_false]at hz;rcases hz with rfl |rfl
     ·trivial
     ·exact hφ))
 ·cases h
theorem agC{P:Program}(hΓ:rL P Γ){fz:List Nat}{T:dy}{ao:TypeId->Option (CT X.ι)}{i:Nat}{o:Oper}{ρ:Operand->DV X}{get:Nat->Option (br X)}{k:KK X A}{r:A}(h:B8 Γ fz T ao i o.op ρ get k=some r):cN P T i o ρ get k r:=by
 obtain⟨dst,op,ty,aw,after,guard⟩:=o;unfold B8 at h;simp only at h;split at h
 ·rename_i f args cV;have:=aeb hΓ h;simp only[<- Vu]at this;obtain⟨cw,rd,wr,dv,upd,ab,g1,g2⟩:=this;exact .call g1 g2
 ·split at h
  ·exact agt (o:=⟨dst,op,ty,aw,after,guard⟩) h
  ·split at h
   ·exact agu (o:=⟨dst,op,ty,aw,after,guard⟩) h
   ·split at h
    ·exact agx (o:=⟨dst,op,ty,aw,after,guard⟩) h
    split at h
    ·exact agv (o:=⟨dst,op,ty,aw,after,guard⟩) h
    ·rename_i hne _ _ _ _;have⟨cw,rd,wr,dv,upd,ab,g1,g2⟩:=aaP (o:=⟨dst,op,ty,aw,after,guard⟩) h;exact cN.op (λ f args cV e=>hne f args cV e) g1 g2
end
def k7(x y:AV):Prop:=∀P β w I v,VR P β w I x v->VR P β w I y v
theorem k7.refl(x:AV):k7 x x:=λ_ _ _ _ _ h=>h
theorem k7.undef(x:AV):k7 x .undef:=λ_ _ _ _ _ _=>by simp[VR]
theorem k7.wk(x:AV):k7 x (wk x):=λ_ _ _ _ _ h=>h.wk
section
variable {P:Program} {w0:World} {O0:jz} {N:Nat} {β:Nat->Option cE} {I:Nat->Prop} {a:Act} {w:World} {f g:Nat->Nat} {D:Nat->Prop}
mutual
theorem VR.rn(hgf:∀k,D k->g (f k)=k):∀(x:AV)(v:Value),(∀ k∈refs x,D k)->VR P β w I x v->VR P (λ j=>β (g j)) w I (eW f x) v
 | .own k aa len,v,hd,h=>by simp only[eW,VR,hgf k (hd k (by simp[refs]))]at h ⊢;exact h
 | .ptr k row aa,v,hd,h=>by simp only[eW,VR,hgf k (hd k (by simp[refs]))]at h ⊢;exact h
 | .agg cs,v,hd,h=>by
  simp only[eW,VR]at h ⊢;obtain⟨vs,h1,h2⟩:=h;exact⟨vs,h1,bj.rn hgf cs _ (by simpa[refs]using hd) h2⟩
 | .fi cs,v,hd,h=>by
  simp only[eW,VR]at h ⊢;obtain⟨vs,h1,h2⟩:=h;exact⟨vs,h1,bj.rn hgf cs _ (by simpa[refs]using hd) h2⟩
 | .fn F first caps,v,hd,h=>by
  simp only[eW,VR]at h ⊢;obtain⟨fs,cs,h1,h2,h3⟩:=h;exact⟨fs,cs,h1,bj.rn hgf first _ (λ k hk=>hd k (by simp[refs,hk])) h2,bj.rn hgf caps _ (λ k hk=>hd k (by simp[refs,hk])) h3⟩
 | .t x,v,_,h=>by simpa[eW,VR]using h
 | .eo r o,v,_,h=>by simpa[eW,VR]using h
 | .cT φ,v,_,h=>by simpa[eW,VR]using h
 | .mp k,v,hd,h=>by simp only[eW,VR,hgf k (hd k (by simp[refs]))]at h ⊢;exact h
 | .oz k len,v,hd,h=>by simp only[eW,VR,hgf k (hd k (by simp[refs]))]at h ⊢;exact h
 | .cM,v,_,h=>by simpa[eW,VR]using h
 | .ub,v,_,h=>by simpa[eW,VR]using h
 | .undef,v,_,h=>by simp[eW,VR]
theorem bj.rn(hgf:∀k,D k->g (f k)=k):∀(xs:List AV)(vs:List Value),(∀ k∈eH xs,D k)->bj P β w I xs vs->bj P (λ j=>β (g j)) w I (zi f xs) vs
 |[],[],_,_=>by simp[zi,bj]
 |x::xs,v::vs,hd,h=>by
  simp only[bj]at h;simp only[zi,bj];exact⟨VR.rn hgf x v (λ k hk=>hd k (by simp[eH,hk])) h.1,bj.rn hgf xs vs (λ k hk=>hd k (by simp[eH,hk])) h.2⟩
 |[],_::_,_,h=>by simp[bj]at h
 |_::_,[],_,h=>by simp[bj]at h
end
def mz(D:Nat->Prop)(f:Nat->Nat):List AV->List AV->Prop
 |[],[]=>True
 |x::xs,y::ys=>((∀ k∈refs x,D k)/\k7 (eW f x) y)/\mz D f xs ys
 |_,_=>False
def gO(D:Nat->Prop)(f:Nat->Nat):List (List AV)->List (List AV)->Prop
 |[],[]=>True
 |r::rs,q::qs=>mz D f r q/\gO D f rs qs
 |_,_=>False
theorem mz.length:∀{r q:List AV},mz D f r q->q.length=r.length
 |[],[],_=>rfl
 |_::xs,_::ys,h=>by simp[mz.length h.2]
 |[],_::_,h=>h.elim
 |_::_,[],h=>h.elim
theorem cP.re(hgf:∀k,D k->g (f k)=k):∀{r q:List AV}{c:Array Value}{aa:Nat},mz D f r q->cP P β w I r c aa->cP P (λ j=>β (g j)) w I q c aa
 |[],[],_,_,_,_=>trivial
 |x::xs,y::ys,c,aa,hr,⟨⟨v,h1,h2,h3⟩,h4⟩=>⟨⟨v,h1,hr.1.2 _ _ _ _ _ (VR.rn hgf x v hr.1.1 h2),h3⟩,cP.re hgf hr.2 h4⟩
 |[],_::_,_,_,h,_=>h.elim
 |_::_,[],_,_,h,_=>h.elim
theorem bp.re(hgf:∀k,D k->g (f k)=k):∀{rs qs:List (List AV)}{c:Array Value}{aa sz:Nat},gO D f rs qs->bp P β w I rs c aa sz->bp P (λ j=>β (g j)) w I qs c aa sz
 |[],[],_,_,_,_,_=>trivial
 |r::rs,q::qs,c,aa,sz,hr,⟨h1,h2,h3⟩=>⟨by rw[hr.1.length];exact h1,cP.re hgf hr.1 h2,bp.re hgf hr.2 h3⟩
 |[],_::_,_,_,_,h,_=>h.elim
 |_::_,[],_,_,_,h,_=>h.elim
theorem bj.re(hgf:∀k,D k->g (f k)=k):∀{r q:List AV}{vs:List Value},mz D f r q->bj P β w I r vs->bj P (λ j=>β (g j)) w I q vs
 |[],[],[],_,_=>by simp[bj]
 |x::xs,y::ys,v::vs,hr,h=>by
  simp only[bj]at h ⊢;exact⟨hr.1.2 _ _ _ _ _ (VR.rn hgf x v hr.1.1 h.1),bj.re hgf hr.2 h.2⟩
 |[],_::_,_,h,_=>h.elim
 |_::_,[],_,h,_=>h.elim
 |[],[],_::_,_,h=>by simp[bj]at h
 |_::_,_::_,[],_,h=>by simp[bj]at h
theorem cA.re(hgf:∀k,D k->g (f k)=k):∀{rs qs:List (List AV)}{es:List MapEntry},gO D f rs qs->cA P β w I rs es->cA P (λ j=>β (g j)) w I qs es
 |[],[],[],_,_=>trivial
 |r::rs,q::qs,_::es,hr,⟨h1,h2⟩=>⟨bj.re hgf hr.1 h1,cA.re hgf hr.2 h2⟩
 |[],_::_,_,h,_=>h.elim
 |_::_,[],_,h,_=>h.elim
 |[],[],_::_,_,h=>h.elim
 |_::_,_::_,[],_,h=>h.elim
theorem gO.length:∀{rs qs:List (List AV)},gO D f rs qs->qs.length=rs.length
 |[],[],_=>rfl
 |_::xs,_::ys,h=>by simp[gO.length h.2]
 |[],_::_,h=>h.elim
 |_::_,[],h=>h.elim
theorem Rel.re{s s':St}(hgf:∀k,D k->g (f k)=k)(hg:∀j,j<1000->g j=j)(hr:Rel P w0 O0 N β I s a w)(hok:∀t,s.ok t=none\/s'.env t= .undef)(hok':∀t,s'.ok t=none)
 (hE:∀t,s'.env t= .undef\/((∀ k∈refs (s.env t),D k)/\k7 (eW f (s.env t)) (s'.env t)))
 (hO:∀j o',s'.obj j=some o'->∃k o,s.obj k=some o/\D k/\f k=j/\o'.sz=o.sz/\gO D f o.rows o'.rows):Rel P w0 O0 N (λ j=>β (g j)) I s' a w:=by
 refine⟨hr.defers,hr.size,λt=>?_,?_⟩
 ·have h1:=hr.env t;rw[hok' t];rcases hok t with hk |h
  rotate_left
  ·rw[h];simp[eM,VR]
  rw[hk]at h1;rcases hE t with h |⟨h2,h3⟩
  ·rw[h];simp[eM,VR]
  ·exact h3 _ _ _ _ _ (VR.rn hgf _ _ h2 h1)
 ·have hm:=hr.mem;constructor
  ·intro j o' hj;obtain⟨k,o,h1,h2,rfl,h4,h5⟩:=hO j o' hj;have⟨B,hB,rI⟩:=hm.cH k o h1;refine⟨B,by simp only[hgf k h2];exact hB,?_⟩;cases B with
   |none=>
    simp only[OR]at rI ⊢;rw[rI]at h5;cases ho:o'.rows with
    |nil=>rfl
    |cons=>rw[ho]at h5;exact h5.elim
   | «at» b sz n=>
    obtain⟨g1,c,e,g2,g3,g4⟩:=rI;exact⟨by rw[g1,h4],c,e,g2,g3,bp.re hgf h5 g4⟩
   |mp b=>
    obtain⟨es,cl,g1,gl,g2,g3⟩:=rI;have hl:=h5.length;exact⟨es,cl,g1,by omega,λe=>cA.re hgf h5 (g2 (by omega)),g3⟩
  ·intro j j' o o' B B' b h1 h2 h3 h4 h5 h6;obtain⟨k,q,i1,i2,rfl,_⟩:=hO j o h1;obtain⟨k',q',i1',i2',rfl,_⟩:=hO j' o' h2;simp only[hgf k i2,hgf k' i2']at h3 h4;rw[hm.gA k k' q q' B B' b i1 i1' h3 h4 h5 h6]
  ·intro j o B b h1 h2;obtain⟨k,q,i1,i2,rfl,_⟩:=hO j o h1;simp only[hgf k i2]at h2;exact hm.ownB k q B b i1 h2
  ·exact hm.lt
  ·exact hm.up
  ·exact hm.keep
  ·exact hm.le
  ·exact hm.os
  ·exact hm.tape
  ·exact hm.output
  ·intro j B hj;show β (g j)=some B;rw[hg j (O0.lt j B hj)];exact hm.anch j B hj
  ·exact hm.vars
end
section
variable {X:SX}
theorem aec{D:Nat->Prop}(f:Nat->Nat):∀r:List (DV X),(∀ k∈aS r,D k)->mz D f (bK r) (bK (Mj f r))
 |[],_=>trivial
 |x::xs,h=>⟨⟨λ k hk=>h k (by rw[iV]at hk;simp[aS,hk]),by rw[Cz];exact k7.refl _⟩,aec f xs λk hk=>h k (by simp[aS,hk])⟩
theorem LJ{D:Nat->Prop}(f:Nat->Nat)(o:br X)(h:∀k∈dE o,D k):(bG (oy f o)).sz=(bG o).sz/\gO D f (bG o).rows (bG (oy f o)).rows:=by
 cases o with
 |cells sz rows=>
  refine⟨rfl,?_⟩;simp only[bG,oy,map_map];simp only[dE]at h
  induction rows with
  |nil=>trivial
  |cons r rs ih=>
   refine⟨aec f r λk hk=>h k (by simp[hk]),ih λk hk=>h k ?_⟩;simp only[aC,flatten_cons,aX];exact .inr hk
 |dc c l=>
  refine⟨rfl,?_⟩;simp only[bG,oy];generalize l.map (CT.row X.toSE c)=rows;have hrow:∀r:List Tree,mz D f (r.map AV.t) (r.map AV.t):=by
   intro r
   induction r with
   |nil=>trivial
   |cons y ys ih=>exact⟨⟨by simp[refs],k7.refl _⟩,ih⟩
  induction rows with
  |nil=>trivial
  |cons r rs ih=>exact⟨hrow r,ih⟩
 |map kc vc l=>
  refine⟨rfl,?_⟩;simp only[bG,oy];clear h
  induction l with
  |nil=>trivial
  |cons p ps ih=>exact⟨⟨⟨by simp[GA],by rw[Xl];exact k7.refl _⟩,⟨by simp[GA],by rw[Xl];exact k7.refl _⟩,trivial⟩,ih⟩
structure Low(s:da X):Prop where
 le:s.nx<=1000000
 ge:1000<=s.nx
 env:∀t,∀k∈bm (eE s.env t),k<s.nx
 obj:∀k o,f5 s.obj k=some o->k<s.nx/\∀j∈dE o,j<s.nx
theorem Xw{o:br X}{r:List AV}{x:AV}(hr:r∈(bG o).rows)(hx:x∈r):∀j∈refs x,j∈dE o:=by
 intro j hj;cases o with
 |cells sz rows=>
  simp only[bG,mem_map]at hr;obtain⟨q,hq,rfl⟩:=hr;rw[oC,mem_map]at hx;obtain⟨d,hd,rfl⟩:=hx;simp only[dE,List.mem_flatten,mem_map];refine⟨_,⟨q,hq,rfl⟩,?_⟩;have:∀l:List (DV X),d∈l->j∈aS l:=by
   intro l
   induction l with
   |nil=>intro h;simp at h
   |cons y ys ih=>intro h;rcases aN.1 h with rfl |h
                  ·simp only[aS,aX];left;rwa [iV]at hj
                  ·simp only[aS,aX];exact .inr (ih h)
  exact this q hd
 |dc c l=>
  simp only[bG,aL,mem_map]at hr;obtain⟨q,_,rfl⟩:=hr;simp only[mem_map]at hx;obtain⟨t,_,rfl⟩:=hx;simp[refs]at hj
 |map kc vc l=>
  simp only[bG,mem_map]at hr;obtain⟨q,_,rfl⟩:=hr;simp only[aN,jB,or_false]at hx;rcases hx with rfl |rfl<;>simp[GA]at hj
theorem Low.old{s:da X}(h:Low s):sy s.st:=by
 have hle:=h.le;constructor
 ·intro t k hk;have:=h.env t k (by rw[<- iV];exact hk);omega
 ·intro k o hk;simp only[da.st,eU]at hk;obtain⟨o',h1,rfl⟩:=hk;have⟨h2,h3⟩:=h.obj k o' h1;refine⟨by omega,λr hr x hx j hj=>?_⟩;have:=h3 j (Xw hr hx j hj);omega
end
section
variable {X:SX} {A:Type}
def oT(e b:List (Nat×DV X))(t:Nat):DV X:=match lk e t with |some x=>x |none=>eE b t
def vj(o b:List (Nat×Option (br X)))(k:Nat):Option (br X):=match lk o k with |some x=>x |none=>f5 b k
def BJ(dst:Option Tmp)(dv:DV X)(e:List (Nat×DV X)):List (Nat×DV X):=match dst with |some t=>(t,dv)::e |none=>e
def Xx:DV X->DV X
 | .skip=> .undef
 |x=>x
def M7(e:List (Nat×DV X)):Operand->Bool
 | .tmp t=>match lk e t with |some .skip=>false |_=>true
 |_=>true
def TF(e b:List (Nat×DV X))(o:Op):Bool:=
 match o with
 | .pick c x y=>M7 e c&&((M7 e x&&M7 e y) || match ZH (oT e b) c with | .c .bool t=>bif t then M7 e x else M7 e y |_=>false)
 |o=>o.operands.toList.all (M7 e)
abbrev CD:=List (Nat×List Nat×List Nat)
section
variable (Γ:FuncId->Option (bz X)) (fz:List Nat) (T:dy) (ao:TypeId->Option (CT X.ι)) (am:Array Oper) (b:da X)
def Az(k:List (Nat×DV X)->List (Nat×Option (br X))->CD->Option A):List Nat->List (Nat×DV X)->List (Nat×Option (br X))->CD->Option A
 |[],e,o,nj=>k e o nj
 |i::r,e,o,nj=>(am[i]?).bind λop=>match op.guard with
  |none=>bif TF e b.env op.op then B8 Γ fz T ao i op.op (ZH (oT e b.env)) (vj o b.obj) λdv upd rd wr=>Az k r (BJ op.dst (Xx dv) e) (upd++o) ((i,rd,wr)::nj)else none
  |some (j,p)=>((am[j]?).bind (·.dst)).bind λt=>match oT e b.env t with
   | .c .bool v=>
    bif v then(bif p then(bif TF ((t,.c .bool true)::e) b.env op.op then B8 Γ fz T ao i op.op (ZH (oT ((t,.c .bool true)::e) b.env)) (vj o b.obj) λdv upd rd wr=>Az k r (BJ op.dst (Xx dv) ((t,.c .bool true)::e)) (upd++o) ((i,rd,wr)::nj)else none)
     else Az k r (BJ op.dst .skip ((t,.c .bool true)::e)) o ((i,[],[])::nj))
    else(bif p then Az k r (BJ op.dst .skip ((t,.c .bool false)::e)) o ((i,[],[])::nj)
     else(bif TF ((t,.c .bool false)::e) b.env op.op then B8 Γ fz T ao i op.op (ZH (oT ((t,.c .bool false)::e) b.env)) (vj o b.obj) λdv upd rd wr=>Az k r (BJ op.dst (Xx dv) ((t,.c .bool false)::e)) (upd++o) ((i,rd,wr)::nj)else none))
   | .skip=>bif(lk e t).isSome then Az k r (BJ op.dst .skip e) o ((i,[],[])::nj)else none
   |_=>none
end
def iF(b:da X)(e:List (Nat×DV X))(o:List (Nat×Option (br X))):St:=⟨λ t=>den (oT e b.env t),λk=>(vj o b.obj k).map bG,λt=>match lk e t with |some .skip=>some false |_=>none⟩
theorem ai2(x:DV X):den (Xx x)=den x:=by cases x<;>rfl
theorem akE(b:da X)(e:List (Nat×DV X))(o:List (Nat×Option (br X)))(dst:Option Tmp)(dv:DV X)(upd:List (Nat×Option (br X)))(obs:List Prop):
 (iF b e o).app dst (⟨den dv,gM upd,obs⟩,none)=iF b (BJ dst (Xx dv) e) (upd++o):=by
 simp only[iF,St.app,St.mk.injEq];refine⟨?_,?_,?_⟩
 ·funext t;cases dst with
  |none=>simp[Dn,BJ]
  |some d=>
   simp only[Dn,BJ,oT,lk,aA];by_cases h:d=t<;>simp[h,ai2]
 ·funext j
  induction upd with
  |nil=>rfl
  |cons p u ih=>
   obtain⟨q,x⟩:=p;simp only[gM,aC,bW,cons_append,vj,lk]at ih ⊢;by_cases h:j=q
   ·simp[h]
   ·rw[aO h,aO (Ne.symm h)];exact ih
 ·funext t;cases dst with
  |none=>simp[Dn,BJ]
  |some d=>
   simp only[Dn,BJ,lk,aA];by_cases h:d=t
   ·simp only[h,if_true];cases dv<;>rfl
   ·simp only[aO h]
theorem ai3(b:da X)(e:List (Nat×DV X))(o:List (Nat×Option (br X)))(dst:Option Tmp):(iF b e o).app dst (⟨.undef,[],[]⟩,some false)=iF b (BJ dst .skip e) o:=by
 simp only[iF,St.app,St.mk.injEq];refine⟨?_,rfl,?_⟩
 ·funext t;cases dst with
  |none=>simp[Dn,BJ]
  |some d=>
   simp only[Dn,BJ,oT,lk,aA];by_cases h:d=t<;>simp[h,den]
 ·funext t;cases dst with
  |none=>simp[Dn,BJ]
  |some d=>
   simp only[Dn,BJ,lk,aA];by_cases h:d=t<;>simp[h]
theorem aed(b:da X)(e:List (Nat×DV X))(o:List (Nat×Option (br X))):lw (iF b e o).env=λx=>den (ZH (oT e b.env) x):=by funext x;exact(WN _ x).symm
theorem Fp{b:da X}{e:List (Nat×DV X)}{o:List (Nat×Option (br X))}{x:Operand}(h:M7 e x=true):zb (iF b e o).ok x=[]:=by
 cases x with
 |tmp t=>
  simp only[M7]at h;simp only[zb,iF];cases ht:lk e t with
  |none=>rfl
  |some d=>rw[ht]at h;cases d<;>first |rfl |cases h
 |_=>rfl
theorem ai4{b:da X}{e:List (Nat×DV X)}{o:List (Nat×Option (br X))}{P:Program}{T:dy}{i:Nat}{op:Oper}{cw:i6}{get:Nat->Option aU}{ab:Out}(hok:TF e b.env op.op=true)
 (h:jK P T i op cw (lw (iF b e o).env) get=some ab):∀p∈needs (iF b e o).env (iF b e o).ok op.op,p:=by
 obtain⟨dst,op,ty,aw,after,guard⟩:=op;unfold needs;split
 ·rename_i c x y heq;simp only at heq;subst heq;simp only[TF,aJ,Bool.or_eq_true]at hok;obtain⟨hc,hxy⟩:=hok;have hb:∃t,lw (iF b e o).env c= .t (.sc (.bool t)):=by
   have h0:(∃ n,cw= .ext n)\/(∃ ae fr q,cw= .vx ae fr q)\/qH T i ⟨dst,.pick c x y,ty,aw,after,guard⟩ cw (lw (iF b e o).env) get=some ab:=(by cases cw<;>first |exact .inl ⟨_,rfl⟩ |exact .inr (.inl ⟨_,_,_,rfl⟩) |exact .inr (.inr h));rcases h0 with ⟨n,rfl⟩ |⟨ae,fr,q,rfl⟩ |h0
   ·simp[jK,qb,DG,oZ,lN]at h
   ·simp[jK,JY,V0]at h
   ·simp only[qH]at h0;split at h0
    ·rename_i t ht;exact⟨t,ht⟩
    ·cases h0
  obtain⟨t,ht⟩:=hb;rw[ht];simp only[Fp hc,bO];rcases hxy with ⟨hx,hy⟩ |hxy
  ·simp[Fp hx,Fp hy]
  ·split at hxy
   ·rename_i t' ht';have e1:lw (iF b e o).env c= .t (.sc (.bool t')):=(by rw[aed];simp only[ht'];rfl);rw[e1]at ht;injection ht with ht;injection ht with ht;injection ht with ht;subst ht;cases t' with
    |true=>
     simp only[aj]at hxy;simp[Fp hxy]
    |false=>
     simp only[ak]at hxy;simp[Fp hxy]
   ·cases hxy
 ·rename_i o' hne;intro p hp;have hall:∀x∈op.operands.toList,M7 e x=true:=by
   have:TF e b.env op=op.operands.toList.all (M7 e):=(by cases op<;>first |rfl |exact(hne _ _ _ rfl).elim);rw[this]at hok;exact all_eq_true.1 hok
  simp only[List.mem_flatMap]at hp;obtain⟨x,hx,hp⟩:=hp;rw[Fp (hall x hx)]at hp;simp at hp
theorem akF{a b:List Prop}(h:∀p∈a,p)(h':j5 b):j5 (a++b):=rW _ (gX h (OI b h'))
variable {Γ:FuncId->Option (bz X)} {fz:List Nat} {T:dy} {ao:TypeId->Option (CT X.ι)} {am:Array Oper} {b:da X} {P:Program}
theorem ai5(hΓ:rL P Γ){i:Nat}{op:Oper}{e:List (Nat×DV X)}{o:List (Nat×Option (br X))}{k:KK X A}{r:A}(hop:am[i]? =some op)(hw:want am op (iF b e o).env (iF b e o).ok=some true)(hok:TF e b.env op.op=true)
 (h:B8 Γ fz T ao i op.op (ZH (oT e b.env)) (vj o b.obj) k=some r):
 ∃(a:mj)(dv:DV X)(upd:List (Nat×Option (br X))),a.sym=false/\k dv upd a.rd a.wr=some r/\∀(cQ:Nat->mj)(K:St->Prop),cQ i=a->K (iF b (BJ op.dst (Xx dv) e) (upd++o))->vy P T am cQ i K (iF b e o):=by
 have⟨cw,rd,wr,dv,upd,ab,h1,h2,h3,h4,h5,h6⟩:=agC hΓ h;refine⟨⟨cw,rd,wr,false⟩,dv,upd,rfl,h6,λcQ K ha hK=>?_⟩;have h1':jK P T i op cw (lw (iF b e o).env) (dG rd (iF b e o).obj)=some ab:=by rw[aed];exact h1
 refine⟨op,(⟨ab.v,ab.upd,needs (iF b e o).env (iF b e o).ok op.op++ab.obs⟩,none),hop,?_,?_,?_⟩
 ·unfold opAt;simp only[hop,ah,hw,ha,h1'];rw[aP];rw[all_eq_true];intro p hp;rw[h4]at hp;simp only[gM,mem_map]at hp;obtain⟨q,hq,rfl⟩:=hp;rcases h5 q hq with h |h
  ·simp[h,Wv.2 (.inl rfl:io (cy i) (cy i))]
  ·simp[h]
 ·exact akF (ai4 hok h1') h2
 ·rw[h3,h4,akE];exact hK
theorem step_skip{i:Nat}{op:Oper}{e:List (Nat×DV X)}{o:List (Nat×Option (br X))}(hop:am[i]? =some op)(hw:want am op (iF b e o).env (iF b e o).ok=some false)
 (cQ:Nat->mj) (K:St->Prop) (ha:cQ i=⟨.none,[],[],false⟩) (hK:K (iF b (BJ op.dst .skip e) o)):vy P T am cQ i K (iF b e o):=by
 refine⟨op,(⟨.undef,[],[]⟩,some false),hop,?_,trivial,?_⟩
 ·unfold opAt;simp only[hop,ah,hw,ha]
 ·rw[ai3];exact hK
theorem agD{e:List (Nat×DV X)}{o:List (Nat×Option (br X))}{t:Nat}{v:Bool}(h:oT e b.env t= .c .bool v):iF b ((t,.c .bool v)::e) o=iF b e o:=by
 simp only[iF,St.mk.injEq,true_and];refine⟨?_,?_⟩
 ·funext s;by_cases hs:t=s
  ·subst hs;rw[h];simp[oT,lk]
  ·simp[oT,lk,hs]
 ·funext s;by_cases hs:t=s
  ·subst hs;simp only[lk,if_true];unfold oT at h;cases ht:lk e t with
   |none=>rfl
   |some d=>rw[ht]at h;simp only at h;subst h;rfl
  ·simp[lk,hs]
def Mk(tr:List (Nat×mj)):CD:=tr.map λp=>(p.1,p.2.rd,p.2.wr)
def TH(am:Array Oper)(t:Nat):Prop:=∃(j:Nat)(op:Oper),am[j]? =some op/\op.dst=some t
theorem aee{dst:Option Tmp}{dv:DV X}{e:List (Nat×DV X)}{p:Nat×DV X}(h:p∈BJ dst dv e):p∈e\/dst=some p.1:=by
 cases dst with
 |none=>exact .inl h
 |some t=>
  simp only[BJ,aN]at h;rcases h with rfl |h
  ·exact .inr rfl
  ·exact .inl h
theorem GL(hΓ:rL P Γ){k:List (Nat×DV X)->List (Nat×Option (br X))->CD->Option A}{r:A}:∀(l:List Nat)(e:List (Nat×DV X))(o:List (Nat×Option (br X)))(nj:CD),Az Γ fz T ao am b k l e o nj=some r->
 ∃(tr:List (Nat×mj))(e':List (Nat×DV X))(o':List (Nat×Option (br X))),tr.map (·.1)=l/\k e' o' ((Mk tr).reverse++nj)=some r/\(∀ p∈e',p∈e\/TH am p.1)/\
  ∀cQ:Nat->mj,(∀ p∈tr,cQ p.1=p.2)->Ur P T am cQ (λ σ=>σ=iF b e' o') l (iF b e o)
 |[],e,o,nj,h=>⟨[],e,o,rfl,h,λ_ hp=> .inl hp,λ_ _=>rfl⟩
 |i::l,e,o,nj,h=>by
  simp only[Az]at h;have⟨op,hop,h⟩:=ai.1 h
  have exec:∀e:List (Nat×DV X),want am op (iF b e o).env (iF b e o).ok=some true->
   (bif TF e b.env op.op then B8 Γ fz T ao i op.op (ZH (oT e b.env)) (vj o b.obj) λdv upd rd wr=>Az Γ fz T ao am b k l (BJ op.dst (Xx dv) e) (upd++o) ((i,rd,wr)::nj)else none)=some r->
   ∃(tr:List (Nat×mj)) (e':List (Nat×DV X)) (o':List (Nat×Option (br X))),tr.map (·.1)=i::l/\k e' o' ((Mk tr).reverse++nj)=some r/\(∀ p∈e',p∈e\/TH am p.1)/\
    ∀cQ:Nat->mj,(∀ p∈tr,cQ p.1=p.2)->Ur P T am cQ (λ σ=>σ=iF b e' o') (i::l) (iF b e o):=by
   intro e hw h;have⟨hok,h⟩:=dF h;have⟨a,dv,upd,_,h1,h2⟩:=ai5 hΓ hop hw hok h;obtain⟨tr,e',o',g1,g2,g4,g3⟩:=GL hΓ l _ _ _ h1;refine⟨(i,a)::tr,e',o',by simp[g1],?_,λp hp=>(g4 p hp).elim (λ hp=>(aee hp).elim .inl λhd=> .inr ⟨i,op,hop,hd⟩) .inr,λcQ ha=>?_⟩
   ·simpa[Mk]using g2
   ·exact h2 cQ _ (ha (i,a) (by simp)) (g3 cQ λp hp=>ha p (by simp[hp]))
  have skip:∀e:List (Nat×DV X),want am op (iF b e o).env (iF b e o).ok=some false->Az Γ fz T ao am b k l (BJ op.dst .skip e) o ((i,[],[])::nj)=some r->
   ∃(tr:List (Nat×mj)) (e':List (Nat×DV X)) (o':List (Nat×Option (br X))),tr.map (·.1)=i::l/\k e' o' ((Mk tr).reverse++nj)=some r/\(∀ p∈e',p∈e\/TH am p.1)/\
    ∀cQ:Nat->mj,(∀ p∈tr,cQ p.1=p.2)->Ur P T am cQ (λ σ=>σ=iF b e' o') (i::l) (iF b e o):=by
   intro e hw h;obtain⟨tr,e',o',g1,g2,g4,g3⟩:=GL hΓ l _ _ _ h;refine⟨(i,⟨.none,[],[],false⟩)::tr,e',o',by simp[g1],?_,λp hp=>(g4 p hp).elim (λ hp=>(aee hp).elim .inl λhd=> .inr ⟨i,op,hop,hd⟩) .inr,λcQ ha=>?_⟩
   ·simpa[Mk]using g2
   ·exact step_skip hop hw cQ _ (ha (i,_) (by simp)) (g3 cQ λp hp=>ha p (by simp[hp]))
  split at h
  ·rename_i hg;exact exec e (by simp[want,hg]) h
  ·rename_i j p hg;rw[ai]at h;obtain⟨t,ht,h⟩:=h;split at h
   ·rename_i v hv;have hw:∀e:List (Nat×DV X),oT e b.env t= .c .bool v->want am op (iF b e o).env (iF b e o).ok=some (v==p):=by
     intro e he;simp only[want,hg,ht];have h0:(iF b e o).ok t=none:=by
      simp only[iF];unfold oT at he;cases hq:lk e t with
      |none=>rfl
      |some d=>rw[hq]at he;simp only at he;subst he;rfl
     have h1:(iF b e o).env t= .t (.sc (.bool v)):=(by simp only[iF,he];rfl);rw[h0,h1]
    have hk:=agD (b:=b) (o:=o) hv;have hv':oT ((t,.c .bool v)::e) b.env t= .c .bool v:=(by simp[oT,lk]);have htd:TH am t:=by
     have⟨oj,h1,h2⟩:=ai.1 ht;exact⟨j,oj,h1,h2⟩
    have wide:(∃ (tr:List (Nat×mj)) (e':List (Nat×DV X)) (o':List (Nat×Option (br X))),tr.map (·.1)=i::l/\k e' o' ((Mk tr).reverse++nj)=some r/\(∀ p∈e',p∈((t,.c .bool v)::e:List (Nat×DV X))\/TH am p.1)/\
     ∀cQ:Nat->mj,(∀ p∈tr,cQ p.1=p.2)->Ur P T am cQ (λ σ=>σ=iF b e' o') (i::l) (iF b ((t,.c .bool v)::e) o))->
     ∃(tr:List (Nat×mj)) (e':List (Nat×DV X)) (o':List (Nat×Option (br X))),tr.map (·.1)=i::l/\k e' o' ((Mk tr).reverse++nj)=some r/\(∀ p∈e',p∈e\/TH am p.1)/\
     ∀cQ:Nat->mj,(∀ p∈tr,cQ p.1=p.2)->Ur P T am cQ (λ σ=>σ=iF b e' o') (i::l) (iF b e o):=by
     rintro⟨tr,e',o',g1,g2,g4,g3⟩;refine⟨tr,e',o',g1,g2,λq hq=>?_,hk ▸ g3⟩;rcases g4 q hq with h |h
     ·rcases aN.1 h with rfl |h
      ·exact .inr htd
      ·exact .inl h
     ·exact .inr h
    apply wide;cases v with
    |true=>
     simp only[aj]at h;cases p with
     |true=>exact exec _ (hw _ hv') h
     |false=>exact skip _ (hw _ hv') h
    |false=>
     simp only[ak]at h;cases p with
     |true=>exact skip _ (hw _ hv') h
     |false=>exact exec _ (hw _ hv') h
   ·rename_i hv;have⟨hsome,h⟩:=dF h;refine skip e ?_ h;simp only[want,hg,ht];have h1:(iF b e o).env t= .undef:=(by simp only[iF,hv];rfl);cases hq:lk e t with
    |some d=>
     have h0:(iF b e o).ok t=some false:=by
      unfold oT at hv;rw[hq]at hv;simp only at hv;subst hv;simp only[iF,hq]
     rw[h0,h1]
    |none=>rw[hq]at hsome;cases hsome
   ·cases h
end
section
variable {X:SX} {A:Type}
def fN(nx k:Nat):Nat:=if k<1000000 then k else nx+(k -1000000)
def gN(nx j:Nat):Nat:=if j<nx then j else 1000000+(j -nx)
def FG(nx sz k:Nat):Bool:=decide (k<nx) || (decide (1000000<=k)&&decide (k<1000000+sz))
def okE(nx sz:Nat)(e:List (Nat×DV X)):Bool:=e.all λp=>(bm p.2).all (FG nx sz)
def okO(nx sz:Nat)(o:List (Nat×Option (br X))):Bool:=o.all λp=>FG nx sz p.1&&match p.2 with |some x=>(dE x).all (FG nx sz) |none=>true
def I0(nj:CD):Nat->mj:=λi=>match lk nj i with |some p=>⟨.none,p.1,p.2,false⟩ |none=>⟨.none,[],[],false⟩
def DM(tr:List (Nat×mj)):Nat->mj:=λi=>match lk tr i with |some a=>a |none=>⟨.none,[],[],false⟩
def HW:DV X->DV X
 | .skip=> .undef
 |x=>x
theorem akH(x:DV X):den (HW x)=den x:=by cases x<;>rfl
theorem aa3(x:DV X):bm (HW x)=bm x:=by cases x<;>rfl
def fin(s:da X)(e:List (Nat×DV X))(o:List (Nat×Option (br X)))(sz:Nat):da X:=
 ⟨e.map (λ p=>(p.1,HW (nb (fN s.nx) p.2)))++s.env,o.map (λ p=>(fN s.nx p.1,p.2.map (oy (fN s.nx))))++s.obj,s.nx+sz,o.map (λ p=>fN s.nx p.1)++s.log⟩
def akI(N:Nat)(am:Array Oper)(d:Bool)(nx:Nat)(e:List (Nat×DV X))(o:List (Nat×Option (br X)))(nj:CD):Bool:=
 Mz N am&&(!d || Lz am (I0 nj))&&okE nx (64*am.size) e&&okO nx (64*am.size) o&&decide (nx+64*am.size<=1000000)
def Vc(Γ:FuncId->Option (bz X))(fz:List Nat)(T:dy)(ao:TypeId->Option (CT X.ι))(N:Nat)(am:Array Oper)(d:Bool)(s:da X)(k:da X->Option A):Option A:=
 Az Γ fz T ao am s (λ e o nj=>bif akI N am d s.nx e o nj then k (fin s e o (64*am.size))else none) (List.range am.size) [] [] []
theorem aef{am:Array Oper}{cQ tt:Nat->mj}(h:∀i,(cQ i).rd=(tt i).rd/\(cQ i).wr=(tt i).wr):Lz am cQ=Lz am tt:=by
 have h1:zk cQ=zk tt:=by
  funext i j;simp only[zk,(h i).1,(h i).2,(h j).1,(h j).2]
 have h2:∀md,Q9 md am cQ=Q9 md am tt:=by
  intro md;funext listed i;simp only[Q9,h1]
 have h3:∀(md:Region.Mode)(n k:Nat)(listed:Array Bool),lexFrom' md am cQ n k listed=lexFrom' md am tt n k listed:=by
  intro md n
  induction n with
  |zero=>intro k listed;rfl
  |succ n ih=>intro k listed;simp only[lexFrom',h2,ih]
 exact h3 _ _ _ _
theorem Fq{α:Type}:∀(a b:List (Nat×α))(k:Nat),lk (a++b) k=match lk a k with |some x=>some x |none=>lk b k
 |[],_,_=>rfl
 |(j,x)::a,b,k=>by
  simp only[cons_append,lk];by_cases h:j=k
  ·simp[h]
  ·simp only[aO h,Fq a b k]
theorem ah7{α:Type}:∀{l:List (Nat×α)}{k:Nat},lk l k=none->∀x,(k,x)∉l
 |(j,y)::r,k,h,x=>by
  simp only[lk]at h;split at h
  ·cases h
  ·rename_i hn;simp only[aN,Prod.mk.injEq,not_or];exact⟨λ e=>hn e.1.symm,ah7 h x⟩
 |[],_,_,_=>by simp
theorem anF{tr:List (Nat×mj)}(hn:(tr.map (·.1)).Nodup)(i:Nat):(I0 (Mk tr).reverse i).rd=(DM tr i).rd/\(I0 (Mk tr).reverse i).wr=(DM tr i).wr:=by
 have hn':((Mk tr).reverse.map (·.1)).Nodup:=by
  rw[List.map_reverse];have h1:((Mk tr).map (·.1)).Nodup:=by simpa[Mk,Function.comp_def]using hn
  exact List.pairwise_reverse.2 (h1.imp λh=>Ne.symm h)
 unfold I0 DM;cases h:lk tr i with
 |none=>
  cases h':lk (Mk tr).reverse i with
  |none=>exact⟨rfl,rfl⟩
  |some p=>
   have:=sK h';simp only[Mk,List.mem_reverse,mem_map]at this;obtain⟨q,hq,he⟩:=this;injection he with e1 e2;subst e1;exact(ah7 h q.2 hq).elim
 |some a=>
  have h1:=sK h;have h2:(i,a.rd,a.wr)∈(Mk tr).reverse:=by
   simp only[Mk,List.mem_reverse,mem_map];exact⟨(i,a),h1,rfl⟩
  rw[vT hn' h2];exact⟨rfl,rfl⟩
theorem akJ{tr:List (Nat×mj)}(hn:(tr.map (·.1)).Nodup):∀p∈tr,DM tr p.1=p.2:=by
 rintro⟨i,a⟩ hp;unfold DM;rw[vT hn hp]
theorem Xy{nx sz k:Nat}(h:FG nx sz k=true):k<nx\/(1000000<=k/\k<1000000+sz):=by simpa[FG]using h
theorem RW{nx sz k:Nat}(hle:nx+sz<=1000000)(h:k<nx\/(1000000<=k/\k<1000000+sz)):gN nx (fN nx k)=k:=by
 unfold gN fN;rcases h with h |⟨h1,h2⟩
 ·rw[aP (show k<1000000 by omega),aP h]
 ·rw[aO (show ¬k<1000000 by omega),aO (by omega)];omega
theorem E7{nx sz k:Nat}(hle:nx+sz<=1000000)(h:k<nx\/(1000000<=k/\k<1000000+sz)):fN nx k<nx+sz:=by
 unfold fN;rcases h with h |⟨h1,h2⟩
 ·rw[aP (show k<1000000 by omega)];omega
 ·rw[aO (show ¬k<1000000 by omega)];omega
theorem LS{nx k:Nat}(hle:nx<=1000000)(h:k<nx):fN nx k=k:=aP (by omega)
mutual
theorem Xz{f:Nat->Nat}:∀x:DV X,(∀ k∈bm x,f k=k)->nb f x=x
 | .own k _ _,h=>by simp only[nb,h k (by simp[bm])]
 | .ptr k _ _,h=>by simp only[nb,h k (by simp[bm])]
 | .p4 k _ _,h=>by simp only[nb,h k (by simp[bm])]
 | .mp k,h=>by simp only[nb,h k (by simp[bm])]
 | .oz k _,h=>by simp only[nb,h k (by simp[bm])]
 | .rx k _ _ _ _,h=>by simp only[nb,h k (by simp[bm])]
 | .agg cs,h=>by simp only[nb,CF cs (by simpa[bm]using h)]
 | .fi cs,h=>by simp only[nb,CF cs (by simpa[bm]using h)]
 | .fn F first caps,h=>by simp only[nb,CF first (λ k hk=>h k (by simp[bm,hk])),CF caps (λ k hk=>h k (by simp[bm,hk]))]
 | .c _ _,_=>rfl
 | .rp _ _ _,_=>rfl
 | .vf _ _ _ _ _,_=>rfl
 | .cT _ _ _,_=>rfl
 | .raw _,_=>rfl
 | .nil,_=>rfl
 | .ub,_=>rfl
 | .skip,_=>rfl
 | .undef,_=>rfl
theorem CF{f:Nat->Nat}:∀l:List (DV X),(∀ k∈aS l,f k=k)->Mj f l=l
 |[],_=>rfl
 |x::xs,h=>by simp only[Mj,Xz x (λ k hk=>h k (by simp[aS,hk])),CF xs (λ k hk=>h k (by simp[aS,hk]))]
end
mutual
theorem XA(f:Nat->Nat):∀x:DV X,bm (nb f x)=(bm x).map f
 | .own _ _ _=>rfl
 | .ptr _ _ _=>rfl
 | .p4 _ _ _=>rfl
 | .mp _=>rfl
 | .oz _ _=>rfl
 | .rx _ _ _ _ _=>rfl
 | .agg cs=>by simp only[nb,bm,Ad f cs]
 | .fi cs=>by simp only[nb,bm,Ad f cs]
 | .fn F first caps=>by simp only[nb,bm,Ad f first,Ad f caps,map_append]
 | .c _ _=>rfl
 | .rp _ _ _=>rfl
 | .vf _ _ _ _ _=>rfl
 | .cT _ _ _=>rfl
 | .raw _=>rfl
 | .nil=>rfl
 | .ub=>rfl
 | .skip=>rfl
 | .undef=>rfl
theorem Ad(f:Nat->Nat):∀l:List (DV X),aS (Mj f l)=(aS l).map f
 |[]=>rfl
 |x::xs=>by simp only[Mj,aS,XA f x,Ad f xs,map_append]
end
theorem aeg(f:Nat->Nat)(o:br X):dE (oy f o)=(dE o).map f:=by
 cases o with
 |cells sz rows=>simp only[oy,dE,map_map,List.map_flatten];congr 1;exact map_congr_left λr _=>Ad f r
 |dc c l=>rfl
 |map kc vc l=>rfl
theorem akK{α β:Type}(f:α->β):∀(l:List (Nat×α))(k:Nat),lk (l.map λp=>(p.1,f p.2)) k=(lk l k).map f
 |[],_=>rfl
 |(j,x)::r,k=>by
  simp only[aC,lk];by_cases h:j=k
  ·simp[h]
  ·simp only[aO h,akK f r k]
theorem ah9{α β:Type}(f:α->β)(g:Nat->Nat):∀(l:List (Nat×α))(j:Nat),(∀ p∈l,∀q∈l,g p.1=g q.1->p.1=q.1)->
 (∀ y,lk (l.map λp=>(g p.1,f p.2)) j=some y->∃k x,lk l k=some x/\g k=j/\y=f x)/\(lk (l.map λp=>(g p.1,f p.2)) j=none->∀p∈l,g p.1≠j)
 |[],_,_=>⟨λ _ h=>by simp[lk]at h,λ_=>by simp⟩
 |(k0,x0)::r,j,hi=>by
  obtain⟨i1,i2⟩:=ah9 f g r j (λ p hp q hq=>hi p (by simp[hp]) q (by simp[hq]));simp only[aC,lk];by_cases h:g k0=j
  ·rw[aP h];exact⟨λ y hy=>by injection hy with hy;exact⟨k0,x0,by simp,h,hy.symm⟩,λhn=>by cases hn⟩
  ·rw[aO h];refine⟨λ y hy=>?_,λhn p hp=>?_⟩
   ·have⟨k,x,h1,h2,h3⟩:=i1 y hy;refine⟨k,x,?_,h2,h3⟩;have hne:k0≠k:=λe=>h (by rw[e];exact h2);rw[aO hne];exact h1
   ·rcases aN.1 hp with rfl |hp
    ·exact h
    ·exact i2 hn p hp
structure Ext(ds:Nat->Prop)(s s':da X):Prop where
 env:∀t,¬ds t->eE s'.env t=eE s.env t\/eE s'.env t= .undef
 obj:∃d,s'.log=d++s.log/\∀k,k<s.nx->k∉d->f5 s'.obj k=f5 s.obj k\/f5 s'.obj k=none
 nx:s.nx<=s'.nx
variable {Γ:FuncId->Option (bz X)} {fz:List Nat} {T:dy} {ao:TypeId->Option (CT X.ι)} {P:Program} {N:Nat}
theorem O5(s:da X)(e:List (Nat×DV X))(o:List (Nat×Option (br X)))(sz t:Nat):eE (fin s e o sz).env t=match lk e t with |some d=>HW (nb (fN s.nx) d) |none=>eE s.env t:=by
 simp only[fin,eE,Fq,akK (λ d=>HW (nb (fN s.nx) d))];cases lk e t<;>rfl
theorem acr(hT:eZ P T)(hm:P.follows .mixedOrders=true)(hΓ:rL P Γ){id:Nat}{am:Array Oper}{d:Bool}{s:da X}{k:da X->Option A}{r:A}(hl:Low s)(h:Vc Γ fz T ao N am d s k=some r):
 ∃s':da X,k s'=some r/\Low s'/\Ext (TH am) s s'/\Ev P N (.region id am d) (λ e σ=>e= .normal/\σ=s'.st) s.st:=by
 unfold Vc at h;obtain⟨tr,e,o,h1,h2,h3,h4⟩:=GL hΓ _ _ _ _ h;have⟨h5,h6⟩:=dF h2;simp only[akI,aJ,append_nil]at h5;obtain⟨⟨⟨⟨hd,hlex⟩,hE⟩,hO⟩,hnx⟩:=h5;have hle:s.nx+64*am.size<=1000000:=of_decide_eq_true hnx;have GS:(tr.map (·.1)).Nodup:=by rw[h1];exact List.nodup_range
 have Re:∀t x,lk e t=some x->∀j∈bm x,j<s.nx\/(1000000<=j/\j<1000000+64*am.size):=by
  intro t x hx j hj;have:=all_eq_true.1 hE _ (sK hx);exact Xy (all_eq_true.1 this j hj)
 have Ha:∀p∈o,(p.1<s.nx\/(1000000<=p.1/\p.1<1000000+64*am.size))/\∀x,p.2=some x->∀j∈dE x,j<s.nx\/(1000000<=j/\j<1000000+64*am.size):=by
  intro p hp;have:=all_eq_true.1 hO _ hp;simp only[aJ]at this;refine⟨Xy this.1,λx hx j hj=>?_⟩;have h2:=this.2;rw[hx]at h2;exact Xy (all_eq_true.1 h2 j hj)
 have hinj:∀p∈o,∀q∈o,fN s.nx p.1=fN s.nx q.1->p.1=q.1:=by
  intro p hp q hq he;have:=congrArg (gN s.nx) he
  rwa [RW hle (Ha p hp).1,RW hle (Ha q hq).1]at this
 have vn:∀j,(∃ q x,lk o q=some x/\fN s.nx q=j/\f5 (fin s e o (64*am.size)).obj j=x.map (oy (fN s.nx)))\/(f5 (fin s e o (64*am.size)).obj j=f5 s.obj j/\∀p∈o,fN s.nx p.1≠j):=by
  intro j;obtain⟨i1,i2⟩:=ah9 (λ x:Option (br X)=>x.map (oy (fN s.nx))) (fN s.nx) o j hinj;simp only[fin,f5,Fq];cases hj:lk (o.map λp=>(fN s.nx p.1,p.2.map (oy (fN s.nx)))) j with
  |none=>exact .inr ⟨rfl,i2 hj⟩
  |some y=>
   have⟨q,x,g1,g2,g3⟩:=i1 y hj;exact .inl ⟨q,x,g1,g2,by rw[g3];rfl⟩
 refine⟨fin s e o (64*am.size),h6,?_,?_,?_⟩
 ·constructor
  ·exact hle
  ·have:=hl.ge;show 1000<=s.nx+64*am.size;omega
  ·intro t j hj;rw[O5]at hj;cases ht:lk e t with
   |none=>rw[ht]at hj;have:=hl.env t j hj;show j<s.nx+64*am.size;omega
   |some x=>
    rw[ht,aa3,XA]at hj;obtain⟨q,hq,rfl⟩:=mem_map.1 hj;exact E7 hle (Re t x ht q hq)
  ·intro j x hx;rcases vn j with ⟨q,y,g1,rfl,g3⟩ |⟨g1,_⟩
   ·rw[g3]at hx;rw[eU]at hx;obtain⟨z,rfl,rfl⟩:=hx;obtain⟨k1,k2⟩:=Ha _ (sK g1);refine⟨E7 hle k1,λi hi=>?_⟩;rw[aeg]at hi;obtain⟨i',hi',rfl⟩:=mem_map.1 hi;exact E7 hle (k2 z rfl i' hi')
   ·rw[g1]at hx;have⟨k1,k2⟩:=hl.obj j x hx;refine⟨show j<s.nx+64*am.size by omega,λi hi=>?_⟩;have:=k2 i hi;show i<s.nx+64*am.size;omega
 ·refine⟨λ t ht=> .inl ?_,⟨o.map (λ p=>fN s.nx p.1),rfl,λj hj hn=>?_⟩,by show s.nx<=s.nx+64*am.size;omega⟩
  ·rw[O5];cases hx:lk e t with
   |none=>rfl
   |some x=>
    rcases h3 _ (sK hx)with h |h
    ·simp at h
    ·exact(ht h).elim
  ·rcases vn j with ⟨q,y,g1,g2,g3⟩ |⟨g1,_⟩
   ·exact(hn (mem_map.2 ⟨(q,y),sK g1,g2⟩)).elim
   ·exact .inl g1
 ·have hst:iF s [] []=s.st:=rfl;have hex:=h4 (DM tr) (akJ GS);rw[hst]at hex;intro w0 O0 β I a w hr ho;have done:∀(e':Exit)(a':Act)(w':World),(∃ β' I' σ1,Rel P w0 O0 N β' I' σ1 a' w'/\e'= .normal/\σ1=iF s e o)->∃ β' I' σ1,Rel P w0 O0 N β' I' σ1 a' w'/\sy σ1/\e'= .normal/\σ1=(fin s e o (64*am.size)).st:=by
   rintro e' a' w' ⟨β',I',σ1,g1,rfl,rfl⟩;refine⟨_,I',(fin s e o (64*am.size)).st,Rel.re (f:=fN s.nx) (g:=gN s.nx) (D:=λk=>k<s.nx\/(1000000<=k/\k<1000000+64*am.size)) (λ k hk=>RW hle hk) (λ j hj=>by have:=hl.ge;unfold gN;rw[aP (by omega)]) g1 (λ t=>?_) (λ _=>rfl) (λ t=> .inr ?_) (λ j o' hj=>?_),?_,rfl,rfl⟩
   ·show(match lk e t with |some .skip=>some false |_=>none)=none\/den (eE (fin s e o (64*am.size)).env t)= .undef;rw[O5];cases ht:lk e t with
    |none=>exact .inl rfl
    |some d=>cases d<;>first |exact .inl rfl |exact .inr rfl
   ·show(∀ k∈refs (den (oT e s.env t)),_)/\k7 (eW (fN s.nx) (den (oT e s.env t))) (den (eE (fin s e o (64*am.size)).env t));rw[O5,iV,<- Cz];unfold oT;cases ht:lk e t with
    |none=>
     refine⟨λ q hq=> .inl (hl.env t q hq),?_⟩;rw[Xz _ (λ q hq=>LS (by omega) (hl.env t q hq))];exact k7.refl _
    |some x=>exact⟨Re t x ht,by simp only[akH];exact k7.refl _⟩
   ·simp only[da.st,eU]at hj;obtain⟨x,hx,rfl⟩:=hj;rcases vn j with ⟨q,y,i1,rfl,i3⟩ |⟨i1,i2⟩
    ·rw[i3,eU]at hx;obtain⟨z,rfl,rfl⟩:=hx;obtain⟨k1,k2⟩:=Ha _ (sK i1);obtain⟨r1,r2⟩:=LJ (D:=λk=>k<s.nx\/(1000000<=k/\k<1000000+64*am.size)) (fN s.nx) z (λ i hi=>k2 z rfl i hi);refine⟨q,bG z,?_,k1,rfl,r1,r2⟩;simp only[iF,vj,i1,Option.map_some]
    ·rw[i1]at hx;have⟨k1,k2⟩:=hl.obj j x hx;have hid:oy (fN s.nx) x=x:=by
      cases x with
      |dc c l=>rfl
      |map kc vc l=>rfl
      |cells sz rows=>
       simp only[oy];congr 1;have:∀q∈rows,Mj (fN s.nx) q=q:=λq hq=>CF q λi hi=>LS (by omega) (k2 i (by
        simp only[dE,List.mem_flatten,mem_map];exact⟨_,⟨q,hq,rfl⟩,hi⟩))
       rw[map_congr_left this];simp
     obtain⟨r1,r2⟩:=LJ (D:=λk=>k<s.nx\/(1000000<=k/\k<1000000+64*am.size)) (fN s.nx) x (λ i hi=> .inl (k2 i hi));rw[hid]at r1 r2;refine⟨j,bG x,?_,.inl k1,LS (by omega) k1,r1,r2⟩;simp only[iF,vj];cases hlo:lk o j with
     |none=>simp[hx]
     |some y=>exact(i2 _ (sK hlo) (LS (by omega) k1)).elim
   ·have hL:Low (fin s e o (64*am.size)):=by
     constructor
     ·exact hle
     ·have:=hl.ge;show 1000<=s.nx+64*am.size;omega
     ·intro t j hj;rw[O5]at hj;cases ht:lk e t with
      |none=>rw[ht]at hj;have:=hl.env t j hj;show j<s.nx+64*am.size;omega
      |some x=>
       rw[ht,aa3,XA]at hj;obtain⟨q,hq,rfl⟩:=mem_map.1 hj;exact E7 hle (Re t x ht q hq)
     ·intro j x hx;rcases vn j with ⟨q,y,g1,rfl,g3⟩ |⟨g1,_⟩
      ·rw[g3]at hx;rw[eU]at hx;obtain⟨z,rfl,rfl⟩:=hx;obtain⟨k1,k2⟩:=Ha _ (sK g1);refine⟨E7 hle k1,λi hi=>?_⟩;rw[aeg]at hi;obtain⟨i',hi',rfl⟩:=mem_map.1 hi;exact E7 hle (k2 z rfl i' hi')
      ·rw[g1]at hx;have⟨k1,k2⟩:=hl.obj j x hx;refine⟨show j<s.nx+64*am.size by omega,λi hi=>?_⟩;have:=k2 i hi;show i<s.nx+64*am.size;omega
    exact hL.old
  cases d with
  |false=>exact wp_mono (aiH hT hd ho hex hr) done
  |true=>
   refine wp_mono (WE hT hm hd ?_ ho hex hr) done;rw[<- aef (anF GS)];simpa using hlex
end
end Go.Gb
namespace Go.Gb
open Go.RowKit
structure Sh(ι:Type) where
 slots:List (Nat×Pt ι)
 cH:List (Nat×OP ι)
 keep:List Nat
 cW:List Nat
 nx:Nat
 yq:List (Nat×CT ι)
def Sh.vars{ι:Type}(s:Sh ι):List (CT ι):=ia s.slots++cD s.cH
section
variable {X:SX}
def nz(z:Bool)(k:Nat):DV X:=bif z then .oz k 0 else .own k 0 0
def xn(z:Bool)(s:da X)(t:Nat)(c:CT X.ι):da X:=
 match eE s.env t with
 | .nil=>if s.nx<1000000 then⟨(t,nz z s.nx)::s.env,(s.nx,some (.dc c []))::s.obj,s.nx+1,s.nx::s.log⟩else s
 |_=>s
def DH(s:da X)(q j:Nat)(c:CT X.ι):da X:=
 match f5 s.obj q with
 |some (.cells sz [row])=>match row[j]? with
  |some .nil=>if s.nx<1000000 then⟨s.env,(q,some (.cells sz [row.set j (.own s.nx 0 0)]))::(s.nx,some (.dc c []))::s.obj,s.nx+1,q::s.nx::s.log⟩else s
  |_=>s
 |_=>s
def Rv:List (Nat×CT X.ι)->da X->da X
 |[],s=>s
 |(t,c)::r,s=>Rv r (bif Nat.ble 1000000 t then bif Nat.ble 1099511627776 t then xn true s (t -1099511627776) c else DH s ((t -1000000)/4096) ((t -1000000)%4096) c else xn false s t c)
def Z1:DV X->Bool
 | .undef | .skip=>true
 |_=>false
def encS(sh:Sh X.ι)(s0:da X)(v:VT (X:=X) sh.vars):da X:=
 let L:=xB sh.vars v
 let n:=(ia sh.slots).length
 let ol:=λk=>(lk (lens sh.cH (L.drop n)) k).getD 0
 ⟨Np ol sh.slots (L.take n)++sh.keep.map (λ t=>(t,eE s0.env t)),cu ol sh.cH (L.drop n)++sh.cW.map (λ k=>(k,f5 s0.obj k)),sh.nx,
  (List.range s0.nx).filter (λ k=>!sh.cW.contains k)++s0.log⟩
def Zs(sh:Sh X.ι)(ds:List Nat)(s0 s':da X)(m:MA X):Bool:=
 decide (m.nm.map (·.1)++sh.cW).Nodup&&decide (m.nm.map (·.2)++sh.cW).Nodup&&decide (sh.cH.map (·.1)).Nodup&&m.nm.all (λ q=>(sh.cH.map (·.1)).contains q.2&&decide (q.2<sh.nx)&&(decide (q.1=q.2) || decide (1000<=q.2)))&&
  sh.slots.all (λ p=>ds.contains p.1)&&sh.keep.all (λ t=>!ds.contains t&&!Z1 (eE s'.env t)&&(bm (eE s0.env t)).all λj=>sh.cW.contains j || m.nm.contains (j,j))&&
  sh.cW.all (λ k=>decide (k<s0.nx)&&!(s'.log.take (s'.log.length -s0.log.length)).contains k&&(f5 s'.obj k).isSome&&match f5 s0.obj k with |some o=>(dE o).all λj=>sh.cW.contains j || m.nm.contains (j,j) |none=>false)&&
  decide (s0.nx<=sh.nx)&&decide (sh.nx<=1000000)
def Mb{A:Type}(sh:Sh X.ι)(ds:List Nat)(s0 s':da X)(k:VT (X:=X) sh.vars->Option A):Option A:=
 (Kc (f5 s'.obj) (eE s'.env) sh.slots ⟨[],[],[]⟩).bind λm=>(Ff (f5 s'.obj) sh.cH m).bind λm=>bif Zs sh ds s0 s' m then(ZK sh.vars m.ey).bind λv=>WR m.ip (k v)else none
def qQ{A:Type}(sh:Sh X.ι)(ds:List Nat)(s0 s':da X)(k:VT (X:=X) sh.vars->Option A):Option A:=
 bif sh.yq.all (λ p=>bif Nat.ble 1000000 p.1 then !Nat.ble 1099511627776 p.1 || ds.contains (p.1 -1099511627776)else ds.contains p.1)then Mb sh ds s0 (Rv sh.yq s') k else none
end
section
variable {X:SX}
theorem aa5{d:DV X}{c:CT X.ι}{x:CT.T X.toSE c}(h:Mi d c=some x):bm d=[]:=by
 cases d
 case c=>rfl
 case nil=>rfl
 all_goals cases c<;>cases h
theorem TJ:∀{ds:List (DV X)}{l:List (CT X.ι)}{h:HL X.toSE l},Ao ds l=some h->aS ds=[]
 |[],[],_,_=>rfl
 |d::ds,c::l,h,hr=>by
  simp only[Ao]at hr;have⟨x,h1,hr⟩:=ai.1 hr;have⟨g,h2,hr⟩:=ai.1 hr;simp only[aS,aa5 h1,TJ h2,append_nil]
 |[],_::_,_,hr=>by simp[Ao]at hr
 |_::_,[],_,hr=>by simp[Ao]at hr
theorem ami{d:DV X}{c:CT X.ι}{x:CT.T X.toSE c}(h:dat d c=some x):k7 (den d) (den (.c c x:DV X))/\bm d=[]:=by
 cases c
 case st i=>
  replace h:BW d i=some x:=h
  cases d
  case agg cs=>
   simp only[BW]at h;have⟨g,h1,h⟩:=ai.1 h;cases h;refine⟨λ P β w I v hv=>?_,by simp only[bm,TJ h1]⟩;have h2:=(Ap h1 (X.flat i)).1;simp only[den,VR]at hv;obtain⟨vs,rfl,hv⟩:=hv;show VR P β w I (.agg ((X.row i (X.make i g)).map AV.t)) _;have h3:(X.row i (X.make i g)).map AV.t=(bK cs).map Gb.wk:=(by rw[h2];exact congrArg _ (X.gh i g));rw[h3];simp only[VR];exact⟨vs,rfl,bj.wk _ _ hv⟩
  case c a y=>
   replace h:gD a (.st i) y=some x:=h
   rw[(iU h).1];exact⟨k7.refl _,rfl⟩
  all_goals cases h
 all_goals
  have h1:=xu h;refine⟨λ P β w I v hv=>?_,aa5 h⟩;simp only[den];rw[<- h1];exact hv.wk
def gj(m m':MA X):Prop:=(∀ q∈m.nm,q∈m'.nm)/\(∀ c∈m.ip,c∈m'.ip)
theorem gj.refl(m:MA X):gj m m:=⟨λ _ h=>h,λ_ h=>h⟩
theorem gj.trans{a b c:MA X}(h:gj a b)(h':gj b c):gj a c:=⟨λ q hq=>h'.1 q (h.1 q hq),λq hq=>h'.2 q (h.2 q hq)⟩
theorem fA(m:MA X)(k' k:Nat):(addN m k' k).ey=m.ey/\(addN m k' k).ip=m.ip:=by unfold addN;split<;>exact⟨rfl,rfl⟩
theorem oF(m:MA X)(k' k:Nat):(k',k)∈(addN m k' k).nm:=by
 unfold addN;split
 ·rename_i h;simpa using h
 ·simp
theorem qf(m:MA X)(k' k:Nat):gj m (addN m k' k):=by
 unfold addN;split
 ·exact gj.refl m
 ·exact⟨λ q hq=>by simp[hq],λ_ h=>h⟩
variable {get:Nat->Option (br X)}
mutual
theorem aia:∀(p:Pt X.ι)(d:DV X)(m m':MA X),mP get p d m=some m'->gj m m'/\∃aq,m'.ey=m.ey++aq/\aq.length=p.vars.length
 | .v c,d,m,m',h=>by
  simp only[mP]at h;rw[ai]at h;obtain⟨x,h1,h⟩:=h;cases h;exact⟨⟨λ _ h=>h,λ_ h=>h⟩,[⟨c,x⟩],rfl,rfl⟩
 | .o k,d,m,m',h=>by
  simp only[mP]at h;split at h
  ·rename_i k' len;have⟨o,h1,h⟩:=ai.1 h;split at h
   ·cases h;refine⟨gj.trans (b:=⟨m.nm,m.ey,m.ip++_⟩) ⟨λ _ h=>h,λ_ h=>by simp[h]⟩ (qf _ _ _),[],by rw[(fA _ _ _).1];simp,rfl⟩
   ·cases h
  ·cases h
 | .oz k,d,m,m',h=>by
  simp only[mP]at h;split at h
  ·have⟨o,h1,h⟩:=ai.1 h;split at h
   ·cases h;refine⟨gj.trans (b:=⟨m.nm,m.ey,m.ip++_⟩) ⟨λ _ h=>h,λ_ h=>by simp[h]⟩ (qf _ _ _),[],by rw[(fA _ _ _).1];simp,rfl⟩
   ·cases h
  ·have⟨o,h1,h⟩:=ai.1 h;split at h
   ·cases h;refine⟨gj.trans (b:=⟨m.nm,m.ey,m.ip++_⟩) ⟨λ _ h=>h,λ_ h=>by simp[h]⟩ (qf _ _ _),[],by rw[(fA _ _ _).1];simp,rfl⟩
   ·cases h
  ·cases h
 | .p k,d,m,m',h=>by
  simp only[mP]at h;split at h
  ·cases h;exact⟨qf _ _ _,[],by rw[(fA _ _ _).1];simp,rfl⟩
  ·cases h
 | .mp k,d,m,m',h=>by
  simp only[mP]at h;split at h
  ·cases h;exact⟨qf _ _ _,[],by rw[(fA _ _ _).1];simp,rfl⟩
  ·cases h
 | .nil,d,m,m',h=>by
  simp only[mP]at h;split at h
  ·cases h;exact⟨gj.refl _,[],by simp,rfl⟩
  ·cases h
 | .f F fs cs,d,m,m',h=>by
  simp only[mP]at h;split at h
  ·split at h
   ·rw[ai]at h;obtain⟨m1,h1,h⟩:=h;obtain⟨a1,n1,b1,c1⟩:=AA fs _ m m1 h1;obtain⟨a2,n2,b2,c2⟩:=AA cs _ m1 m' h;exact⟨a1.trans a2,n1++n2,by rw[b2,b1,aK],by simp[Pt.vars,c1,c2]⟩
   ·cases h
  ·cases h
 | .od k,d,m,m',h=>by
  simp only[mP]at h;split at h
  ·rename_i k' aa len;have⟨o,h1,h⟩:=ai.1 h;split at h
   ·cases h;refine⟨gj.trans (b:=⟨m.nm,m.ey++[⟨.int .i64,(aa:Int)⟩],m.ip++_⟩) ⟨λ _ h=>h,λ_ h=>by simp[h]⟩ (qf _ _ _),[⟨.int .i64,(aa:Int)⟩],by rw[(fA _ _ _).1],rfl⟩
   ·cases h
  ·cases h
 | .a ps,d,m,m',h=>by
  simp only[mP]at h;split at h
  ·exact AA ps _ m m' h
  ·cases h
theorem AA:∀(ps:List (Pt X.ι))(ds:List (DV X))(m m':MA X),sg get ps ds m=some m'->gj m m'/\∃aq,m'.ey=m.ey++aq/\aq.length=(cJ ps).length
 |[],[],m,m',h=>by
  simp only[sg,aA]at h;subst h;exact⟨gj.refl _,[],by simp,rfl⟩
 |p::ps,d::ds,m,m',h=>by
  simp only[sg]at h;have⟨m1,h1,h⟩:=ai.1 h;have⟨a1,n1,b1,c1⟩:=aia p d m m1 h1;have⟨a2,n2,b2,c2⟩:=AA ps ds m1 m' h;exact⟨a1.trans a2,n1++n2,by rw[b2,b1,aK],by simp[cJ,c1,c2]⟩
 |[],_::_,m,m',h=>by simp[sg]at h
 |_::_,[],m,m',h=>by simp[sg]at h
end
theorem AB:∀(rs:List (List (Pt X.ι)))(qs:List (List (DV X)))(m m':MA X),IE get rs qs m=some m'->gj m m'/\∃aq,m'.ey=m.ey++aq/\aq.length=(xA rs).length
 |[],[],m,m',h=>by
  simp only[IE,aA]at h;subst h;exact⟨gj.refl _,[],by simp,rfl⟩
 |r::rs,q::qs,m,m',h=>by
  simp only[IE]at h;have⟨m1,h1,h⟩:=ai.1 h;have⟨a1,n1,b1,c1⟩:=AA r q m m1 h1;have⟨a2,n2,b2,c2⟩:=AB rs qs m1 m' h;exact⟨a1.trans a2,n1++n2,by rw[b2,b1,aK],by simp[xA,c1,c2]⟩
 |[],_::_,m,m',h=>by simp[IE]at h
 |_::_,[],m,m',h=>by simp[IE]at h
section
variable {NM:List (Nat×Nat)} {f:Nat->Nat} {dp:Nat->Nat}
def DN(NM:List (Nat×Nat))(j:Nat):Prop:=∃k,(j,k)∈NM
def SN(NM:List (Nat×Nat))(j:Nat):Prop:=∃k,(k,j)∈NM
theorem O6{D:Nat->Prop}{f:Nat->Nat}{P:Program}{β:Nat->Option cE}{w:World}{I:Nat->Prop}:∀{a b:List AV}(_:mz D f a b)(u:List Value),bj P β w I (zi f a) u->bj P β w I b u
 |[],[],_,u,hu=>hu
 |[],_::_,hr,_,_=>hr.elim
 |_::_,[],hr,_,_=>hr.elim
 |y::ys,z::zs,hr,[],hu=>by simp[zi,bj]at hu
 |y::ys,z::zs,hr,v::vs,hu=>by
  simp only[zi,bj]at hu ⊢;exact⟨hr.1.2 _ _ _ _ _ hu.1,O6 hr.2 vs hu.2⟩
mutual
theorem aei(hf:∀q∈NM,f q.1=q.2)(ho:∀q∈NM,∀c l,get q.1=some (.dc c l)->dp q.2=l.length):∀(p:Pt X.ι)(d:DV X)(m m':MA X),mP get p d m=some m'->(∀ q∈m'.nm,q∈NM)->(∀ c∈m'.ip,c=true)->
 ∃aq,m'.ey=m.ey++aq/\∃d',(∀ ag,eP dp p (aq++ag)=(d',ag))/\k7 (eW f (den d)) (den d')/\(∀ j∈bm d,DN NM j)/\(∀ j∈bm d',SN NM j)
 | .v c,d,m,m',h,_,_=>by
  simp only[mP]at h;rw[ai]at h;obtain⟨x,h1,h⟩:=h;cases h;have⟨h2,h3⟩:=ami h1;refine⟨[⟨c,x⟩],rfl,.c c x,λag=>rfl,?_,by simp[h3],by simp[bm]⟩;rw[<- Cz,Xz d (by simp[h3])];exact h2
 | .o k,d,m,m',h,hn,hc=>by
  simp only[mP]at h;split at h
  ·rename_i k' len;rw[ai]at h;obtain⟨o,h1,h⟩:=h;split at h
   ·rename_i c l;cases h;have hq:(k',k)∈NM:=hn _ (oF _ _ _);have he:len=l.length:=by
     have:=hc (bk len l.length) (by rw[(fA _ _ _).2];simp);simpa[bk]using this
    refine⟨[],by rw[(fA _ _ _).1];simp,.own k 0 (dp k),λag=>rfl,?_,?_,?_⟩
    ·simp only[den,eW];rw[hf _ hq,ho _ hq c l h1,he];exact k7.refl _
    ·intro j hj;simp only[bm,aY]at hj;subst hj;exact⟨k,hq⟩
    ·intro j hj;simp only[bm,aY]at hj;subst hj;exact⟨k',hq⟩
   ·cases h
  ·cases h
 | .oz k,d,m,m',h,hn,hc=>by
  simp only[mP]at h;split at h
  ·rename_i k' len;rw[ai]at h;obtain⟨o,h1,h⟩:=h;split at h
   ·rename_i c l;cases h;have hq:(k',k)∈NM:=hn _ (oF _ _ _);have he:len≠0/\len=l.length:=by
     have:=hc (!(len==0)&&bk len l.length) (by rw[(fA _ _ _).2];simp);simpa[bk]using this
    refine⟨[],by rw[(fA _ _ _).1];simp,.oz k (dp k),λag=>rfl,?_,λj hj=>?_,λj hj=>?_⟩
    ·simp only[den,eW];rw[hf _ hq,ho _ hq c l h1,<- he.2];intro P β w I v hv;simp only[VR]at hv ⊢;exact .inr ⟨he.1,hv.resolve_left λh=>he.1 h.2.2.2⟩
    ·simp only[bm,aY]at hj;subst hj;exact⟨k,hq⟩
    ·simp only[bm,aY]at hj;subst hj;exact⟨k',hq⟩
   ·cases h
  ·rename_i k' len;rw[ai]at h;obtain⟨o,h1,h⟩:=h;split at h
   ·rename_i c l;cases h;have hq:(k',k)∈NM:=hn _ (oF _ _ _);have he:len=l.length:=by
     have:=hc (bk len l.length) (by rw[(fA _ _ _).2];simp);simpa[bk]using this
    refine⟨[],by rw[(fA _ _ _).1];simp,.oz k (dp k),λag=>rfl,?_,λj hj=>?_,λj hj=>?_⟩
    ·simp only[den,eW];rw[hf _ hq,ho _ hq c l h1,he];exact k7.refl _
    ·simp only[bm,aY]at hj;subst hj;exact⟨k,hq⟩
    ·simp only[bm,aY]at hj;subst hj;exact⟨k',hq⟩
   ·cases h
  ·cases h
 | .p k,d,m,m',h,hn,hc=>by
  simp only[mP]at h;split at h
  ·rename_i k';cases h;have hq:(k',k)∈NM:=hn _ (oF _ _ _);refine⟨[],by rw[(fA _ _ _).1];simp,.ptr k 0 0,λag=>rfl,?_,?_,?_⟩
   ·simp only[den,eW];rw[hf _ hq];exact k7.refl _
   ·intro j hj;simp only[bm,aY]at hj;subst hj;exact⟨k,hq⟩
   ·intro j hj;simp only[bm,aY]at hj;subst hj;exact⟨k',hq⟩
  ·cases h
 | .mp k,d,m,m',h,hn,hc=>by
  simp only[mP]at h;split at h
  ·rename_i k';cases h;have hq:(k',k)∈NM:=hn _ (oF _ _ _);refine⟨[],by rw[(fA _ _ _).1];simp,.mp k,λag=>rfl,?_,?_,?_⟩
   ·simp only[den,eW];rw[hf _ hq];exact k7.refl _
   ·intro j hj;simp only[bm,aY]at hj;subst hj;exact⟨k,hq⟩
   ·intro j hj;simp only[bm,aY]at hj;subst hj;exact⟨k',hq⟩
  ·cases h
 | .nil,d,m,m',h,_,_=>by
  simp only[mP]at h;split at h
  ·cases h;exact⟨[],by simp,.nil,λag=>rfl,k7.refl _,by simp[bm],by simp[bm]⟩
  ·cases h
 | .f F fs cs,d,m,m',h,hn,hc=>by
  simp only[mP]at h;split at h
  ·rename_i F' first caps
   split at h
   ·rename_i e;subst e;rw[ai]at h;obtain⟨m1,h1,h⟩:=h;have hm:=(AA cs _ m1 m' h).1;obtain⟨n1,a1,f',b1,c1,e1,g1⟩:=Fs hf ho fs _ m m1 h1 (λ q hq=>hn q (hm.1 q hq)) (λ q hq=>hc q (hm.2 q hq));obtain⟨n2,a2,c',b2,c2,e2,g2⟩:=Fs hf ho cs _ m1 m' h hn hc;refine⟨n1++n2,by rw[a2,a1,aK],.fn F f' c',λag=>by simp only[eP,aK,b1,b2],?_,?_,?_⟩
    ·intro P β w I v hv;simp only[den,eW,VR]at hv ⊢;obtain⟨us,vs,rfl,hu,hv⟩:=hv;exact⟨us,vs,rfl,O6 c1 _ hu,O6 c2 _ hv⟩
    ·intro j hj;simp only[bm,aX]at hj;exact hj.elim (e1 j) (e2 j)
    ·intro j hj;simp only[bm,aX]at hj;exact hj.elim (g1 j) (g2 j)
   ·cases h
  ·cases h
 | .od k,d,m,m',h,hn,hc=>by
  simp only[mP]at h;split at h
  ·rename_i k' aa len;rw[ai]at h;obtain⟨o,h1,h⟩:=h;split at h
   ·rename_i c l;cases h;have hq:(k',k)∈NM:=hn _ (oF _ _ _);have he:aa+len=l.length:=by
     have:=hc (bk (aa+len) l.length) (by rw[(fA _ _ _).2];simp);simpa[bk]using this
    refine⟨[⟨.int .i64,(aa:Int)⟩],by rw[(fA _ _ _).1],.own k aa (dp k -aa),λag=>?_,?_,?_,?_⟩
    ·simp only[eP,cons_append,bO];have:Ek (X:=X) ⟨.int .i64,(aa:Int)⟩=aa:=by
      simp only[Ek];rw[Xb];simp
     rw[this]
    ·simp only[den,eW];rw[hf _ hq,ho _ hq c l h1,show l.length -aa=len by omega];exact k7.refl _
    ·intro j hj;simp only[bm,aY]at hj;subst hj;exact⟨k,hq⟩
    ·intro j hj;simp only[bm,aY]at hj;subst hj;exact⟨k',hq⟩
   ·cases h
  ·cases h
 | .a ps,d,m,m',h,hn,hc=>by
  simp only[mP]at h;split at h
  ·rename_i ds;have⟨aq,h1,ds',h2,h3,h4,h5⟩:=Fs hf ho ps ds m m' h hn hc;refine⟨aq,h1,.agg ds',λag=>by simp only[eP,h2],?_,by simpa[bm]using h4,by simpa[bm]using h5⟩;intro P β w I v hv;simp only[den,eW,VR]at hv ⊢;obtain⟨vs,rfl,hv⟩:=hv;refine⟨vs,rfl,?_⟩;exact O6 h3 _ hv
  ·cases h
theorem Fs(hf:∀q∈NM,f q.1=q.2)(ho:∀q∈NM,∀c l,get q.1=some (.dc c l)->dp q.2=l.length):∀(ps:List (Pt X.ι))(ds:List (DV X))(m m':MA X),sg get ps ds m=some m'->(∀ q∈m'.nm,q∈NM)->(∀ c∈m'.ip,c=true)->
 ∃aq,m'.ey=m.ey++aq/\∃ds',(∀ ag,lp dp ps (aq++ag)=(ds',ag))/\mz (DN NM) f (bK ds) (bK ds')/\(∀ j∈aS ds,DN NM j)/\(∀ j∈aS ds',SN NM j)
 |[],[],m,m',h,_,_=>by
  simp only[sg,aA]at h;subst h;exact⟨[],by simp,[],λag=>rfl,trivial,by simp[aS],by simp[aS]⟩
 |p::ps,d::ds,m,m',h,hn,hc=>by
  simp only[sg]at h;have⟨m1,h1,h⟩:=ai.1 h;have hm:=(AA ps ds m1 m' h).1;obtain⟨n1,a1,d',b1,c1,e1,g1⟩:=aei hf ho p d m m1 h1 (λ q hq=>hn q (hm.1 q hq)) (λ q hq=>hc q (hm.2 q hq));have⟨n2,a2,ds',b2,c2,e2,g2⟩:=Fs hf ho ps ds m1 m' h hn hc;refine⟨n1++n2,by rw[a2,a1,aK],d'::ds',λag=>?_,⟨⟨λ k hk=>e1 k (by rwa [iV]at hk),c1⟩,c2⟩,?_,?_⟩
  ·simp only[lp,aK,b1,b2]
  ·intro j hj;simp only[aS,aX]at hj;exact hj.elim (e1 j) (e2 j)
  ·intro j hj;simp only[aS,aX]at hj;exact hj.elim (g1 j) (g2 j)
 |[],_::_,m,m',h,_,_=>by simp[sg]at h
 |_::_,[],m,m',h,_,_=>by simp[sg]at h
end
theorem TK(hf:∀q∈NM,f q.1=q.2)(ho:∀q∈NM,∀c l,get q.1=some (.dc c l)->dp q.2=l.length):∀(rs:List (List (Pt X.ι)))(qs:List (List (DV X)))(m m':MA X),IE get rs qs m=some m'->(∀ q∈m'.nm,q∈NM)->(∀ c∈m'.ip,c=true)->
 ∃aq,m'.ey=m.ey++aq/\∃CM,(∀ ag,xC dp rs (aq++ag)=(CM,ag))/\gO (DN NM) f (qs.map bK) (CM.map bK)/\(∀ j∈(qs.map aS).flatten,DN NM j)/\(∀ j∈(CM.map aS).flatten,SN NM j)
 |[],[],m,m',h,_,_=>by
  simp only[IE,aA]at h;subst h;exact⟨[],by simp,[],λag=>rfl,trivial,by simp,by simp⟩
 |r::rs,q::qs,m,m',h,hn,hc=>by
  simp only[IE]at h;have⟨m1,h1,h⟩:=ai.1 h;have hm:=(AB rs qs m1 m' h).1;obtain⟨n1,a1,d',b1,c1,e1,g1⟩:=Fs hf ho r q m m1 h1 (λ q hq=>hn q (hm.1 q hq)) (λ q hq=>hc q (hm.2 q hq));have⟨n2,a2,ds',b2,c2,e2,g2⟩:=TK hf ho rs qs m1 m' h hn hc;refine⟨n1++n2,by rw[a2,a1,aK],d'::ds',λag=>?_,⟨c1,c2⟩,?_,?_⟩
  ·simp only[xC,aK,b1,b2]
  ·intro j hj;simp only[aC,flatten_cons,aX]at hj;exact hj.elim (e1 j) (e2 j)
  ·intro j hj;simp only[aC,flatten_cons,aX]at hj;exact hj.elim (g1 j) (g2 j)
 |[],_::_,m,m',h,_,_=>by simp[IE]at h
 |_::_,[],m,m',h,_,_=>by simp[IE]at h
end
end
section
variable {X:SX} {get:Nat->Option (br X)} {env:Nat->DV X}
theorem Ki:∀(sl:List (Nat×Pt X.ι))(m m':MA X),Kc get env sl m=some m'->gj m m'/\∃aq,m'.ey=m.ey++aq/\aq.length=(ia sl).length
 |[],m,m',h=>by
  simp only[Kc,aA]at h;subst h;exact⟨gj.refl _,[],by simp,rfl⟩
 |(t,p)::r,m,m',h=>by
  simp only[Kc]at h;rw[ai]at h;obtain⟨m1,h1,h⟩:=h;obtain⟨a1,n1,b1,c1⟩:=aia p _ m m1 h1;have⟨a2,n2,b2,c2⟩:=Ki r m1 m' h;exact⟨a1.trans a2,n1++n2,by rw[b2,b1,aK],by simp[ia,c1,c2]⟩
theorem mM:∀(os:List (Nat×OP X.ι))(m m':MA X),Ff get os m=some m'->gj m m'/\∃aq,m'.ey=m.ey++aq/\aq.length=(cD os).length
 |[],m,m',h=>by
  simp only[Ff,aA]at h;subst h;exact⟨gj.refl _,[],by simp,rfl⟩
 |(k,op)::r,m,m',h=>by
  simp only[Ff]at h;rw[ai]at h;obtain⟨o,h1,h⟩:=h;split at h
  ·rename_i c c' l;rw[ai]at h;obtain⟨l',h2,h⟩:=h;obtain⟨a2,n2,b2,c2⟩:=mM r _ m' h;refine⟨gj.trans (gj.trans (b:=⟨m.nm,m.ey++[⟨.sl c,l'⟩],m.ip⟩) ⟨λ _ h=>h,λ_ h=>h⟩ (qf _ _ _)) a2,[⟨.sl c,l'⟩]++n2,?_,by simp[cD,c2]⟩;rw[b2,(fA _ _ _).1,aK]
  ·rename_i kc vc tg s9 l;rw[ai]at h;obtain⟨l',h2,h⟩:=h;obtain⟨a2,n2,b2,c2⟩:=mM r _ m' h;refine⟨gj.trans (gj.trans (b:=⟨m.nm,m.ey++[⟨.mp kc vc,l'⟩],m.ip⟩) ⟨λ _ h=>h,λ_ h=>h⟩ (qf _ _ _)) a2,[⟨.mp kc vc,l'⟩]++n2,?_,by simp[cD,c2]⟩;rw[b2,(fA _ _ _).1,aK]
  ·rename_i sz rows sz' rows';split at h
   ·rw[ai]at h;obtain⟨m1,h2,h⟩:=h;obtain⟨a1,n1,b1,c1⟩:=AB rows _ _ m1 h2;have⟨a2,n2,b2,c2⟩:=mM r m1 m' h;refine⟨((qf m _ _).trans a1).trans a2,n1++n2,?_,by simp[cD,c1,c2]⟩;rw[b2,b1,(fA _ _ _).1,aK]
   ·cases h
  ·cases h
variable {NM:List (Nat×Nat)} {f:Nat->Nat} {dp:Nat->Nat}
theorem GN:∀(os:List (Nat×OP X.ι))(m m':MA X),Ff get os m=some m'->(∀ q∈m'.nm,q∈NM)->∃aq,m'.ey=m.ey++aq/\∀ag,∀k∈os.map (·.1),∃k' o,(k',k)∈NM/\get k'=some o/\∀c l,o= .dc c l->(k,List.length l)∈lens os (aq++ag)
 |[],m,m',h,_=>by
  simp only[Ff,aA]at h;subst h;exact⟨[],by simp,λag k hk=>by simp at hk⟩
 |(k,op)::r,m,m',h,hn=>by
  simp only[Ff]at h;rw[ai]at h;obtain⟨o,h1,h⟩:=h;split at h
  ·rename_i c c' l;rw[ai]at h;obtain⟨l',h2,h⟩:=h;have hm:=(mM r _ m' h).1;obtain⟨n2,b2,c2⟩:=GN r _ m' h hn;refine⟨[⟨.sl c,l'⟩]++n2,by rw[b2,(fA _ _ _).1,aK],λag j hj=>?_⟩;simp only[aC,aN]at hj;simp only[aK,cons_append,bO,lens];by_cases hjk:j=k
   ·subst hjk;refine⟨_,_,hn _ (hm.1 _ (oF _ _ _)),h1,λc2 l2 he=>?_⟩;injection he with e1 e2;subst e1;have e2:=eq_of_heq e2;subst e2;have:=congrArg List.length (jo h2).2;simp only[length_map]at this;rw[this];exact List.mem_cons_self
   ·rcases hj with rfl |hj
    ·exact(hjk rfl).elim
    ·have⟨k',o',g1,g2,g3⟩:=c2 ag j hj;exact⟨k',o',g1,g2,λc l he=>dS _ (g3 c l he)⟩
  ·rename_i kc vc tg s9 l;rw[ai]at h;obtain⟨l',h2,h⟩:=h;have hm:=(mM r _ m' h).1;obtain⟨n2,b2,c2⟩:=GN r _ m' h hn;refine⟨[⟨.mp kc vc,l'⟩]++n2,by rw[b2,(fA _ _ _).1,aK],λag j hj=>?_⟩;simp only[aC,aN]at hj;simp only[aK,cons_append,bO,lens,List.drop_succ_cons,List.drop_zero];by_cases hjk:j=k
   ·subst hjk;exact⟨_,_,hn _ (hm.1 _ (oF _ _ _)),h1,λc2 l2 he=>by cases he⟩
   ·rcases hj with rfl |hj
    ·exact(hjk rfl).elim
    ·exact c2 ag j hj
  ·rename_i sz rows sz' rows';split at h
   ·have⟨m1,h2,h⟩:=ai.1 h;obtain⟨a1,n1,b1,c1⟩:=AB rows _ _ m1 h2;have hm:=(mM r _ m' h).1;obtain⟨n2,b2,c2⟩:=GN r _ m' h hn;refine⟨n1++n2,by rw[b2,b1,(fA _ _ _).1,aK],λag j hj=>?_⟩;simp only[aC,aN]at hj;have hd:(n1++n2++ag).drop (xA rows).length=n2++ag:=(by rw[<- c1,aK,List.drop_left]);simp only[lens,hd];by_cases hjk:j=k
    ·subst hjk;exact⟨_,_,hn _ (hm.1 _ (a1.1 _ (oF _ _ _))),h1,λc2 l2 he=>by cases he⟩
    ·rcases hj with rfl |hj
     ·exact(hjk rfl).elim
     ·exact c2 ag j hj
   ·cases h
  ·cases h
theorem LK:∀(os:List (Nat×OP X.ι))(L:List (DC X)),((lens os L).map (·.1)).Sublist (os.map (·.1))
 |[],_=>by simp[lens]
 |(k,.l c)::r,L=>by
  simp only[lens];split
  ·exact(LK r _).cons_cons _
  ·exact List.nil_sublist _
 |(k,.m kc vc)::r,L=>by
  simp only[lens];exact(LK r _).cons _
 |(k,.c sz rows)::r,L=>by
  simp only[lens];exact(LK r _).cons _
theorem O7(hf:∀q∈NM,f q.1=q.2)(ho:∀q∈NM,∀c l,get q.1=some (.dc c l)->dp q.2=l.length):∀(sl:List (Nat×Pt X.ι))(m m':MA X),Kc get env sl m=some m'->(∀ q∈m'.nm,q∈NM)->(∀ c∈m'.ip,c=true)->
 ∃aq,m'.ey=m.ey++aq/\∃es,(∀ ag,Np dp sl (aq++ag)=es)/\(∀ p∈es,p.1∈sl.map (·.1)/\k7 (eW f (den (env p.1))) (den p.2)/\(∀ j∈bm (env p.1),DN NM j)/\(∀ j∈bm p.2,SN NM j))
 |[],m,m',h,_,_=>by
  simp only[Kc,aA]at h;subst h;exact⟨[],by simp,[],λag=>rfl,by simp⟩
 |(t,p)::r,m,m',h,hn,hc=>by
  simp only[Kc]at h;have⟨m1,h1,h⟩:=ai.1 h;have hm:=(Ki r m1 m' h).1;obtain⟨n1,a1,d',b1,c1,e1,g1⟩:=aei hf ho p _ m m1 h1 (λ q hq=>hn q (hm.1 q hq)) (λ q hq=>hc q (hm.2 q hq));have⟨n2,a2,es,b2,c2⟩:=O7 hf ho r m1 m' h hn hc;refine⟨n1++n2,by rw[a2,a1,aK],(t,d')::es,λag=>by simp only[Np,aK,b1,b2],λq hq=>?_⟩;rcases aN.1 hq with rfl |hq
  ·exact⟨by simp,c1,e1,g1⟩
  ·have⟨i1,i2⟩:=c2 q hq;exact⟨by simp only[aC,aN];exact .inr i1,i2⟩
theorem aa6{D:Nat->Prop}(f:Nat->Nat):∀rows:List (List Tree),gO D f (aL rows) (aL rows)
 |[]=>trivial
 |r::rs=>by
  refine⟨?_,aa6 f rs⟩
  induction r with
  |nil=>trivial
  |cons y ys ih=>exact⟨⟨by simp[refs],k7.refl _⟩,ih⟩
theorem aa7{a b c d:CT X.ι}{l:List (CT.T X.toSE a×CT.T X.toSE b)}{l':List (CT.T X.toSE c×CT.T X.toSE d)}(h:gD (.mp a b) (.mp c d) l=some l'):bG (.map c d l':br X)=bG (.map a b l):=by
 have⟨e,h⟩:=mJ h;injection e with e1 e2;subst e1;subst e2;subst h;rfl
theorem aa8{D:Nat->Prop}(f:Nat->Nat){kc vc:CT X.ι}:∀l:List (CT.T X.toSE kc×CT.T X.toSE vc),gO D f (bG (.map kc vc l:br X)).rows (bG (.map kc vc l:br X)).rows
 |[]=>trivial
 |p::ps=>⟨⟨⟨by simp[GA],by rw[Xl];exact k7.refl _⟩,⟨by simp[GA],by rw[Xl];exact k7.refl _⟩,trivial⟩,aa8 f ps⟩
theorem CG(hf:∀q∈NM,f q.1=q.2)(ho:∀q∈NM,∀c l,get q.1=some (.dc c l)->dp q.2=l.length):∀(os:List (Nat×OP X.ι))(m m':MA X),Ff get os m=some m'->(∀ q∈m'.nm,q∈NM)->(∀ c∈m'.ip,c=true)->
 ∃aq,m'.ey=m.ey++aq/\∃xs,(∀ ag,cu dp os (aq++ag)=xs)/\(∀ p∈xs,p.1∈os.map (·.1)/\∃k' o o',p.2=some o'/\(k',p.1)∈NM/\get k'=some o/\(bG o').sz=(bG o).sz/\gO (DN NM) f (bG o).rows (bG o').rows/\(∀ j∈dE o',SN NM j))
 |[],m,m',h,_,_=>by
  simp only[Ff,aA]at h;subst h;exact⟨[],by simp,[],λag=>rfl,by simp⟩
 |(k,op)::r,m,m',h,hn,hc=>by
  simp only[Ff]at h;rw[ai]at h;obtain⟨o,h1,h⟩:=h;split at h
  ·rename_i c c' l;rw[ai]at h;obtain⟨l',h2,h⟩:=h;have hm:=(mM r _ m' h).1;obtain⟨n2,a2,xs,b2,c2⟩:=CG hf ho r _ m' h hn hc;refine⟨[⟨.sl c,l'⟩]++n2,by rw[a2,(fA _ _ _).1,aK],(k,some (.dc c l'))::xs,λag=>by simp only[aK,cons_append,bO,cu,b2],λq hq=>?_⟩;rcases aN.1 hq with rfl |hq
   ·refine⟨by simp,_,_,_,rfl,hn _ (hm.1 _ (oF _ _ _)),h1,?_,?_,by simp[dE]⟩
    ·simp only[bG,(jo h2).1]
    ·simp only[bG,(jo h2).2];exact aa6 f _
   ·have⟨i1,i2⟩:=c2 q hq;exact⟨by simp only[aC,aN];exact .inr i1,i2⟩
  ·rename_i kc vc tg s9 l;rw[ai]at h;obtain⟨l',h2,h⟩:=h;have hm:=(mM r _ m' h).1;obtain⟨n2,a2,xs,b2,c2⟩:=CG hf ho r _ m' h hn hc;refine⟨[⟨.mp kc vc,l'⟩]++n2,by rw[a2,(fA _ _ _).1,aK],(k,some (.map kc vc l'))::xs,λag=>by simp only[aK,cons_append,bO,cu,b2],λq hq=>?_⟩;rcases aN.1 hq with rfl |hq
   ·refine⟨by simp,_,_,_,rfl,hn _ (hm.1 _ (oF _ _ _)),h1,?_,?_,by simp[dE]⟩
    ·rw[aa7 h2]
    ·rw[aa7 h2];exact aa8 f _
   ·have⟨i1,i2⟩:=c2 q hq;exact⟨by simp only[aC,aN];exact .inr i1,i2⟩
  ·rename_i sz rows sz' rows';split at h
   ·rename_i hsz;have⟨m1,h2,h⟩:=ai.1 h;have hm1:=(AB rows _ _ m1 h2).1;have hm:=(mM r _ m' h).1;obtain⟨n1,a1,qs,b1,c1,e1,g1⟩:=TK hf ho rows _ _ m1 h2 (λ q hq=>hn q (hm.1 q hq)) (λ q hq=>hc q (hm.2 q hq));obtain⟨n2,a2,xs,b2,c2⟩:=CG hf ho r _ m' h hn hc;refine⟨n1++n2,by rw[a2,a1,(fA _ _ _).1,aK],(k,some (.cells sz qs))::xs,λag=>by simp only[aK,cu,b1,b2],λq hq=>?_⟩;rcases aN.1 hq with rfl |hq
    ·exact⟨by simp,_,_,_,rfl,hn _ (hm.1 _ (hm1.1 _ (oF _ _ _))),h1,hsz,c1,g1⟩
    ·have⟨i1,i2⟩:=c2 q hq;exact⟨by simp only[aC,aN];exact .inr i1,i2⟩
   ·cases h
  ·cases h
theorem ai8{d:DV X}(h:Z1 d=false)(h':d= .undef):False:=by subst h';cases h
theorem acu{A:Type}{sh:Sh X.ι}{ds:List Nat}{s0 s':da X}{k:VT (X:=X) sh.vars->Option A}{r:A}(hl0:Low s0)(hx:Ext (· ∈ds) s0 s')(h:Mb sh ds s0 s' k=some r):
 ∃v,k v=some r/\Low (encS sh s0 v)/\Ext (· ∈ds) s0 (encS sh s0 v)/\∀(P:Program) (w0:World) (O0:jz) (N:Nat) (β:Nat->Option cE) (I:Nat->Prop) (a:Act) (w:World),Rel P w0 O0 N β I s'.st a w->∃ β',Rel P w0 O0 N β' I (encS sh s0 v).st a w:=by
 unfold Mb at h;have⟨m1,h1,h⟩:=ai.1 h;have⟨m,h2,h⟩:=ai.1 h;have⟨h3,h⟩:=dF h;have⟨v,h4,h⟩:=ai.1 h;have⟨h5,h6⟩:=qd h;simp only[Zs,aJ,aT]at h3;obtain⟨⟨⟨⟨⟨⟨⟨⟨n1,n2⟩,n3⟩,n4⟩,n5⟩,n6⟩,n7⟩,n8⟩,n9⟩:=h3;have hm2:=(mM _ _ _ h2).1;have t7:=Xa h4;obtain⟨_,nA,dA,lA⟩:=Ki _ _ _ h1;simp only[bO]at dA;have PH:(m.nm.map (·.1)).Nodup:=(List.nodup_append.1 n1).1;have PF:(m.nm.map (·.2)).Nodup:=(List.nodup_append.1 n2).1;have hsw:((m.nm.map λq=>(q.2,q.1)).map (·.1)).Nodup:=by rw[map_map];exact PF
 generalize hf':(λ j=>match lk m.nm j with |some q=>q |none=>j:Nat->Nat)=f;generalize hg':(λ j=>match lk (m.nm.map λq=>(q.2,q.1)) j with |some q=>q |none=>j:Nat->Nat)=g;have hf:∀q∈m.nm,f q.1=q.2:=by
  rintro⟨p,q⟩ hq;rw[<- hf'];simp only[vT PH hq]
 have hg:∀q∈m.nm,g q.2=q.1:=by
  rintro⟨p,q⟩ hq;rw[<- hg'];have:(q,p)∈m.nm.map λq=>(q.2,q.1):=mem_map.2 ⟨(p,q),hq,rfl⟩;simp only[vT hsw this]
 have m4:∀j∈sh.cW,f j=j:=by
  intro j hj;rw[<- hf'];cases hh:lk m.nm j with
  |none=>simp[hh]
  |some q=>exact((List.nodup_append.1 n1).2.2 j (mem_map.2 ⟨(j,q),sK hh,rfl⟩) j hj rfl).elim
 have GW:∀j∈sh.cW,g j=j:=by
  intro j hj;rw[<- hg'];cases hh:lk (m.nm.map λq=>(q.2,q.1)) j with
  |none=>simp[hh]
  |some q=>
   have h1:=sK hh;simp only[mem_map]at h1;obtain⟨z,hz,e⟩:=h1;injection e with e1 e2;exact((List.nodup_append.1 n2).2.2 j (mem_map.2 ⟨z,hz,e1⟩) j hj rfl).elim
 have hg0:∀j,j<1000->g j=j:=by
  intro j hj;rw[<- hg'];cases hh:lk (m.nm.map λq=>(q.2,q.1)) j with
  |none=>simp[hh]
  |some q=>
   have h1:=sK hh;simp only[mem_map]at h1;obtain⟨z,hz,e⟩:=h1;injection e with e1 e2;have:=all_eq_true.1 n4 z hz;simp only[aJ,Bool.or_eq_true,aT]at this;simp only[hh];omega
 have hgf:∀j,(DN m.nm j\/j∈sh.cW)->g (f j)=j:=by
  rintro j (⟨q,hq⟩ |hj)
  ·rw[hf _ hq];exact hg _ hq
  ·rw[m4 j hj];exact GW j hj
 obtain⟨nB,dB,lB⟩:=GN (NM:=m.nm) _ _ _ h2 (λ q hq=>hq);have hL:m.ey=nA++nB:=by rw[dB,dA]
 have hdrop:(xB sh.vars v).drop (ia sh.slots).length=nB:=by rw[t7,hL,<- lA,List.drop_left]
 have htake:(xB sh.vars v).take (ia sh.slots).length=nA:=by rw[t7,hL,<- lA,List.take_left]
 generalize hol:(λ k=>(lk (lens sh.cH nB) k).getD 0:Nat->Nat)=dp;have ho:∀q∈m.nm,∀c l,f5 s'.obj q.1=some (.dc c l)->dp q.2=l.length:=by
  rintro⟨p,q⟩ hq c l hl;have hqk:=all_eq_true.1 n4 _ hq;simp only[aJ]at hqk;obtain⟨p',o,g1,g2,g3⟩:=lB [] q (by simpa using hqk.1.1);have:p'=p:=by
   have e1:=hg _ g1;have e2:=hg _ hq;simp only at e1 e2;rw[<- e1,e2]
  subst this;simp only at hl;rw[hl]at g2;injection g2 with g2;have h3:=g3 c l g2.symm;rw[append_nil]at h3;rw[<- hol];have hk:=(LK sh.cH nB).nodup n3;simp only[vT hk h3,Option.getD_some]
 obtain⟨N6,HD,es,eA,pA⟩:=O7 (NM:=m.nm) (f:=f) (dp:=dp) hf ho _ _ _ h1 (λ q hq=>hm2.1 q hq) (λ c hc=>h5 c (hm2.2 c hc));obtain⟨N5,Ss,xs,eB,pB⟩:=CG (NM:=m.nm) (f:=f) (dp:=dp) hf ho _ _ _ h2 (λ q hq=>hq) h5;have So:N6=nA:=by simp only[bO]at HD;rw[<- HD,dA]
 have Sf:N5=nB:=List.append_cancel_left (Ss.symm.trans dB);subst So Sf;have HB:=eA [];have HA:=eB [];rw[append_nil]at HB HA;have hS:encS sh s0 v=⟨es++sh.keep.map (λ t=>(t,eE s0.env t)),xs++sh.cW.map (λ k=>(k,f5 s0.obj k)),sh.nx,(List.range s0.nx).filter (λ k=>!sh.cW.contains k)++s0.log⟩:=by simp only[encS,hdrop,htake,hol,HB,HA]
 have hsn:∀j,SN m.nm j->j<sh.nx:=by
  rintro j ⟨p,hp⟩;have:=all_eq_true.1 n4 _ hp;simp only[aJ,aT]at this;exact this.1.2
 have kp:∀j,(sh.cW.contains j || m.nm.contains (j,j))=true->j∈sh.cW\/(j,j)∈m.nm:=by
  intro j hj;simpa using hj
 have hfp:∀j,j∈sh.cW\/(j,j)∈m.nm->f j=j:=λj hj=>hj.elim (m4 j) (λ h=>hf (j,j) h);have hdp:∀j,j∈sh.cW\/(j,j)∈m.nm->DN m.nm j\/j∈sh.cW:=λj hj=>hj.elim .inr (λ h=> .inl ⟨j,h⟩);have hko:∀j∈sh.cW,j<s0.nx/\(∃ o,f5 s0.obj j=some o/\f5 s'.obj j=some o/\∀i∈dE o,i∈sh.cW\/(i,i)∈m.nm):=by
  intro j hj;have:=all_eq_true.1 n7 _ hj;simp only[aJ,aT,Bool.not_eq_true']at this;obtain⟨⟨⟨a1,a2⟩,a3⟩,a4⟩:=this;refine⟨a1,?_⟩;cases ho0:f5 s0.obj j with
  |none=>rw[ho0]at a4;cases a4
  |some o=>
   rw[ho0]at a4;refine⟨o,rfl,?_,λi hi=>kp i (all_eq_true.1 a4 i hi)⟩;obtain⟨d,hd,hd2⟩:=hx.obj;have hnd:j∉d:=by
    have e:s'.log.take (s'.log.length -s0.log.length)=d:=(by rw[hd,dH,Nat.add_sub_cancel,List.take_left]);rw[e]at a2;simpa using a2
   rcases hd2 j a1 hnd with h |h
   ·rw[h,ho0]
   ·rw[h]at a3;cases a3
 have hke:∀t∈sh.keep,t∉ds/\eE s'.env t=eE s0.env t/\∀j∈bm (eE s0.env t),j∈sh.cW\/(j,j)∈m.nm:=by
  intro t ht;have:=all_eq_true.1 n6 _ ht;simp only[aJ,Bool.not_eq_true']at this;obtain⟨⟨a1,a2⟩,a3⟩:=this;have a1':t∉ds:=by simpa using a1
  refine⟨a1',?_,λj hj=>kp j (all_eq_true.1 a3 j hj)⟩;rcases hx.env t a1' with h |h
  ·exact h
  ·exact(ai8 a2 h).elim
 have hks:∀q∈es,q.1∈ds:=by
  intro q hq;have h1:=(pA q hq).1;obtain⟨z,hz,e⟩:=mem_map.1 h1;have:=all_eq_true.1 n5 _ hz;rw[<- e];simpa using this
 have hkeep:∀t,lk (sh.keep.map λt=>(t,eE s0.env t)) t=if t∈sh.keep then some (eE s0.env t)else none:=by
  intro t
  induction sh.keep with
  |nil=>simp[lk]
  |cons q qs ih=>
   simp only[aC,lk,ih,aN];by_cases e:q=t
   ·subst e;simp
   ·rw[aO e];simp[Ne.symm e]
 have zv:∀t,lk (sh.cW.map λt=>(t,f5 s0.obj t)) t=if t∈sh.cW then some (f5 s0.obj t)else none:=by
  intro t
  induction sh.cW with
  |nil=>simp[lk]
  |cons q qs ih=>
   simp only[aC,lk,ih,aN];by_cases e:q=t
   ·subst e;simp
   ·rw[aO e];simp[Ne.symm e]
 have qq:∀t,(∃ d,(t,d)∈es/\eE (encS sh s0 v).env t=d)\/(t∈sh.keep/\eE (encS sh s0 v).env t=eE s0.env t)\/eE (encS sh s0 v).env t= .undef:=by
  intro t;have e1:eE (encS sh s0 v).env t=(match lk es t with |some d=>some d |none=>if t∈sh.keep then some (eE s0.env t)else none).getD .undef:=by
   rw[hS];show(lk (es++sh.keep.map (λ t=>(t,eE s0.env t))) t).getD .undef=_;rw[Fq,hkeep t];cases lk es t<;>rfl
  rw[e1];cases he:lk es t with
  |some d=>exact .inl ⟨d,sK he,rfl⟩
  |none=>
   by_cases ht:t∈sh.keep
   ·simp only[aP ht];exact .inr (.inl ⟨ht,rfl⟩)
   ·simp only[aO ht];exact .inr (.inr rfl)
 have jn:∀j o,f5 (encS sh s0 v).obj j=some o->(∃ k' o1,(k',j)∈m.nm/\f5 s'.obj k'=some o1/\(bG o).sz=(bG o1).sz/\gO (DN m.nm) f (bG o1).rows (bG o).rows/\(∀ i∈dE o,SN m.nm i))\/(j∈sh.cW/\f5 s0.obj j=some o):=by
  intro j o hjo;have e1:f5 (encS sh s0 v).obj j=(match lk xs j with |some d=>some d |none=>if j∈sh.cW then some (f5 s0.obj j)else none).join:=by
   rw[hS];show(lk (xs++sh.cW.map (λ k=>(k,f5 s0.obj k))) j).join=_;rw[Fq,zv j];cases lk xs j<;>rfl
  rw[e1]at hjo;cases he:lk xs j with
  |some x=>
   rw[he]at hjo;obtain⟨_,k',o1,o',b1,b2,b3,b4,b5,b6⟩:=pB _ (sK he);simp only at b1 b2 hjo;subst b1;simp only[Option.join_some,aA]at hjo;subst hjo;exact .inl ⟨k',o1,b2,b3,b4,b5,b6⟩
  |none=>
   rw[he]at hjo;by_cases hj:j∈sh.cW
   ·simp only[aP hj,Option.join_some]at hjo;exact .inr ⟨hj,hjo⟩
   ·simp[aO hj]at hjo
 have hnx:s0.nx<=sh.nx:=n8;have hkx:∀j,j∈sh.cW\/(j,j)∈m.nm->j<sh.nx:=λj hj=>hj.elim (λ hj=>Nat.lt_of_lt_of_le (hko j hj).1 hnx) (λ h=>hsn j ⟨j,h⟩);have hRW:∀{r q:List AV},mz (DN m.nm) f r q->mz (λ j=>DN m.nm j\/j∈sh.cW) f r q:=by
  intro r
  induction r with
  |nil=>intro q h;cases q with
   |nil=>trivial
   |cons=>exact h.elim
  |cons x xs ih=>intro q h;cases q with
   |nil=>exact h.elim
   |cons y ys=>exact⟨⟨λ k hk=> .inl (h.1.1 k hk),h.1.2⟩,ih h.2⟩
 have Q1:∀{r q:List (List AV)},gO (DN m.nm) f r q->gO (λ j=>DN m.nm j\/j∈sh.cW) f r q:=by
  intro r
  induction r with
  |nil=>intro q h;cases q with
   |nil=>trivial
   |cons=>exact h.elim
  |cons x xs ih=>intro q h;cases q with
   |nil=>exact h.elim
   |cons y ys=>exact⟨hRW h.1,ih h.2⟩
 refine⟨v,h6,?_,?_,?_⟩
 ·constructor
  ·rw[hS];exact n9
  ·rw[hS];exact Nat.le_trans hl0.ge n8
  ·intro t j hj;have zd:(encS sh s0 v).nx=sh.nx:=(by rw[hS]);rw[zd];rcases qq t with ⟨d,h1,h2⟩ |⟨h1,h2⟩ |h2
   ·rw[h2]at hj;exact hsn j ((pA _ h1).2.2.2 j hj)
   ·rw[h2]at hj;exact hkx j ((hke t h1).2.2 j hj)
   ·rw[h2]at hj;simp[bm]at hj
  ·intro j o hjo;have zd:(encS sh s0 v).nx=sh.nx:=(by rw[hS]);rw[zd];rcases jn j o hjo with ⟨k',o1,b1,b2,b3,b4,b5⟩ |⟨b1,b2⟩
   ·exact⟨hsn j ⟨k',b1⟩,λi hi=>hsn i (b5 i hi)⟩
   ·have⟨c1,o',c2,c3,c4⟩:=hko j b1;rw[b2]at c2;cases c2;exact⟨hkx j (.inl b1),λi hi=>hkx i (c4 i hi)⟩
 ·refine⟨λ t ht=>?_,⟨(List.range s0.nx).filter (λ k=>!sh.cW.contains k),by rw[hS],λj hj hn=>?_⟩,by rw[hS];exact hnx⟩
  ·rcases qq t with ⟨d,h1,h2⟩ |⟨h1,h2⟩ |h2
   ·exact(ht (hks _ h1)).elim
   ·exact .inl h2
   ·exact .inr h2
  ·have hjk:j∈sh.cW:=(by simpa[hj]using hn);cases hjo:f5 (encS sh s0 v).obj j with
   |none=>exact .inr rfl
   |some o=>
    rcases jn j o hjo with ⟨k',o1,b1,_⟩ |⟨b1,b2⟩
    ·exact((List.nodup_append.1 n2).2.2 j (mem_map.2 ⟨(k',j),b1,rfl⟩) j hjk rfl).elim
    ·exact .inl b2.symm
 ·intro P w0 O0 N β I a w hr;refine⟨_,Rel.re (f:=f) (g:=g) (D:=λj=>DN m.nm j\/j∈sh.cW) hgf hg0 hr (λ _=> .inl rfl) (λ _=>rfl) (λ t=>?_) (λ j o' hj=>?_)⟩
  ·show den (eE (encS sh s0 v).env t)= .undef\/((∀ k∈refs (den (eE s'.env t)),_)/\k7 (eW f (den (eE s'.env t))) (den (eE (encS sh s0 v).env t)));rcases qq t with ⟨d,h1,h2⟩ |⟨h1,h2⟩ |h2
   ·right;rw[h2];obtain⟨_,b1,b2,_⟩:=pA _ h1;exact⟨λ k hk=> .inl (b2 k (by rwa [iV]at hk)),b1⟩
   ·right;have⟨_,b1,b2⟩:=hke t h1;rw[h2,b1];refine⟨λ k hk=>hdp k (b2 k (by rwa [iV]at hk)),?_⟩;rw[<- Cz,Xz _ (λ k hk=>hfp k (b2 k hk))];exact k7.refl _
   ·left;rw[h2];rfl
  ·simp only[da.st,eU]at hj;obtain⟨o,hjo,rfl⟩:=hj;rcases jn j o hjo with ⟨k',o1,b1,b2,b3,b4,b5⟩ |⟨b1,b2⟩
   ·exact⟨k',bG o1,by simp[da.st,b2],.inl ⟨j,b1⟩,hf _ b1,b3,Q1 b4⟩
   ·have⟨c1,o',c2,c3,c4⟩:=hko j b1;rw[b2]at c2;cases c2;have hid:oy f o=o:=by
     cases o with
     |dc c l=>rfl
     |map kc vc l=>rfl
     |cells sz rows=>
      simp only[oy];congr 1;have:∀q∈rows,Mj f q=q:=λq hq=>CF q λi hi=>hfp i (c4 i (by
       simp only[dE,List.mem_flatten,mem_map];exact⟨_,⟨q,hq,rfl⟩,hi⟩))
      rw[map_congr_left this];simp
    obtain⟨r1,r2⟩:=LJ (D:=λj=>DN m.nm j\/j∈sh.cW) f o (λ i hi=>hdp i (c4 i hi));rw[hid]at r1 r2;exact⟨j,bG o,by simp[da.st,c3],.inr b1,m4 j b1,r1,r2⟩
theorem Ext.trans{ds:Nat->Prop}{a b c:da X}(h:Ext ds a b)(h':Ext ds b c):Ext ds a c:=by
 refine⟨λ t ht=>?_,?_,Nat.le_trans h.nx h'.nx⟩
 ·rcases h'.env t ht with h1 |h1
  ·rcases h.env t ht with h2 |h2
   ·exact .inl (h1.trans h2)
   ·exact .inr (h1.trans h2)
  ·exact .inr h1
 ·obtain⟨d,h1,h2⟩:=h.obj;obtain⟨d',h3,h4⟩:=h'.obj;refine⟨d'++d,by rw[h3,h1,aK],λk hk hn=>?_⟩;simp only[aX,not_or]at hn;rcases h4 k (Nat.lt_of_lt_of_le hk h.nx) hn.1 with h5 |h5
  ·rcases h2 k hk hn.2 with h6 |h6
   ·exact .inl (h5.trans h6)
   ·exact .inr (h5.trans h6)
  ·exact .inr h5
theorem Ext.refl(ds:Nat->Prop)(s:da X):Ext ds s s:=⟨λ _ _=> .inl rfl,⟨[],by simp,λ_ _ _=> .inl rfl⟩,aQ _⟩
def Says(s s':da X):Prop:=∀(P:Program) (w0:World) (O0:jz) (N:Nat) (β:Nat->Option cE) (I:Nat->Prop) (a:Act) (w:World),Rel P w0 O0 N β I s.st a w->∃ β',Rel P w0 O0 N β' I s'.st a w
theorem Low.room{s:da X}{P:Program}{w0:World}{O0:jz}{N:Nat}{β:Nat->Option cE}{I:Nat->Prop}{a:Act}{w:World}(hl:Low s)(hr:Rel P w0 O0 N β I s.st a w):∃ β2,β2 s.nx=none/\Rel P w0 O0 N β2 I s.st a w:=by
 have hr1:=hr.restrict hl.old
 have hr2:=Rel.re (f:=id) (g:=λj=>if j<s.nx then j else 1000000) (D:=(· <s.nx)) (s':=s.st) (λ k hk=>aP hk) (λ j hj=>aP (by have:=hl.ge;omega)) hr1 (λ _=> .inl rfl) (λ _=>rfl)
  (λ q=> .inr ⟨λ k hk=>hl.env q k (by rw[<- iV];exact hk),by
   show k7 (eW id (den (eE s.env q))) (den (eE s.env q));rw[<- Cz,Xz (f:=id) _ (λ _ _=>rfl)];exact k7.refl _⟩)
  (λ j o' hj=>by
   simp only[da.st,eU]at hj;obtain⟨x,hx,rfl⟩:=hj;have⟨h1,h2⟩:=hl.obj j x hx;have⟨r1,r2⟩:=LJ (D:=(· <s.nx)) id x h2;have hid:oy id x=x:=by
    cases x with
    |dc c l=>rfl
    |map kc vc l=>rfl
    |cells sz rows=>
     simp only[oy];congr 1;have:∀q∈rows,Mj id q=q:=λq _=>CF (f:=id) q λ_ _=>rfl;rw[map_congr_left this];simp
   rw[hid]at r1 r2;exact⟨j,bG x,by simp[da.st,hx],h1,rfl,r1,r2⟩)
 exact⟨_,by simp,hr2⟩
theorem amj(z:Bool)(k:Nat):bm (nz (X:=X) z k)=[k]:=by cases z<;>rfl
theorem XB{ds:List Nat}{z:Bool}{s:da X}{t:Nat}{c:CT X.ι}(hl:Low s)(ht:t∈ds):Low (xn z s t c)/\Ext (· ∈ds) s (xn z s t c)/\Says s (xn z s t c):=by
 unfold xn;split
 ·rename_i hn;split
  ·rename_i hlt;have he:∀q,eE ((t,nz z s.nx)::s.env) q=if t=q then nz z s.nx else eE s.env q:=λq=>by
    simp only[eE,lk];by_cases e:t=q<;>simp[e]
   have hO:∀q,f5 ((s.nx,some (.dc c []))::s.obj) q=if s.nx=q then some (.dc c [])else f5 s.obj q:=λq=>by
    simp only[f5,lk];by_cases e:s.nx=q<;>simp[e]
   refine⟨⟨by show s.nx+1<=1000000;omega,by have:=hl.ge;show 1000<=s.nx+1;omega,λq k hk=>?_,λk o ho=>?_⟩,⟨λ q hq=>?_,⟨[s.nx],rfl,λk hk hnk=>?_⟩,by show s.nx<=s.nx+1;omega⟩,λP w0 O0 N β I a w hr=>?_⟩
   ·rw[he]at hk;split at hk
    ·simp only[amj,aY]at hk;subst hk;show s.nx<s.nx+1;omega
    ·have:=hl.env q k hk;show k<s.nx+1;omega
   ·rw[hO]at ho;split at ho
    ·rename_i e;cases ho;subst e;exact⟨by show s.nx<s.nx+1;omega,by simp[dE]⟩
    ·have⟨h1,h2⟩:=hl.obj k o ho;exact⟨by show k<s.nx+1;omega,λj hj=>by have:=h2 j hj;show j<s.nx+1;omega⟩
   ·left;rw[he,aO];intro e;subst e;exact hq ht
   ·left;rw[hO,aO (by omega)]
   ·have⟨β2,C0,hr2⟩:=hl.room hr;have⟨hS,hM⟩:=Mem.pf (i:=s.nx) (o:=bG (.dc c []:br X)) hr2.mem C0 rfl;refine⟨ins β2 s.nx .none,hr2.defers,hr2.size,λq=>?_,?_⟩
    ·have h1:=hr2.env q;show eM P _ w I (den (eE ((t,nz z s.nx)::s.env) q)) none _;rw[he];by_cases e:t=q
     ·subst e;rw[aP rfl];have h2:VR P _ w I (den (eE s.env t)) (a.tmps.getD t undef):=h1;rw[hn]at h2;simp only[den,VR]at h2;cases z with
      |false=>simp only[eM,nz,ak,den,VR];exact .inl ⟨by simp[ins],h2,trivial,trivial⟩
      |true=>simp only[eM,nz,aj,den,VR];exact .inl ⟨trivial,h2⟩
     ·rw[aO e];exact eM.mono hS.ext hS.same hS.inc h1
    ·have e:(λ k=>(f5 ((s.nx,some (.dc c []))::s.obj) k).map bG)=bW s.st.obj [(s.nx,some (bG (.dc c []:br X)))]:=by
      funext q;simp only[bW,da.st];rw[hO];by_cases e:s.nx=q
      ·simp[e]
      ·rw[aO e,aO (Ne.symm e)]
     show Mem P w0 O0 _ I (λ k=>(f5 ((s.nx,some (.dc c []))::s.obj) k).map bG) w;rw[e];exact hM
  ·exact⟨hl,Ext.refl _ s,λ_ _ _ _ β _ _ _ h=>⟨β,h⟩⟩
 ·exact⟨hl,Ext.refl _ s,λ_ _ _ _ β _ _ _ h=>⟨β,h⟩⟩
theorem XC(y:DV X):∀(l:List (DV X))(j i:Nat),i∈aS (l.set j y)->i∈aS l\/i∈bm y
 |[],_,_,h=> .inl (by simpa using h)
 |x::l,0,i,h=>by
  simp only[List.set,aS,aX]at h ⊢;rcases h with h |h
  ·exact .inr h
  ·exact .inl (.inr h)
 |x::l,j+1,i,h=>by
  simp only[List.set,aS,aX]at h ⊢;rcases h with h |h
  ·exact .inl (.inl h)
  ·rcases XC y l j i h with h |h
   ·exact .inl (.inr h)
   ·exact .inr h
theorem bj.set{P:Program}{β:Nat->Option cE}{w:World}{I:Nat->Prop}{y:AV}:∀(xs:List AV)(vs:List Value)(j:Nat),(∀ x v,xs[j]? =some x->VR P β w I x v->VR P β w I y v)->bj P β w I xs vs->bj P β w I (xs.set j y) vs
 |[],vs,_,_,h=>by simpa using h
 |x::xs,[],_,_,h=>by simp[bj]at h
 |x::xs,v::vs,0,hy,h=>by simp only[bj,List.set]at h ⊢;exact⟨hy x v rfl h.1,h.2⟩
 |x::xs,v::vs,j+1,hy,h=>by simp only[bj,List.set]at h ⊢;exact⟨h.1,bj.set xs vs j (λ x v e=>hy x v (by simpa using e)) h.2⟩
theorem OR.set1{P:Program}{β:Nat->Option cE}{w:World}{I:Nat->Prop}{sz:Nat}{row:List AV}{j:Nat}{y:AV}{B:cE}(hy:∀x v,row[j]? =some x->VR P β w I x v->VR P β w I y v)(h:OR P β w I ⟨sz,[row]⟩ B):OR P β w I ⟨sz,[row.set j y]⟩ B:=by
 cases B with
 |none=>simp[OR]at h
 | «at» b s n=>
  obtain⟨h1,c,e,h2,h3,h4⟩:=h;refine⟨h1,c,e,h2,h3,?_⟩;simp only[bp,List.length_set]at h4 ⊢;refine⟨h4.1,?_,trivial⟩;rw[lM]at h4 ⊢;intro i x hx;rw[List.getElem?_set]at hx;split at hx
  ·rename_i e;subst e;split at hx
   ·cases hx;rename_i hlt;obtain⟨v,g1,g2,g3⟩:=h4.2.1 j _ (dI hlt);exact⟨v,g1,hy _ v (dI hlt) g2,g3⟩
   ·cases hx
  ·exact h4.2.1 i x hx
 |mp b=>
  obtain⟨es,cl,h1,hle,h2,h3⟩:=h;refine⟨es,cl,h1,hle,λe=>?_,h3⟩;have:=h2 e
  match hes:es.toList,this with
  |[e1],this=>simp only[cA]at this ⊢;exact⟨bj.set _ _ j hy this.1,trivial⟩
  |[],this=>simp[cA]at this
  |_::_::_,this=>simp[cA]at this
theorem aej(y:DV X):∀(l:List (DV X))(j:Nat),bK (l.set j y)=(bK l).set j (den y)
 |[],_=>by simp[bK]
 |x::l,0=>by simp[bK]
 |x::l,j+1=>by simp[bK,aej y l j]
theorem agF{ds:List Nat}{s:da X}{q j:Nat}{c:CT X.ι}(hl:Low s):Low (DH s q j c)/\Ext (· ∈ds) s (DH s q j c)/\Says s (DH s q j c):=by
 unfold DH;split
 ·rename_i sz row hq;split
  ·rename_i hn;split
   ·rename_i hlt;have hqn:q<s.nx:=(hl.obj q _ hq).1;have hrefs:∀k∈aS row,k<s.nx:=λk hk=>(hl.obj q _ hq).2 k (by simpa[dE]using hk);have hO:∀k,f5 ((q,some (.cells sz [row.set j (.own s.nx 0 0)]))::(s.nx,some (.dc c []))::s.obj) k=if q=k then some (.cells sz [row.set j (.own s.nx 0 0)])else if s.nx=k then some (.dc c [])else f5 s.obj k:=λk=>by
     simp only[f5,lk];by_cases e:q=k
     ·simp[e]
     ·by_cases e':s.nx=k<;>simp[e,e']
    refine⟨⟨by show s.nx+1<=1000000;omega,by have:=hl.ge;show 1000<=s.nx+1;omega,λk i hk=>by have:=hl.env k i hk;show i<s.nx+1;omega,λk o ho=>?_⟩,⟨λ _ _=> .inl rfl,⟨[q,s.nx],rfl,λk hk hnk=>?_⟩,by show s.nx<=s.nx+1;omega⟩,λP w0 O0 N β I a w hr=>?_⟩
    ·rw[hO]at ho;split at ho
     ·rename_i e;cases ho;subst e;refine⟨by show q<s.nx+1;omega,λi hi=>?_⟩;show i<s.nx+1;simp only[dE,aC,map_nil,flatten_cons,List.flatten_nil,append_nil]at hi;rcases XC _ _ _ _ hi with h1 |h1
      ·have:=hrefs i h1;omega
      ·simp only[bm,aY]at h1;omega
     ·split at ho
      ·rename_i e;cases ho;subst e;exact⟨by show s.nx<s.nx+1;omega,by simp[dE]⟩
      ·have⟨h1,h2⟩:=hl.obj k o ho;exact⟨by show k<s.nx+1;omega,λi hi=>by have:=h2 i hi;show i<s.nx+1;omega⟩
    ·left;simp only[aN,jB,or_false,not_or]at hnk;rw[hO,aO (Ne.symm hnk.1),aO (Ne.symm hnk.2)]
    ·have⟨β2,C0,hr2⟩:=hl.room hr;have⟨hS,hM⟩:=Mem.pf (i:=s.nx) (o:=bG (.dc c []:br X)) hr2.mem C0 rfl;refine⟨ins β2 s.nx .none,hr2.defers,hr2.size,λk=>eM.mono hS.ext hS.same hS.inc (hr2.env k),?_⟩;refine hM.weak λk o' ho=>?_;simp only[da.st]at ho;rw[hO]at ho;by_cases e:q=k
     ·subst e;rw[aP rfl,Option.map_some]at ho;cases ho;refine⟨bG (.cells sz [row]),by simp only[bW];rw[aO (by omega)];simp[da.st,hq],λB _ hB=>?_⟩;simp only[bG,aC,map_nil,aej]at hB ⊢;refine OR.set1 (λ x v hx hv=>?_) hB;rw[oC,List.getElem?_map,hn]at hx;cases hx;simp only[den,VR]at hv ⊢;exact .inl ⟨by simp[ins],hv,trivial,trivial⟩
     ·rw[aO e]at ho;refine⟨o',?_,λ_ _ h=>h⟩;simp only[bW];by_cases e':s.nx=k
      ·subst e';rw[aP rfl]at ho ⊢;simpa using ho
      ·rw[aO e']at ho;rw[aO (Ne.symm e')];exact ho
   ·exact⟨hl,Ext.refl _ s,λ_ _ _ _ β _ _ _ h=>⟨β,h⟩⟩
  ·exact⟨hl,Ext.refl _ s,λ_ _ _ _ β _ _ _ h=>⟨β,h⟩⟩
 ·exact⟨hl,Ext.refl _ s,λ_ _ _ _ β _ _ _ h=>⟨β,h⟩⟩
theorem O8{ds:List Nat}:∀(l:List (Nat×CT X.ι)){s:da X},Low s->(∀ p∈l,(bif Nat.ble 1000000 p.1 then !Nat.ble 1099511627776 p.1 || ds.contains (p.1 -1099511627776)else ds.contains p.1)=true)->Low (Rv l s)/\Ext (· ∈ds) s (Rv l s)/\Says s (Rv l s)
 |[],s,hl,_=>⟨hl,Ext.refl _ s,λ_ _ _ _ β _ _ _ h=>⟨β,h⟩⟩
 |(t,c)::r,s,hl,hd=>by
  generalize hs:(bif Nat.ble 1000000 t then bif Nat.ble 1099511627776 t then xn true s (t -1099511627776) c else DH s ((t -1000000)/4096) ((t -1000000)%4096) c else xn false s t c)=s1;have h0:Low s1/\Ext (· ∈ds) s s1/\Says s s1:=by
   have hd0:=hd (t,c) (by simp);simp only at hd0;subst hs;cases hb:Nat.ble 1000000 t with
   |true=>
    rw[hb]at hd0;cases hb2:Nat.ble 1099511627776 t with
    |true=>rw[hb2]at hd0;exact XB hl (by simpa using hd0)
    |false=>exact agF hl
   |false=>rw[hb]at hd0;exact XB hl (by simpa using hd0)
  obtain⟨h1,h2,h3⟩:=h0;simp only[Rv,hs];obtain⟨g1,g2,g3⟩:=O8 r h1 (λ p hp=>hd p (by simp[hp]));refine⟨g1,h2.trans g2,λP w0 O0 N β I a w hr=>?_⟩;have⟨β',hr'⟩:=h3 P w0 O0 N β I a w hr;exact g3 P w0 O0 N β' I a w hr'
theorem lV{A:Type}{sh:Sh X.ι}{ds:List Nat}{s0 s':da X}{k:VT (X:=X) sh.vars->Option A}{r:A}(hl0:Low s0)(hl':Low s')(hx:Ext (· ∈ds) s0 s')(h:qQ sh ds s0 s' k=some r):
 ∃v,k v=some r/\Low (encS sh s0 v)/\Ext (· ∈ds) s0 (encS sh s0 v)/\Says s' (encS sh s0 v):=by
 unfold qQ at h;have⟨h1,h2⟩:=dF h;obtain⟨g1,g2,g3⟩:=O8 (ds:=ds) sh.yq hl' (λ p hp=>all_eq_true.1 h1 p hp);have⟨v,i1,i2,i3,i4⟩:=acu hl0 (hx.trans g2) h2;refine⟨v,i1,i2,i3,λP w0 O0 N β I a w hr=>?_⟩;have⟨β',hr'⟩:=g3 P w0 O0 N β I a w hr;exact i4 P w0 O0 N β' I a w hr'
end
def gP:Code->List Nat
 | .region _ am _=>am.toList.filterMap (·.dst)
 | .seq a b=>gP a++gP b
 | .cond _ a b=>gP a++gP b
 | .block _ b=>gP b
 | .loop b=>gP b
 |_=>[]
section
variable {X:SX}
section
variable {P:Program} {N:Nat}
def M8{A:Type}(ds:List Nat)(s:da X)(k:Exit->da X->Option A)(r:A)(e:Exit)(σ:St):Prop:=∃s',Low s'/\Ext (· ∈ds) s s'/\σ=s'.st/\k e s'=some r
theorem aib{c:Code}{Q Q':Exit->St->Prop}{σ:St}(h:Ev P N c Q σ)(ht:∀e σ,Q e σ->∀w0 O0 β I a w,Rel P w0 O0 N β I σ a w->∃ β' σ',Rel P w0 O0 N β' I σ' a w/\sy σ'/\Q' e σ'):Ev P N c Q' σ:=by
 intro w0 O0 β I a w hr ho;refine wp_mono (h w0 O0 β I a w hr ho) ?_;rintro e a' w' ⟨β',I',σ',h1,_,h3⟩;have⟨β2,σ2,g1,g2,g3⟩:=ht e σ' h3 w0 O0 β' I' a' w' h1;exact⟨β2,I',σ2,g1,g2,g3⟩
end
end
inductive Hn(ι:Type) where
 |z
 |f (l:List Nat)
 |s (a b:Hn ι)
 |b (a:Hn ι)
 |j (sh:Sh ι) (a:Hn ι)
 |jx (sh:Sh ι) (a:Hn ι)
 |l (head:Sh ι) (id:Nat) (ab:Sh ι) (a:Hn ι)
 |lx (head:Sh ι) (id:Nat) (ab:Sh ι) (a:Hn ι)
 |rg (head:Sh ι) (a:Hn ι)
 |un (a r:Hn ι)
def Hn.fz{ι:Type}:Hn ι->List Nat
 | .f is=>is
 |_=>[]
def Hn.fst{ι:Type}:Hn ι->Hn ι
 | .s a _=>a
 |_=> .z
def Hn.snd{ι:Type}:Hn ι->Hn ι
 | .s _ y=>y
 |_=> .z
def Hn.sub{ι:Type}:Hn ι->Hn ι
 | .b a=>a
 |_=> .z
def iter{V O:Type}(step:V->Option (V⊕O)):Nat->V->Option O
 | 0,_=>none
 |n+1,v=>(step v).bind λr=>match r with
  | .inl v=>iter step n v
  | .inr o=>some o
def Ix{X:SX}{A:Type}(body:Hn X.ι->da X->(Exit->da X->Option A)->Option A):Hn X.ι->da X->(Exit->da X->Option A)->Option A
 | .un a r,s,k=>body a s λe s'=>match e with
  | .normal=>Ix body r s' k
  |e=>k e s'
 |_,_,_=>none
def dw{W A:Type}(o:Option (W⊕A))(f:W->Option A):Option A:=o.bind λr=>match r with
 | .inl w=>f w
 | .inr a=>some a
noncomputable def both{A:Type}(x y:Option A):Option A:=open Classical in if x=y then x else none
theorem ai9{A:Type}{x y:Option A}{r:A}(h:both x y=some r):x=some r/\y=some r:=by
 unfold both at h;split at h
 ·rename_i e;exact⟨h,e ▸ h⟩
 ·cases h
theorem aja{A:Type}(x:Option A):both x x=x:=by simp[both]
section
variable {X:SX}
def E6(ds:List Nat)(s:da X)(h:Hn X.ι){A:Type}(k:Exit->da X->Option A)(body:(B:Type)->Hn X.ι->(Exit->da X->Option B)->Option B):Option A:=
 match h with
 | .j sh h'=>(body (VT (X:=X) sh.vars) h' λe s'=>match e with
  | .normal=>qQ sh ds s s' some
  |_=>none).bind λv=>k .normal (encS sh s v)
 | .jx sh h'=>dw (body (VT (X:=X) sh.vars⊕A) h' λe s'=>match e with
  | .normal=>qQ sh ds s s' λv=>some (.inl v)
  |e=>(k e s').map .inr) λv=>k .normal (encS sh s v)
 |h=>body A h k
variable (Γ:FuncId->Option (bz X)) (T:dy) (ao:TypeId->Option (CT X.ι)) (N n:Nat)
noncomputable def run:Code->(A:Type)->Hn X.ι->da X->(Exit->da X->Option A)->Option A
 | .skip,_,_,s,k=>k .normal s
 | .region id am d,A,h,s,k=>E6 (gP (.region id am d)) s h k λ_ h k=>Vc Γ h.fz T ao N am d s (k .normal)
 | .seq x y,A,h,s,k=>E6 (gP (.seq x y)) s h k λB h k=>run x B h.fst s λe s'=>match e with
  | .normal=>run y B h.snd s' k
  |e=>k e s'
 | .cond c x y,A,h,s,k=>E6 (gP (.cond c x y)) s h k λB h k=>match ZH (eE s.env) c with
  | .c .bool v=>bif v then run x B h.fst s k else run y B h.snd s k
  | .ub=>both (run x B h.fst s k) (run y B h.snd s k)
  |_=>none
 | .block id b,A,h,s,k=>E6 (gP (.block id b)) s h k λB h k=>run b B h.sub s λe s'=>match e with
  | .exit j=>if j=id then k .normal s' else k (.exit j) s'
  |e=>k e s'
 | .loop b,A,h,s,k=>match h with
  | .l hd id ab h'=>qQ hd (gP b) s s λv0=>(iter (λ v=>run b (VT (X:=X) hd.vars⊕VT (X:=X) ab.vars) h' (encS hd s v) λe s'=>match e with
   | .normal=>qQ hd (gP b) s s' λv=>some (.inl v)
   | .exit j=>if j=id then qQ ab (gP b) s s' λw=>some (.inr w)else none
   |_=>none) n v0).bind λw=>k (.exit id) (encS ab s w)
  | .lx hd id ab h'=>qQ hd (gP b) s s λv0=>dw (iter (λ v=>run b (VT (X:=X) hd.vars⊕(VT (X:=X) ab.vars⊕A)) h' (encS hd s v) λe s'=>match e with
   | .normal=>qQ hd (gP b) s s' λv=>some (.inl v)
   | .exit j=>if j=id then qQ ab (gP b) s s' λw=>some (.inr (.inl w))else(k (.exit j) s').map λa=> .inr (.inr a)
   |e=>(k e s').map λa=> .inr (.inr a)) n v0) λw=>k (.exit id) (encS ab s w)
  | .un a r=>Ix (λ h s k=>run b A h s k) (.un a r) s k
  |_=>none
 | .exit id,_,_,s,k=>k (.exit id) s
 | .ret,_,_,s,k=>k .ret s
 | .label _,_,_,s,k=>k .normal s
 |_,_,_,_,_=>none
section
variable {Γ:FuncId->Option (bz X)} {T:dy} {ao:TypeId->Option (CT X.ι)} {N n:Nat} {P:Program}
theorem Ext.wide{ds ds':Nat->Prop}{a b:da X}(h:Ext ds a b)(hd:∀t,ds t->ds' t):Ext ds' a b:=⟨λ t ht=>h.env t λhh=>ht (hd t hh),h.obj,h.nx⟩
theorem map_inr{α β:Type}{o:Option β}{r:α⊕β}(h:o.map Sum.inr=some r):∃b,o=some b/\r= .inr b:=by
 cases o with
 |none=>cases h
 |some b=>injection h with h;exact⟨b,rfl,h.symm⟩
theorem GQ{c:Code}{s:da X}{h:Hn X.ι}{A:Type}{k:Exit->da X->Option A}{r:A}{body:(B:Type)->Hn X.ι->(Exit->da X->Option B)->Option B}(hl:Low s)
 (hb:∀(B:Type)(h:Hn X.ι)(k:Exit->da X->Option B)(r:B),body B h k=some r->Ev P N c (M8 (gP c) s k r) s.st) (hr:E6 (gP c) s h k body=some r):Ev P N c (M8 (gP c) s k r) s.st:=by
 unfold E6 at hr;split at hr
 ·rename_i sh h';rw[ai]at hr;obtain⟨v,h1,hr⟩:=hr;refine aib (hb _ _ _ _ h1) ?_;rintro e σ ⟨s',g1,g2,rfl,g4⟩ w0 O0 β I a w hrel;cases e<;>simp only[reduceCtorEq]at g4;have⟨v',i1,i2,i3,i4⟩:=lV hl g1 g2 g4;cases i1;have⟨β',i5⟩:=i4 P w0 O0 N β I a w hrel;exact⟨β',_,i5,i2.old,_,i2,i3,rfl,hr⟩
 ·rename_i sh h';unfold dw at hr;have⟨v,h1,hr⟩:=ai.1 hr;refine aib (hb _ _ _ _ h1) ?_;rintro e σ ⟨s',g1,g2,rfl,g4⟩ w0 O0 β I a w hrel;have other:(k e s').map Sum.inr=some v->∃ β' σ',Rel P w0 O0 N β' I σ' a w/\sy σ'/\M8 (gP c) s k r e σ':=by
   intro hm;obtain⟨b,hk,rfl⟩:=map_inr hm;cases hr;exact⟨β,_,hrel,g1.old,s',g1,g2,rfl,hk⟩
  cases e with
  |normal=>
   simp only at g4;have⟨v',i1,i2,i3,i4⟩:=lV hl g1 g2 g4;cases i1;have⟨β',i5⟩:=i4 P w0 O0 N β I a w hrel;exact⟨β',_,i5,i2.old,_,i2,i3,rfl,hr⟩
  |_=>exact other g4
 ·exact hb _ _ _ _ hr
theorem ajb{id:Nat}{am:Array Oper}{d:Bool}{t:Nat}(h:TH am t):t∈gP (.region id am d):=by
 obtain⟨j,op,h1,h2⟩:=h;simp only[gP,List.mem_filterMap];exact⟨op,by rw[<- Array.getElem?_toList]at h1;exact cB h1,h2⟩
theorem XD{b:Code}{s:da X}{hd:Sh X.ι}{O:Type}{step:VT (X:=X) hd.vars->Option (VT (X:=X) hd.vars⊕O)}{kb:Exit->da X->Option (VT (X:=X) hd.vars⊕O)}{Q:Exit->St->Prop}(hl:Low s)
 (hkn:∀s',kb .normal s'=qQ hd (gP b) s s' λv=>some (.inl v))
 (hstep:∀v r,Low (encS hd s v)->step v=some r->Ev P N b (M8 (gP b) (encS hd s v) kb r) (encS hd s v).st)
 {o:O} (hQ:∀e s',e≠ .normal->Low s'->Ext (· ∈gP b) s s'->kb e s'=some (.inr o)->∀w0 O0 β I a w,Rel P w0 O0 N β I s'.st a w->∃ β' σ',Rel P w0 O0 N β' I σ' a w/\sy σ'/\Q e σ')
 (hno:∀e s' v,e≠ .normal->kb e s'=some (.inl v)->False) (n:Nat) (v0:VT (X:=X) hd.vars) (h:iter step n v0=some o) (hl0:Low (encS hd s v0)) (hx0:Ext (· ∈gP b) s (encS hd s v0)):Ev P N (.loop b) Q (encS hd s v0).st:=by
 intro w0 O0 β I a w hr ho;refine aaI (λ n a w=>∃ β I v,Rel P w0 O0 N β I (encS hd s v).st a w/\iter step n v=some o/\Low (encS hd s v)/\Ext (· ∈gP b) s (encS hd s v)) (λ a w ⟨_,_,v,_,h,_⟩=>by cases h) ?_ n a w ⟨β,I,v0,hr,h,hl0,hx0⟩;rintro n a w ⟨β,I,v,hr,hi,hlv,hxv⟩;simp only[iter]at hi;have⟨r,h1,hi⟩:=ai.1 hi;refine wp_mono (hstep v r hlv h1 w0 O0 β I a w hr hlv.old) ?_;rintro e a' w' ⟨β',I',σ',g1,_,s',g2,g3,rfl,g4⟩;have hxs:=hxv.trans g3;by_cases he:e= .normal
 ·subst he;rw[hkn]at g4;have⟨v',i1,i2,i3,i4⟩:=lV hl g2 hxs g4;cases i1;have⟨β2,i5⟩:=i4 P w0 O0 N β' I' a' w' g1;exact⟨β2,I',v',i5,hi,i2,i3⟩
 ·cases r with
  |inl v'=>exact(hno e s' v' he g4).elim
  |inr o'=>
   cases hi;have⟨β2,σ2,i1,i2,i3⟩:=hQ e s' he g2 hxs g4 w0 O0 β' I' a' w' g1;cases e with
   |normal=>exact(he rfl).elim
   |_=>exact⟨β2,I',σ2,i1,i2,i3⟩
theorem XE{A:Type}{sh:Sh X.ι}{ds:List Nat}{s0 s':da X}{k:VT (X:=X) sh.vars->Option A}{r:A}(h:qQ sh ds s0 s' k=some r):∃v,k v=some r:=by
 unfold qQ at h;have⟨_,h⟩:=dF h;unfold Mb at h;have⟨m1,h1,h⟩:=ai.1 h;have⟨m,h2,h⟩:=ai.1 h;have⟨h3,h⟩:=dF h;have⟨v,h4,h⟩:=ai.1 h;exact⟨v,(qd h).2⟩
theorem aek{α β γ:Type}{o:Option γ}{r:α⊕(β⊕γ)}(h:o.map (λ a=>Sum.inr (Sum.inr a))=some r):∃b,o=some b/\r= .inr (.inr b):=by
 cases o with
 |none=>cases h
 |some b=>injection h with h;exact⟨b,rfl,h.symm⟩
def Hn.len{ι:Type}:Hn ι->Nat
 | .un _ r=>r.len+1
 |_=>0
theorem ajc{b:Code}{A:Type}{body:Hn X.ι->da X->(Exit->da X->Option A)->Option A}{s0:da X}{k:Exit->da X->Option A}{r:A}
 (hb:∀(h:Hn X.ι)(s:da X)(k:Exit->da X->Option A)(r:A),Low s->body h s k=some r->Ev P N b (M8 (gP b) s k r) s.st)
 {h:Hn X.ι} (hl:Low s0) (hr:Ix body h s0 k=some r):Ev P N (.loop b) (M8 (gP (.loop b)) s0 k r) s0.st:=by
 refine al3 (λ n σ=>∃(h:Hn X.ι)(s:da X),σ=s.st/\h.len=n/\Low s/\Ext (· ∈gP b) s0 s/\Ix body h s k=some r) ?_ ?_ h.len ⟨h,s0,rfl,rfl,hl,Ext.refl _ s0,hr⟩
 ·rintro σ ⟨h,s,_,h1,_,_,h2⟩;cases h<;>first |cases h2 |cases h1
 ·rintro n σ ⟨h,s,rfl,h1,h2,h3,h4⟩;cases h<;>try cases h4
  rename_i a q;simp only[Hn.len,Nat.add_right_cancel_iff]at h1;refine(hb a s _ r h2 h4).mono ?_;rintro e σ ⟨s',g1,g2,rfl,g4⟩;have hx:=h3.trans g2;cases e with
  |normal=>exact⟨q,s',rfl,h1,g1,hx,g4⟩
  |_=>exact⟨s',g1,hx,rfl,g4⟩
theorem lu(hT:eZ P T)(hm:P.follows .mixedOrders=true)(hΓ:rL P Γ):∀(c:Code)(A:Type)(h:Hn X.ι)(s:da X)(k:Exit->da X->Option A)(r:A),Low s->run Γ T ao N n c A h s k=some r->Ev P N c (M8 (gP c) s k r) s.st
 | .skip,A,h,s,k,r,hl,hr=>al0 ⟨s,hl,Ext.refl _ s,rfl,hr⟩
 | .exit id,A,h,s,k,r,hl,hr=>al1 ⟨s,hl,Ext.refl _ s,rfl,hr⟩
 | .ret,A,h,s,k,r,hl,hr=>ano ⟨s,hl,Ext.refl _ s,rfl,hr⟩
 | .label l,A,h,s,k,r,hl,hr=>akk ⟨s,hl,Ext.refl _ s,rfl,hr⟩
 | .region id am d,A,h,s,k,r,hl,hr=>by
  refine GQ hl (λ B h k r hb=>?_) hr;have⟨s',g1,g2,g3,g4⟩:=acr (id:=id) hT hm hΓ hl hb;exact g4.mono λe σ ⟨he,hσ⟩=>⟨s',g2,g3.wide λt ht=>ajb ht,hσ,by rw[he];exact g1⟩
 | .seq x y,A,h,s,k,r,hl,hr=>by
  refine GQ hl (λ B h k r hb=>?_) hr;refine anp ((lu hT hm hΓ x B _ s _ r hl hb).mono ?_);rintro e σ ⟨s',g1,g2,rfl,g4⟩;have wide:Ext (· ∈gP (.seq x y)) s s':=g2.wide λt ht=>by simp[gP,ht]
  cases e with
  |normal=>
   exact(lu hT hm hΓ y B _ s' k r g1 g4).mono λe σ ⟨s2,i1,i2,i3,i4⟩=>⟨s2,i1,wide.trans (i2.wide λt ht=>by simp[gP,ht]),i3,i4⟩
  |_=>exact⟨s',g1,wide,rfl,g4⟩
 | .cond c x y,A,h,s,k,r,hl,hr=>by
  refine GQ hl (λ B h k r hb=>?_) hr;split at hb
  ·rename_i v hv;refine al2 v (λ _ _=>rfl) ?_ ?_
   ·have:=WN (eE s.env) c;rw[hv]at this;exact this.symm
   ·cases v with
    |true=>exact(lu hT hm hΓ x B _ s k r hl hb).mono λe σ ⟨s2,i1,i2,i3,i4⟩=>⟨s2,i1,i2.wide λt ht=>by simp[gP,ht],i3,i4⟩
    |false=>exact(lu hT hm hΓ y B _ s k r hl hb).mono λe σ ⟨s2,i1,i2,i3,i4⟩=>⟨s2,i1,i2.wide λt ht=>by simp[gP,ht],i3,i4⟩
  ·rename_i hv;have⟨hb1,hb2⟩:=ai9 hb;refine af7 (λ _ _=>rfl) ?_ ?_ ?_
   ·have:=WN (eE s.env) c;rw[hv]at this;exact this.symm
   ·exact(lu hT hm hΓ x B _ s k r hl hb1).mono λe σ ⟨s2,i1,i2,i3,i4⟩=>⟨s2,i1,i2.wide λt ht=>by simp[gP,ht],i3,i4⟩
   ·exact(lu hT hm hΓ y B _ s k r hl hb2).mono λe σ ⟨s2,i1,i2,i3,i4⟩=>⟨s2,i1,i2.wide λt ht=>by simp[gP,ht],i3,i4⟩
  ·cases hb
 | .block id b,A,h,s,k,r,hl,hr=>by
  refine GQ hl (λ B h k r hb=>?_) hr;refine akl ((lu hT hm hΓ b B _ s _ r hl hb).mono ?_);rintro e σ ⟨s',g1,g2,rfl,g4⟩;cases e with
  |exit j=>
   simp only[VV];simp only at g4;split
   ·rw[aP ‹_›]at g4;exact⟨s',g1,g2,rfl,g4⟩
   ·rw[aO ‹_›]at g4;exact⟨s',g1,g2,rfl,g4⟩
  |_=>exact⟨s',g1,g2,rfl,g4⟩
 | .loop b,A,h,s,k,r,hl,hr=>by
  simp only[run]at hr;split at hr
  ·rename_i hd id ab h';obtain⟨v0,h1,h2,h3,h4⟩:=lV hl hl (Ext.refl _ s) hr;rw[ai]at h1;obtain⟨w,h5,h6⟩:=h1;intro w0 O0 β I a ww hrel ho;have⟨β',hrel'⟩:=h4 P w0 O0 N β I a ww hrel;refine XD (Q:=M8 (gP (.loop b)) s k r) hl (λ s'=>rfl) (λ v r hlv hs=>lu hT hm hΓ b _ h' (encS hd s v) _ r hlv hs) (λ e s' he hls hxs hk=>?_) (λ e s' v he hk=>?_) n v0 h5 h2 h3 w0 O0 β' I a ww hrel' h2.old
   ·cases e with
    |exit j=>
     simp only at hk;split at hk
     ·rename_i hj;subst hj;have⟨w',i1,i2,i3,i4⟩:=lV hl hls hxs hk;injection i1 with i1;cases i1;intro w0 O0 β I a ww hrel;have⟨β',hrel'⟩:=i4 P w0 O0 N β I a ww hrel;exact⟨β',_,hrel',i2.old,_,i2,i3,rfl,h6⟩
     ·cases hk
    |normal=>exact(he rfl).elim
    |_=>cases hk
   ·cases e with
    |exit j=>
     simp only at hk;split at hk
     ·have⟨w',i1⟩:=XE hk;injection i1 with i1;cases i1
     ·cases hk
    |normal=>exact he rfl
    |_=>cases hk
  ·rename_i hd id ab h';obtain⟨v0,h1,h2,h3,h4⟩:=lV hl hl (Ext.refl _ s) hr;unfold dw at h1;rw[ai]at h1;obtain⟨w,h5,h6⟩:=h1;intro w0 O0 β I a ww hrel ho;have⟨β',hrel'⟩:=h4 P w0 O0 N β I a ww hrel;refine XD (Q:=M8 (gP (.loop b)) s k r) hl (λ s'=>rfl) (λ v r hlv hs=>lu hT hm hΓ b _ h' (encS hd s v) _ r hlv hs) (λ e s' he hls hxs hk=>?_) (λ e s' v he hk=>?_) n v0 h5 h2 h3 w0 O0 β' I a ww hrel' h2.old
   ·intro w0 O0 β I a ww hrel;have other:(k e s').map (λ a=>Sum.inr (Sum.inr a))=some (Sum.inr w:VT (X:=X) hd.vars⊕(VT (X:=X) ab.vars⊕A))->∃ β' σ',Rel P w0 O0 N β' I σ' a ww/\sy σ'/\M8 (gP (.loop b)) s k r e σ':=by
     intro hm;have⟨q,hq,hr⟩:=aek hm;cases hr;cases h6;exact⟨β,_,hrel,hls.old,s',hls,hxs,rfl,hq⟩
    cases e with
    |exit j=>
     simp only at hk;split at hk
     ·rename_i hj;subst hj;have⟨w',i1,i2,i3,i4⟩:=lV hl hls hxs hk;injection i1 with i1;cases i1;have⟨β',hrel'⟩:=i4 P w0 O0 N β I a ww hrel;exact⟨β',_,hrel',i2.old,_,i2,i3,rfl,h6⟩
     ·exact other hk
    |normal=>exact(he rfl).elim
    |_=>exact other hk
   ·have other:(k e s').map (λ a=>Sum.inr (Sum.inr a))=some (Sum.inl v:VT (X:=X) hd.vars⊕(VT (X:=X) ab.vars⊕A))->False:=by
     intro hm;have⟨q,hq,hr⟩:=aek hm;cases hr
    cases e with
    |exit j=>
     simp only at hk;split at hk
     ·have⟨w',i1⟩:=XE hk;injection i1 with i1;cases i1
     ·exact other hk
    |normal=>exact he rfl
    |_=>exact other hk
  ·exact ajc (body:=λh s k=>run Γ T ao N n b A h s k) (λ h s k r hl h1=>lu hT hm hΓ b A h s k r hl h1) hl hr
  ·cases hr
 | .rangeFunc ..,_,_,_,_,_,_,hr=>by cases hr
 | .scope _,_,_,_,_,_,_,hr=>by cases hr
 | .goto _,_,_,_,_,_,_,hr=>by cases hr
 | .refuse _,_,_,_,_,_,_,hr=>by cases hr
end
end
section
variable {X:SX}
def jL:Nat->(l:List (AT X.ι))->jg X l->List (DV X)
 |_,[],_=>[]
 |n,.d c::l,a=> .c c a.1::jL n l a.2
 |n,.ref c::l,a=> .rp c a.1 0::jL n l a.2
 |n,.cT as r::l,a=> .cT as r a.1::jL n l a.2
 |n,.mut _::l,a=> .own n 0 (List.length a.1)::jL (n+1) l a.2
 |n,.fp _::l,a=> .ptr n 0 0::jL (n+1) l a.2
 |n,.nil::l,a=> .nil::jL n l a.2
def Dy:(l:List (AT X.ι))->jg X l->List (br X)
 |[],_=>[]
 | .mut c::l,a=> .dc c a.1::Dy l a.2
 | .fp c::l,a=> .cells (CT.sz X c) [vU c a.1]::Dy l a.2
 | .d _::l,a=>Dy l a.2
 | .ref _::l,a=>Dy l a.2
 | .cT _ _::l,a=>Dy l a.2
 | .nil::l,a=>Dy l a.2
theorem tJ:∀(n:Nat)(l:List (AT X.ι))(a:jg X l),bK (jL n l a)=dQ n l a
 |_,[],_=>rfl
 |n,.d c::l,a=>by simp only[jL,bK,den,dQ,tJ n l a.2]
 |n,.ref c::l,a=>by simp only[jL,bK,den,dQ,tJ n l a.2]
 |n,.cT as r::l,a=>by simp only[jL,bK,dQ,tJ n l a.2]
 |n,.mut c::l,a=>by simp only[jL,bK,den,dQ,tJ (n+1) l a.2]
 |n,.fp c::l,a=>by simp only[jL,bK,den,dQ,tJ (n+1) l a.2]
 |n,.nil::l,a=>by simp only[jL,bK,den,dQ,tJ n l a.2]
theorem xE:∀(l:List (AT X.ι))(a:jg X l),(Dy l a).map bG=(qN l a).map hZ
 |[],_=>rfl
 | .d _::l,a=>xE l a.2
 | .ref _::l,a=>xE l a.2
 | .cT _ _::l,a=>xE l a.2
 | .nil::l,a=>xE l a.2
 | .mut c::l,a=>by simp only[Dy,qN,aC,xE l a.2];rfl
 | .fp c::l,a=>by simp only[Dy,qN,aC,xE l a.2,bG,hZ,sM,aL,map_nil,nU]
theorem pO:∀(n:Nat)(l:List (AT X.ι))(a:jg X l),∀k∈aS (jL n l a),k<n+qP l
 |_,[],_,k,hk=>by simp[jL,aS]at hk
 |n,.d c::l,a,k,hk=>by
  have:=pO n l a.2 k (by simpa[jL,aS,bm]using hk);simpa[qP,AT.im]using this
 |n,.ref c::l,a,k,hk=>by
  have:=pO n l a.2 k (by simpa[jL,aS,bm]using hk);simpa[qP,AT.im]using this
 |n,.cT as r::l,a,k,hk=>by
  have:=pO n l a.2 k (by simpa[jL,aS,bm]using hk);simpa[qP,AT.im]using this
 |n,.nil::l,a,k,hk=>by
  have:=pO n l a.2 k (by simpa[jL,aS,bm]using hk);simpa[qP,AT.im]using this
 |n,.mut c::l,a,k,hk=>by
  simp only[jL,aS,bm,List.singleton_append,aN]at hk;simp only[qP,AT.im,if_true];rcases hk with rfl |hk
  ·omega
  ·have:=pO (n+1) l a.2 k hk;omega
 |n,.fp c::l,a,k,hk=>by
  simp only[jL,aS,bm,List.singleton_append,aN]at hk;simp only[qP,AT.im,if_true];rcases hk with rfl |hk
  ·omega
  ·have:=pO (n+1) l a.2 k hk;omega
theorem lW:∀(n:Nat)(l:List (AT X.ι))(a:jg X l),(dQ n l a).length=l.length
 |_,[],_=>rfl
 |n,.d c::l,a=>by simp only[dQ,bF,lW n l a.2]
 |n,.ref c::l,a=>by simp only[dQ,bF,lW n l a.2]
 |n,.cT as r::l,a=>by simp only[dQ,bF,lW n l a.2]
 |n,.mut c::l,a=>by simp only[dQ,bF,lW (n+1) l a.2]
 |n,.fp c::l,a=>by simp only[dQ,bF,lW (n+1) l a.2]
 |n,.nil::l,a=>by simp only[dQ,bF,lW n l a.2]
theorem lX:∀(l:List (AT X.ι))(a:jg X l),(qN l a).length=qP l
 |[],_=>rfl
 | .d _::l,a=>by simpa[qP,AT.im,qN]using lX l a.2
 | .ref _::l,a=>by simpa[qP,AT.im,qN]using lX l a.2
 | .cT _ _::l,a=>by simpa[qP,AT.im,qN]using lX l a.2
 | .nil::l,a=>by simpa[qP,AT.im,qN]using lX l a.2
 | .mut _::l,a=>by simp only[qN,bF,lX l a.2,qP,AT.im,if_true];omega
 | .fp _::l,a=>by simp only[qN,bF,lX l a.2,qP,AT.im,if_true];omega
def vl(l:List (AT X.ι))(a:jg X l):da X:=⟨(List.range l.length).zip (jL 0 l a),(List.range (Dy l a).length).zip ((Dy l a).map some),1000,[]⟩
theorem aic(l:List (AT X.ι))(a:jg X l)(k:Nat):f5 (vl l a).obj k=(Dy l a)[k]? :=by
 have h:(List.range (Dy l a).length).zip ((Dy l a).map some)=(List.range ((Dy l a).map some).length).zip ((Dy l a).map some):=by rw[length_map]
 simp only[vl,f5];rw[h,Dr,List.getElem?_map];cases (Dy l a)[k]?<;>rfl
theorem anG(l:List (AT X.ι))(a:jg X l):(vl l a).st=q6.st ⟨(List.range (Ar l a).length).zip (Ar l a),(List.range ((qN l a).map hZ).length).zip ((qN l a).map hZ)⟩:=by
 have ho:∀k,((f5 (vl l a).obj k).map bG)=lk ((List.range ((qN l a).map hZ).length).zip ((qN l a).map hZ)) k:=by
  intro k;rw[Dr,aic,<- xE,List.getElem?_map]
 simp only[da.st,q6.st,St.mk.injEq,and_true];refine⟨?_,funext ho⟩;funext t;simp only[vl];rw[lW,Ar,<- tJ];generalize jL 0 l a=ds;have:∀(ks:List Nat)(ds:List (DV X)),den (eE (ks.zip ds) t)=(lk (ks.zip (bK ds)) t).getD .undef:=by
  intro ks
  induction ks with
  |nil=>intro ds;rfl
  |cons k ks ih=>
   intro ds;cases ds with
   |nil=>rfl
   |cons d ds=>
    simp only[List.zip_cons_cons,eE,lk,bK];by_cases h:k=t
    ·simp[h]
    ·simp only[aO h];exact ih ds
 exact this _ _
theorem amk(l:List (AT X.ι))(a:jg X l)(hm:qP l<=1000):Low (vl l a):=by
 refine⟨by show 1000<=1000000;decide,aQ _,λt k hk=>?_,λk o ho=>?_⟩
 ·have h0:=pO 0 l a;simp only[vl]at hk;generalize jL 0 l a=ds at hk h0;have:∀(ks:List Nat)(ds:List (DV X)),(∀ k∈aS ds,k<0+qP l)->∀k∈bm (eE (ks.zip ds) t),k<1000:=by
   intro ks
   induction ks with
   |nil=>intro ds _ k hk;simp[eE,lk,bm]at hk
   |cons k ks ih=>
    intro ds h j hj;cases ds with
    |nil=>simp[eE,lk,bm]at hj
    |cons d ds=>
     simp only[List.zip_cons_cons,eE,lk]at hj;by_cases e:k=t
     ·simp only[aP e,Option.getD_some]at hj;have:=h j (by simp[aS,hj]);omega
     ·simp only[aO e]at hj;exact ih ds (λ k hk=>h k (by simp[aS,hk])) j hj
  exact this _ _ h0 k hk
 ·rw[aic]at ho;have hl:(Dy l a).length=qP l:=by rw[<- lX l a];simpa using congrArg List.length (xE l a)
  refine⟨by have:=(dm.1 ho).1;show k<1000;omega,λj hj=>?_⟩;have hz:∀(l:List (AT X.ι))(a:jg X l),∀o∈Dy l a,dE o=[]:=by
   intro l
   induction l with
   |nil=>intro a o ho;simp[Dy]at ho
   |cons q l ih=>
    intro a o ho;cases q<;>simp only[Dy,aN]at ho
    case «mut» c=>rcases ho with rfl |ho;rfl;exact ih _ o ho
    case fp c=>
     rcases ho with rfl |ho
     ·have h1:aS (vU c a.1)=[]:=by
       rw[<- iA,nU];generalize CT.row X.toSE c a.1=r
       induction r with
       |nil=>rfl
       |cons y ys ih=>simp only[aC,eH,refs,ih,bO]
      simp[dE,h1]
     ·exact ih _ o ho
    all_goals exact ih _ o ho
  rw[hz l a o (cB ho)]at hj;cases hj
variable (T:dy)
def B7(s:da X):ResultVar->Option (DV X)
 | .tmp t=>some (eE s.env t)
 | .cell a t=>(T t).bind λti=>match eE s.env a with
  | .ptr kk row aa=>(f5 s.obj kk).bind λo=>match o with
   | .cells _ rows=>(rows[row]?).bind λr=>J5 ti.agg ti.size ((r.drop aa).take ti.size)
   | .dc b l=>(X.ar t).bind λa=>(gD (.sl b) (.sl a.c) l).bind λl=>if row=0/\aa=0/\ti.agg=true/\(X.cV a.i).length=ti.size/\2<=ti.size then(a.g (sub l 0 ti.size)).bind λy=>some (.c (.st a.i) y)else none
   |_=>none
  |_=>none
def TM(s:da X):List ResultVar->Option (List (DV X))
 |[]=>some []
 |r::rs=>(B7 T s r).bind λv=>(TM s rs).bind λvs=>some (v::vs)
theorem akL{s:da X}{r:ResultVar}{d:DV X}(h:B7 T s r=some d):Rb T s.st r=some (den d):=by
 cases r with
 |tmp t=>simp only[B7,aA]at h;subst h;rfl
 |cell a t=>
  simp only[B7]at h;rw[ai]at h;obtain⟨ti,h1,h⟩:=h;split at h
  ·rename_i kk row aa hp;rw[ai]at h;obtain⟨o,h2,h⟩:=h;split at h
   ·rename_i sz rows;rw[ai]at h;obtain⟨q,h3,h⟩:=h;have h4:=E9 h;rw[kG]at h4
    show(match LA T t (den (eE s.env a)) (λ k=>(f5 s.obj k).map bG)with
     |some ⟨v,[],[]⟩=>some v
     |_=>none)=some (den d)
    simp only[LA,EX,h1,ah,hp,den,h2,Option.map_some,bG,List.getElem?_map,h3,h4,pv]
   ·rename_i b l0;rw[ai]at h;obtain⟨ar,h3,h⟩:=h;rw[ai]at h;obtain⟨l,h4,h⟩:=h;split at h
    ·rename_i hc;obtain⟨rfl,rfl,c1,c2,c3⟩:=hc;have⟨y,h5,h⟩:=ai.1 h;cases h;have ho:=(X.m7 t ar h3).1;have hk:(λ k=>(f5 s.obj k).map bG) kk=some ⟨1,eG (l.map λx=>den (.c ar.c x:DV X))⟩:=by
      have h6:Dd (f5 s.obj) kk ar.c=some l:=(by unfold Dd;rw[h2];exact h4);have⟨o,g1,g2⟩:=Xi ho h6;simp only[g1,Option.map_some,g2]
     have hA:=Xj (T:=T) (g:=λk=>(f5 s.obj k).map bG) h1 h3 c1 c2 hk h5;have hN:EX T t (den (.ptr kk 0 0:DV X)) .none (λ k=>(f5 s.obj k).map bG)=none:=by
      simp only[EX,h1,ah,den,hk];cases l with
      |nil=>rfl
      |cons z zs=>
       simp only[aC,eG,List.getElem?_cons_zero,ah,List.drop_zero];have:part' ti.agg ti.size (List.take ti.size [den (.c ar.c z:DV X)])=none:=by
        unfold part';rw[aO];simp only[List.length_take,bF,List.length_nil];omega
       show(part' ti.agg ti.size (List.take ti.size [den (.c ar.c z:DV X)])).bind pv=none;rw[this];rfl
     show(match LA T t (den (eE s.env a)) (λ k=>(f5 s.obj k).map bG)with
      |some ⟨v,[],[]⟩=>some v
      |_=>none)=some (den (.c (.st ar.i) y:DV X))
     rw[hp];simp only[LA,hN,hA]
    ·cases h
   ·cases h
  ·cases h
def XF{A:Type}(s:da X):List ResultVar->(List (DV X)->Option A)->Option A
 |[],k=>k []
 | .tmp t::rs,k=>XF s rs λvs=>k (eE s.env t::vs)
 | .cell a t::rs,k=>(T t).bind λti=>match eE s.env a with
  | .ptr kk row aa=>(f5 s.obj kk).bind λo=>match o with
   | .cells _ rows=>(rows[row]?).bind λr=>(J5 ti.agg ti.size ((r.drop aa).take ti.size)).bind λv=>XF s rs λvs=>k (v::vs)
   | .dc b l=>(X.ar t).bind λa=>(gD (.sl b) (.sl a.c) l).bind λl=>if row=0/\aa=0/\ti.agg=true/\(X.cV a.i).length=ti.size/\2<=ti.size then(a.g (sub l 0 ti.size)).bind λy=>XF s rs λvs=>k (.c (.st a.i) y::vs)else none
   |_=>none
  |_=>none
theorem Fu{A:Type}{s:da X}:∀{rs:List ResultVar}{k:List (DV X)->Option A}{r:A},XF T s rs k=some r->∃ds,TM T s rs=some ds/\k ds=some r
 |[],k,r,h=>⟨[],rfl,h⟩
 | .tmp t::rs,k,r,h=>by
  have⟨ds,h1,h2⟩:=Fu (rs:=rs) h;exact⟨_,by simp only[TM,B7,h1,ah],h2⟩
 | .cell a t::rs,k,r,h=>by
  simp only[XF]at h;rw[ai]at h;obtain⟨ti,h1,h⟩:=h;split at h
  ·rename_i kk row aa hp;rw[ai]at h;obtain⟨o,h2,h⟩:=h;split at h
   ·rw[ai]at h;obtain⟨q,h3,h⟩:=h;rw[ai]at h;obtain⟨v,h4,h⟩:=h;have⟨ds,h5,h6⟩:=Fu (rs:=rs) h;exact⟨_,by simp only[TM,B7,h1,hp,h2,h3,h4,h5,ah],h6⟩
   ·rw[ai]at h;obtain⟨ar,h3,h⟩:=h;rw[ai]at h;obtain⟨l,h4,h⟩:=h;split at h
    ·rename_i hc;have⟨y,h5,h⟩:=ai.1 h;have⟨ds,h6,h7⟩:=Fu (rs:=rs) h;exact⟨_,by simp only[TM,B7,h1,hp,h2,h3,h4,h5,h6,ah];rw[aP hc];rfl,h7⟩
    ·cases h
   ·cases h
  ·cases h
theorem Rw{s:da X}:∀{rs:List ResultVar}{ds:List (DV X)},TM T s rs=some ds->nT T s.st rs=some (bK ds)
 |[],ds,h=>by simp only[TM,aA]at h;subst h;rfl
 |r::rs,ds,h=>by
  simp only[TM]at h;have⟨d,h1,h⟩:=ai.1 h;have⟨ds',h2,h⟩:=ai.1 h;cases h;simp only[nT,akL T h1,Rw h2,ah,bK]
def Rx:List (RT X.ι)->List (DV X)->Option Nat
 | .mu _::l,ds=>Rx l ds
 | .mr _::l,ds=>Rx l ds
 | .mv::l,ds=>Rx l ds
 | .fresh _::l,d::ds=>match d with
  | .own k _ _=>some k
  |_=>Rx l ds
 | .d _::l,_::ds=>Rx l ds
 | .whole _::l,_::ds=>Rx l ds
 |_,_=>none
def wg:List (RT X.ι)->List (DV X)->List (Nat×Nat)
 | .mu _::l,ds=>wg l ds
 | .mr _::l,ds=>wg l ds
 | .mv::l,ds=>wg l ds
 | .whole j::l,d::ds=>match d with
  | .own _ _ len=>(j,len)::wg l ds
  |_=>wg l ds
 | .d _::l,_::ds=>wg l ds
 | .fresh _::l,_::ds=>wg l ds
 |_,_=>[]
def xG:Nat->List (RT X.ι)->List Nat
 |_,[]=>[]
 |n,.mu _::l=>n::xG (n+1) l
 |n,.mr _::l=>n::xG (n+1) l
 |n,.mv::l=>xG (n+1) l
 |n,_::l=>xG n l
def ri:Nat->List (RT X.ι)->List Nat
 |_,[]=>[]
 |n,.mu _::l=>n::ri (n+1) l
 |n,.mr _::l=>ri (n+1) l
 |n,.mv::l=>ri (n+1) l
 |n,_::l=>ri n l
def HX(bad:List Nat)(ks:List Nat):Bool:=ks.all λk=>!bad.contains k
def V2(get:Nat->Option (br X))(row:List (DV X))(c:CT X.ι):Option (CT.T X.toSE c×List Bool):=
 match c with
 | .st i=>(yG get row (X.cV i)).bind λh=>some (X.make i h.1,h.2)
 |c=>match row with
  |[d]=>Ty get d c
  |_=>none
def Kj(get:Nat->Option (br X))(c:CT X.ι):List (List (DV X))->Option (List (CT.T X.toSE c)×List Bool)
 |[]=>some ([],[])
 |r::rs=>(V2 get r c).bind λx=>(Kj get c rs).bind λy=>some (x.1::y.1,x.2++y.2)
def O9(get:Nat->Option (br X))(bad qS:List Nat)(fk:Option Nat)(wl:List (Nat×Nat))(n:Nat):(q:RT X.ι)->List (DV X)->Option ((RT.T X q×List Bool)×List (DV X))
 | .d c,d::ds=>if HX bad (bm d)then(IC get d c).bind λx=>some (x,ds)else none
 | .fresh e,d::ds=>match d with
  | .nil=>some (([],[]),ds)
  | .own k 0 len=>if fk=some k then(get k).bind λo=>match o with
   | .dc b l=>(gD (.sl b) (.sl e) l).bind λ(l:List (CT.T X.toSE e))=>some ((sub l 0 len,[bk (sub l 0 len).length len]),ds)
   | .cells sz rows=>if sz=CT.sz X e/\HX bad (rows.map aS).flatten=true then(Kj get e rows).bind λx=>some ((x.1,bk len (List.length x.1)::x.2),ds)else none
   | .map _ _ _=>none
   else none
  |_=>none
 | .whole j,d::ds=>match d with
  | .own k 0 len=>if k=j/\qS.contains j=true then(lk wl j).bind λej=>some (((),[bk len ej]),ds)else none
  |_=>none
 | .mu c,ds=>(get n).bind λo=>match o with
  | .dc b l=>(gD (.sl b) (.sl c) l).bind λ(l:List (CT.T X.toSE c))=>match lk wl n with
   |some len=>some ((sub l 0 len,[bk (sub l 0 len).length len]),ds)
   |none=>some ((l,[]),ds)
  |_=>none
 | .mr c,ds=>(get n).bind λo=>match o with
  | .cells sz [row]=>if sz=CT.sz X c/\HX bad (aS row)=true then(V2 get row c).bind λx=>some (x,ds)else none
  |_=>none
 | .mv,ds=>some (((),[]),ds)
 |_,[]=>none
def Pb(get:Nat->Option (br X))(bad qS:List Nat)(fk:Option Nat)(wl:List (Nat×Nat)):Nat->(l:List (RT X.ι))->(ds:List (DV X))->Option (ul X l×List Bool)
 |_,[],ds=>match ds with
  |[]=>some ((),[])
  |_=>none
 |n,[q],ds=>(O9 get bad qS fk wl n q ds).bind λp=>match p.2 with
  |[]=>some p.1
  |_=>none
 |n,q::q'::l,ds=>(O9 get bad qS fk wl n q ds).bind λp=>(Pb get bad qS fk wl (if q.out then n+1 else n) (q'::l) p.2).bind λy=>some ((p.1.1,y.1),p.1.2++y.2)
def L7(s:da X)(l:List (RT X.ι))(ds:List (DV X)):Option (ul X l×List Bool):=
 if HX (xG 0 l) (Rx l ds).toList then Pb (f5 s.obj) (xG 0 l++(Rx l ds).toList) (ri 0 l) (Rx l ds) (wg l ds) 0 l ds else none
def aoh(rs:List ResultVar)(l:List (RT X.ι)):Exit->da X->Option (ul X l)
 | .normal,s=>XF T s rs λds=>(L7 s l ds).bind λx=>WR x.2 (some x.1)
 | .ret,s=>XF T s rs λds=>(L7 s l ds).bind λx=>WR x.2 (some x.1)
 |_,_=>none
def exit(A:Type)(k:da X->Option A):Exit->da X->Option A
 | .normal,s=>k s
 | .ret,s=>k s
 |_,_=>none
variable {T}
section
variable {get:Nat->Option (br X)} {fk:Option Nat} {os':List (Option fe)} {bad:List Nat}
theorem GR{ks:List Nat}(h:HX bad ks=true):∀j∈ks,j∉bad:=λj hj=>by simpa using all_eq_true.1 h j hj
theorem Ry(hbad:∀j,j∉bad->fk≠some j/\¬kept os' j){d:DV X}{c:CT X.ι}{x:CT.T X.toSE c×List Bool}(hc:c.one=true)(h:Ty get d c=some x)(hb:∀b∈x.2,b=true)(m4:∀j∈bm d,j∉bad):∃t,CT.tv X.toSE c x.1= .s t/\Ra (fD get) fk os' (den d) t:=by
 obtain⟨t,h1,h2⟩:=row_one hc x.1;refine⟨t,h2,?_⟩;have hbase:∀y,Mi d c=some y->y=x.1->Ra (fD get) fk os' (den d) t:=by
  intro y hy he;subst he;have h3:=xu hy;rw[h2]at h3;have h4:=W0 hc hy;unfold Mi at hy;split at hy
  ·rw[(iU hy).1];simp only[den,h2,TV.av,Ra]
  ·simp only[den,Gb.wk,TV.av,AV.t.injEq]at h3;simp only[den,Ra];exact h3.symm
  ·simp only[den,Gb.wk,TV.av,AV.t.injEq]at h3;simp only[den,Ra];exact h3.symm
  ·cases hy
 unfold Ty at h;split at h
 ·rename_i kk aa len e;rw[ai]at h;obtain⟨o,h3,h⟩:=h;split at h
  ·rename_i b l0;rw[ai]at h;obtain⟨l,h4,h⟩:=h;cases h;have h5:(sub l aa len).length=len:=(by simpa[bk]using hb (bk (sub l aa len).length len) (by simp));have⟨h6,h7⟩:=jo h4;obtain⟨hf1,hf2⟩:=hbad kk (m4 kk (by simp[bm]));simp only[den,Ra];refine⟨hf1,hf2,bG (.dc b l0),(sub l aa len).map (CT.row X.toSE e),by simp[fD,h3],?_,by simpa using h5,?_⟩
   ·simp only[bG,h7];simp[aL,sub,map_take,map_drop]
   ·simpa[CT.row]using h1.symm
  ·cases h
 ·rename_i kk aa len;rw[ai]at h;obtain⟨o,h3,h⟩:=h;split at h
  ·rename_i b l0;cases h;have h5:(sub l0 aa len).length=len:=(by simpa[bk]using hb (bk (sub l0 aa len).length len) (by simp));obtain⟨hf1,hf2⟩:=hbad kk (m4 kk (by simp[bm]));simp only[den,Ra];refine⟨hf1,hf2,bG (.dc b l0),(sub l0 aa len).map (CT.row X.toSE b),by simp[fD,h3],?_,by simpa using h5,?_⟩
   ·simp only[bG];simp[aL,sub,map_take,map_drop]
   ·simpa[CT.row]using h1.symm
  ·cases h
 ·rename_i kk len e;rw[ai]at h;obtain⟨o,h3,h⟩:=h;split at h
  ·rename_i b l0;have⟨l,h4,h⟩:=ai.1 h;cases h;have h5:(sub l 0 len).length=len:=(by simpa[bk]using hb (bk (sub l 0 len).length len) (by simp));have⟨h6,h7⟩:=jo h4;obtain⟨hf1,hf2⟩:=hbad kk (m4 kk (by simp[bm]));simp only[den,Ra];refine⟨hf1,hf2,bG (.dc b l0),(sub l 0 len).map (CT.row X.toSE e),by simp[fD,h3],?_,by simpa using h5,?_⟩
   ·simp only[bG,h7];simp[aL,sub,map_take,map_drop]
   ·simpa[CT.row]using h1.symm
  ·cases h
 ·have⟨y,h3,h⟩:=ai.1 h;injection h with h;exact hbase y h3 (by rw[<- h])
theorem Nu(hbad:∀j,j∉bad->fk≠some j/\¬kept os' j):∀{ds:List (DV X)}{l:List (CT X.ι)}{h:HL X.toSE l×List Bool},yG get ds l=some h->(∀ b∈h.2,b=true)->l.all CT.one=true->(∀ j∈aS ds,j∉bad)->lh (fD get) fk os' (bK ds) (HL.row X.toSE l h.1)
 |[],[],h,_,_,_,_=>trivial
 |d::ds,c::l,h,hr,hb,ha,m4=>by
  simp only[yG]at hr;have⟨x,h1,hr⟩:=ai.1 hr;have⟨g,h2,hr⟩:=ai.1 hr;cases hr;simp only[all_cons,aJ]at ha;obtain⟨t,i1,i2⟩:=Ry hbad ha.1 h1 (λ b hb'=>hb b (by simp[hb'])) (λ j hj=>m4 j (by simp[aS,hj]));have i3:=Nu hbad h2 (λ b hb'=>hb b (by simp[hb'])) ha.2 (λ j hj=>m4 j (by simp[aS,hj]));obtain⟨t',j1,j2⟩:=row_one ha.1 x.1;rw[i1]at j2;cases j2;show lh (fD get) fk os' (den d::bK ds) (CT.row X.toSE c x.1++HL.row X.toSE l g.1);rw[j1];exact⟨i2,i3⟩
 |[],_::_,_,hr,_,_,_=>by simp[yG]at hr
 |_::_,[],_,hr,_,_,_=>by simp[yG]at hr
theorem TN(hbad:∀j,j∉bad->fk≠some j/\¬kept os' j){row:List (DV X)}{c:CT X.ι}{x:CT.T X.toSE c×List Bool}(h:V2 get row c=some x)(hb:∀b∈x.2,b=true)(m4:∀j∈aS row,j∉bad):lh (fD get) fk os' (bK row) (CT.row X.toSE c x.1):=by
 cases c
 case st i=>
  replace h:(yG get row (X.cV i)).bind (λ h=>some (X.make i h.1,h.2))=some x:=h
  have⟨g,h1,h⟩:=ai.1 h;cases h;have:=Nu hbad h1 hb (X.flat i) m4;show lh (fD get) fk os' (bK row) (X.row i (X.make i g.1));rw[X.gh];exact this
 all_goals
  match row,h,m4 with
  |[d],h,m4=>
   obtain⟨t,i1,i2⟩:=Ry (fk:=fk) hbad rfl h hb (λ j hj=>m4 j (by simp[aS,hj]));obtain⟨t',j1,j2⟩:=row_one rfl x.1;rw[i1]at j2;cases j2;rw[j1];exact⟨i2,trivial⟩
  |[],h,_=>cases h
  |_::_::_,h,_=>cases h
theorem Pd(hbad:∀j,j∉bad->fk≠some j/\¬kept os' j){c:CT X.ι}:∀{rows:List (List (DV X))}{x:List (CT.T X.toSE c)×List Bool},Kj get c rows=some x->(∀ b∈x.2,b=true)->(∀ j∈(rows.map aS).flatten,j∉bad)->en (fD get) fk os' (rows.map bK) (x.1.map (CT.row X.toSE c))/\rows.length=List.length x.1
 |[],x,h,_,_=>by simp only[Kj,aA]at h;subst h;exact⟨trivial,rfl⟩
 |r::rs,x,h,hb,m4=>by
  simp only[Kj]at h;have⟨y,h1,h⟩:=ai.1 h;have⟨z,h2,h⟩:=ai.1 h;cases h;have i1:=TN hbad h1 (λ b hb'=>hb b (by simp[hb'])) (λ j hj=>m4 j (by simp[hj]));obtain⟨i2,i3⟩:=Pd hbad h2 (λ b hb'=>hb b (by simp[hb'])) (λ j hj=>m4 j (by simp only[aC,flatten_cons,aX];exact .inr hj));exact⟨⟨i1,i2⟩,by simp[i3]⟩
theorem akM{x:AV}{t:Tree}(h:Ra (fD get) fk os' x t):DE (fD get) fk os' x (.d (.s t)):=by cases x<;>first |exact h |exact h.elim
theorem GU(sz:CT X.ι)(l:List (CT.T X.toSE sz)):en (fD get) fk os' (aL (l.map (CT.row X.toSE sz))) (l.map (CT.row X.toSE sz)):=by
 generalize l.map (CT.row X.toSE sz)=rows
 induction rows with
 |nil=>trivial
 |cons r rs ih=>
  refine⟨?_,ih⟩;show lh (fD get) fk os' (r.map AV.t) r
  induction r with
  |nil=>trivial
  |cons y ys ih2=>exact⟨rfl,ih2⟩
theorem akN(hbad:∀j,j∉bad->fk≠some j/\¬kept os' j){c:CT X.ι}{d:DV X}{x:CT.T X.toSE c×List Bool}(h:IC get d c=some x)(m4:∀j∈bm d,j∉bad)(hb:∀b∈x.2,b=true):DE (fD get) fk os' (den d) (.d (CT.tv X.toSE c x.1)):=by
 cases c
 case st i=>
  replace h:D4 get d i=some x:=h
  cases d
  case agg cs=>
   simp only[D4]at h;have⟨g,h1,h⟩:=ai.1 h;cases h;have:=Nu (fk:=fk) hbad h1 hb (X.flat i) (by simpa[bm]using m4);show lh (fD get) fk os' (bK cs) (X.row i (X.make i g.1));rw[X.gh];exact this
  case c a y=>
   simp only[D4]at h;have⟨z,h1,h⟩:=ai.1 h;cases h;rw[(iU h1).1];show lh (fD get) fk os' ((X.row i z).map AV.t) (X.row i z);generalize X.row i z=l
   induction l with
   |nil=>trivial
   |cons y ys ih=>exact⟨rfl,ih⟩
  all_goals cases h
 all_goals
  have⟨t,i1,i2⟩:=Ry (fk:=fk) hbad rfl h hb m4;rw[i1];exact akM i2
theorem XG{qS:List Nat}{wl:List (Nat×Nat)}{ns:List Nat}{n:Nat}(hbad:∀j,j∉bad->fk≠some j/\¬kept os' j)(qn:∀k,fk=some k->¬kept os' k)(hns:∀j ej,j∈qS->lk wl j=some ej->ns.getD j 0=ej)(hmu:∀j∈qS,kept os' j){q:RT X.ι}{ds:List (DV X)}{p:(RT.T X q×List Bool)×List (DV X)}(h:O9 get bad qS fk wl n q ds=some p)(hb:∀b∈p.1.2,b=true):
 (∀ cs,m8 (fD get) fk os' (bK p.2) cs->m8 (fD get) fk os' (bK ds) (Xd ns q p.1.1++cs))/\
 (∀ t,qO q p.1.1=[some t]->∃o,get n=some o/\(bG o).sz=t.1/\en (fD get) fk os' ((bG o).rows.take t.2.length) t.2)/\
 (∀ ej c,q= .mu c->lk wl n=some ej->ZL q p.1.1=[ej]):=by
 cases q
 case d c=>
  cases ds with
  |nil=>simp[O9]at h
  |cons d ds=>
   simp only[O9]at h;split at h
   ·rename_i hnb;rw[ai]at h;obtain⟨x,h1,h⟩:=h;cases h;exact⟨λ cs hcs=>⟨akN hbad h1 (GR hnb) hb,hcs⟩,λt ht=>by simp[qO]at ht,λ_ _ h=>by cases h⟩
   ·cases h
 case fresh e=>
  cases ds with
  |nil=>simp[O9]at h
  |cons d ds=>
   refine⟨λ cs hcs=>?_,λt ht=>by simp[qO]at ht,λ_ _ h=>by cases h⟩;simp only[O9]at h;split at h
   ·cases h;exact⟨rfl,hcs⟩
   ·rename_i k len;split at h
    ·rename_i m4;rw[ai]at h;obtain⟨o,h1,h⟩:=h;split at h
     ·rename_i b l0;rw[ai]at h;obtain⟨l,h2,h⟩:=h;cases h;have⟨h3,h4⟩:=jo h2;have h5:(sub l 0 len).length=len:=(by simpa[bk]using hb (bk (sub l 0 len).length len) (by simp));refine⟨⟨m4,qn k m4,rfl,bG (.dc b l0),by simp[fD,h1],by simp only[bG];exact h3,?_,by simpa using h5⟩,hcs⟩;have e1:(bG (.dc b l0)).rows.take len=aL ((sub l 0 len).map (CT.row X.toSE e)):=by
       simp only[bG,h4];simp[aL,sub,map_take]
      rw[e1];exact GU e _
     ·rename_i sz rows;split at h
      ·rename_i hc;rw[ai]at h;obtain⟨x,h2,h⟩:=h;cases h;obtain⟨i1,i2⟩:=Pd (fk:=fk) hbad h2 (λ b hb'=>hb b (by simp[hb'])) (GR hc.2);have h5:len=List.length x.1:=(by simpa[bk]using hb (bk len (List.length x.1)) (by simp));refine⟨⟨m4,qn k m4,rfl,bG (.cells sz rows),by simp[fD,h1],hc.1,?_,by simpa using h5.symm⟩,hcs⟩;simp only[bG];rw[List.take_of_length_le (by simp;omega)];exact i1
      ·cases h
     ·cases h
    ·cases h
   ·cases h
 case whole j=>
  cases ds with
  |nil=>simp[O9]at h
  |cons d ds=>
   refine⟨λ cs hcs=>?_,λt ht=>by simp[qO]at ht,λ_ _ h=>by cases h⟩;simp only[O9]at h;split at h
   ·rename_i k len;split at h
    ·rename_i hc;obtain⟨rfl,hm⟩:=hc;rw[ai]at h;obtain⟨ej,h1,h⟩:=h;cases h;have h5:len=ej:=(by simpa[bk]using hb (bk len ej) (by simp));have hm:k∈qS:=(by simpa using hm);refine⟨⟨rfl,rfl,?_,hmu k hm⟩,hcs⟩;rw[h5];exact hns k ej hm h1
    ·cases h
   ·cases h
 case mu c=>
  simp only[O9]at h;rw[ai]at h;obtain⟨o,h1,h⟩:=h;split at h
  ·rename_i b l0;rw[ai]at h;obtain⟨l,h2,h⟩:=h;have⟨h3,h4⟩:=jo h2;split at h
   ·rename_i len hl;cases h;have h5:(sub l 0 len).length=len:=(by simpa[bk]using hb (bk (sub l 0 len).length len) (by simp));refine⟨λ cs hcs=>hcs,λt ht=>?_,λej c' _ hl'=>?_⟩
    ·simp only[qO,List.cons.injEq,aA,and_true]at ht;subst ht;refine⟨_,h1,by simp only[bG,sM];exact h3,?_⟩;have e1:(bG (.dc b l0)).rows.take (sM c (sub l 0 len)).2.length=aL (sM c (sub l 0 len)).2:=by
      simp only[bG,h4,sM,length_map,h5];simp[aL,sub,map_take]
     rw[e1];exact GU c _
    ·rw[hl]at hl';injection hl' with hl';subst hl';simp only[ZL,h5]
   ·rename_i hl;cases h;refine⟨λ cs hcs=>hcs,λt ht=>?_,λej c' _ hl'=>by rw[hl]at hl';cases hl'⟩;simp only[qO,List.cons.injEq,aA,and_true]at ht;subst ht;refine⟨_,h1,by simp only[bG,sM];exact h3,?_⟩;have e1:(bG (.dc b l0)).rows.take (sM c l).2.length=aL (sM c l).2:=by
     simp only[bG,h4,sM];rw[List.take_of_length_le (by simp[aL])]
    rw[e1];exact GU c _
  ·cases h
 case mr c=>
  simp only[O9]at h;rw[ai]at h;obtain⟨o,h1,h⟩:=h;split at h
  ·rename_i sz row;split at h
   ·rename_i hc;have⟨x,h2,h⟩:=ai.1 h;cases h;refine⟨λ cs hcs=>hcs,λt ht=>?_,λ_ _ h=>by cases h⟩;simp only[qO,List.cons.injEq,aA,and_true]at ht;subst ht;refine⟨_,h1,by simp only[bG,sM];exact hc.1,?_⟩;exact⟨TN hbad h2 hb (GR hc.2),trivial⟩
   ·cases h
  ·cases h
 case mv=>
  simp only[O9,aA]at h;subst h;exact⟨λ cs hcs=>hcs,λt ht=>by simp[qO]at ht,λ_ _ h=>by cases h⟩
theorem Kk{q:RT X.ι}{x:RT.T X q}:(qO q x).length=(if q.out then 1 else 0)/\(ZL q x).length=(if q.out then 1 else 0):=by cases q<;>exact⟨rfl,rfl⟩
theorem Kl{n j:Nat}{q:RT X.ι}{l:List (RT X.ι)}:j∈ri n (q::l)->(j=n/\∃c,q= .mu c)\/j∈ri (if q.out then n+1 else n) l:=by
 cases q<;>simp only[ri,RT.out,if_true,Bool.false_eq_true,if_false,aN]
 case mu c=>exact λh=>h.imp (λ h=>⟨h,c,rfl⟩) id
 all_goals exact .inr
theorem UV{j:Nat}:∀{l:List (RT X.ι)}{n:Nat},j∈ri n l->n<=j
 |[],n,h=>by simp[ri]at h
 |q::l,n,h=>by
  rcases Kl h with ⟨rfl,_⟩ |h
  ·exact aQ _
  ·have:=UV h;split at this<;>omega
theorem aem:∀{l:List (RT X.ι)}{x:ul X l}{n j:Nat},j∈ri n l->∃p,(oD l x)[j -n]? =some (some p)
 |[],x,n,j,h=>by simp[ri]at h
 |[q],x,n,j,h=>by
  rcases Kl h with ⟨rfl,c,rfl⟩ |h
  ·exact⟨_,by simp only[Nat.sub_self];rfl⟩
  ·simp[ri]at h
 |q::q'::l,x,n,j,h=>by
  rcases Kl h with ⟨rfl,c,rfl⟩ |h
  ·exact⟨_,by simp only[Nat.sub_self];rfl⟩
  ·have⟨p,hp⟩:=aem (l:=q'::l) (x:=x.2) h;have hge:=UV h;refine⟨p,?_⟩;show(qO q x.1++oD (q'::l) x.2)[j -n]? =_;have hl:=(Kk (q:=q) (x:=x.1)).1;split at hl
   ·rename_i e;rw[aP e]at hp hge;rw[iK (by omega),hl,show j -n -1=j -(n+1)by omega];exact hp
   ·rename_i e;rw[aO e]at hp hge;rw[iK (by omega),hl,Nat.sub_zero];exact hp
theorem Fv:∀{l:List (RT X.ι)}{x:ul X l}{n j:Nat}{p:fe},(oD l x)[j]? =some (some p)->n+j∈xG n l
 |[],x,n,j,p,h=>by simp[oD]at h
 |[q],x,n,j,p,h=>by
  have h:(qO q x)[j]? =some (some p):=h;cases q<;>simp only[qO,List.getElem?_nil,reduceCtorEq]at h
  case mu c=>cases j<;>simp at h<;>simp[xG]
  case mr c=>cases j<;>simp at h<;>simp[xG]
  case mv=>cases j<;>simp at h
 |q::q'::l,x,n,j,p,h=>by
  have h:(qO q x.1++oD (q'::l) x.2)[j]? =some (some p):=h;cases q
  case mu c=>
   cases j with
   |zero=>simp[xG]
   |succ j=>
    have:=Fv (l:=q'::l) (x:=x.2) (n:=n+1) (by simpa[qO]using h);simp only[xG,aN];right;rw[show n+(j+1)=n+1+j by omega];exact this
  case mr c=>
   cases j with
   |zero=>simp[xG]
   |succ j=>
    have:=Fv (l:=q'::l) (x:=x.2) (n:=n+1) (by simpa[qO]using h);simp only[xG,aN];right;rw[show n+(j+1)=n+1+j by omega];exact this
  case mv=>
   cases j with
   |zero=>simp[qO]at h
   |succ j=>
    have:=Fv (l:=q'::l) (x:=x.2) (n:=n+1) (by simpa[qO]using h);simp only[xG];rw[show n+(j+1)=n+1+j by omega];exact this
  all_goals
   simp only[xG];exact Fv (l:=q'::l) (x:=x.2) (by simpa[qO]using h)
theorem aen{qS:List Nat}{wl:List (Nat×Nat)}{n:Nat}{q:RT X.ι}{ds:List (DV X)}{p:(RT.T X q×List Bool)×List (DV X)}(h:O9 get bad qS fk wl n q ds=some p)(hb:∀b∈p.1.2,b=true):∀ej c,q= .mu c->lk wl n=some ej->ZL q p.1.1=[ej]:=by
 rintro ej c rfl hl;simp only[O9]at h;rw[ai]at h;obtain⟨o,h1,h⟩:=h;split at h
 ·rename_i b l0;have⟨l,h2,h⟩:=ai.1 h;rw[hl]at h;cases h;have h5:(sub l 0 ej).length=ej:=by simpa[bk]using hb (bk (sub l 0 ej).length ej) (by simp)
  simp only[ZL,h5]
 ·cases h
theorem Nv{qS:List Nat}{wl:List (Nat×Nat)}:∀{n:Nat}{l:List (RT X.ι)}{ds:List (DV X)}{x:ul X l×List Bool},Pb get bad qS fk wl n l ds=some x->(∀ b∈x.2,b=true)->∀j ej,n+j∈ri n l->lk wl (n+j)=some ej->(vA l x.1).getD j 0=ej
 |n,[],ds,x,h,hb,j,ej,hm,_=>by simp[ri]at hm
 |n,[q],ds,x,h,hb,j,ej,hm,hl=>by
  simp only[Pb]at h;have⟨p,h1,h⟩:=ai.1 h;split at h
  ·cases h;rcases Kl hm with ⟨e,c,rfl⟩ |hm
   ·have e:j=0:=(by omega);subst e;have:=(aen h1 hb) ej c rfl hl;show(ZL _ p.1.1).getD 0 0=ej;rw[this];rfl
   ·simp[ri]at hm
  ·cases h
 |n,q::q'::l,ds,x,h,hb,j,ej,hm,hl=>by
  simp only[Pb]at h;have⟨p,h1,h⟩:=ai.1 h;have⟨y,h2,h⟩:=ai.1 h;cases h;have hlen:=(Kk (q:=q) (x:=p.1.1)).2;rcases Kl hm with ⟨e,c,rfl⟩ |hm
  ·have e:j=0:=(by omega);subst e;have:=(aen h1 (λ b hb'=>hb b (by simp[hb']))) ej c rfl hl;show(ZL _ p.1.1++vA (q'::l) y.1).getD 0 0=ej;rw[this];rfl
  ·have hge:=UV hm;show(ZL _ p.1.1++vA (q'::l) y.1).getD j 0=ej;by_cases hq:q.out=true
   ·rw[aP hq]at h2 hm hge hlen;have:=Nv h2 (λ b hb'=>hb b (by simp[hb'])) (j -1) ej (by rw[show n+1+(j -1)=n+j by omega];exact hm) (by rw[show n+1+(j -1)=n+j by omega];exact hl);rw[List.getD_eq_getElem?_getD,iK (by omega),hlen,<- List.getD_eq_getElem?_getD];exact this
   ·rw[aO hq]at h2 hm hge hlen;have:=Nv h2 (λ b hb'=>hb b (by simp[hb'])) j ej hm hl;rw[List.getD_eq_getElem?_getD,iK (by omega),hlen,Nat.sub_zero,<- List.getD_eq_getElem?_getD];exact this
theorem abb{qS:List Nat}{wl:List (Nat×Nat)}{ns:List Nat}(hbad:∀j,j∉bad->fk≠some j/\¬kept os' j)(qn:∀k,fk=some k->¬kept os' k)(hns:∀j ej,j∈qS->lk wl j=some ej->ns.getD j 0=ej)(hmu:∀j∈qS,kept os' j):∀{n:Nat}{l:List (RT X.ι)}{ds:List (DV X)}{x:ul X l×List Bool},Pb get bad qS fk wl n l ds=some x->(∀ b∈x.2,b=true)->
 m8 (fD get) fk os' (bK ds) (Dw ns l x.1)/\∀j t,(oD l x.1)[j]? =some (some t)->∃o,get (n+j)=some o/\(bG o).sz=t.1/\en (fD get) fk os' ((bG o).rows.take t.2.length) t.2
 |n,[],ds,x,h,_=>by
  simp only[Pb]at h;split at h
  ·exact⟨trivial,λj t ht=>by simp[oD]at ht⟩
  ·cases h
 |n,[q],ds,x,h,hb=>by
  simp only[Pb]at h;rw[ai]at h;obtain⟨p,h1,h⟩:=h;split at h
  ·rename_i hp;cases h;have⟨i1,i2,_⟩:=XG (ns:=ns) hbad qn hns hmu h1 hb;rw[hp]at i1;have:=i1 [] trivial;rw[append_nil]at this;refine⟨this,λj t ht=>?_⟩;have ht:(qO q p.1.1)[j]? =some (some t):=ht;have hl:=(Kk (q:=q) (x:=p.1.1)).1;have hj:=(dm.1 ht).1;have hj0:j=0:=(by split at hl<;>omega);subst hj0;refine i2 t ?_
   match ho:qO q p.1.1,ht,hl with
   |[z],ht,_=>simpa using ht
   |[],ht,_=>simp at ht
   |_::_::_,_,hl=>simp only[bF]at hl;split at hl<;>omega
  ·cases h
 |n,q::q'::l,ds,x,h,hb=>by
  simp only[Pb]at h;have⟨p,h1,h⟩:=ai.1 h;have⟨y,h2,h⟩:=ai.1 h;cases h;obtain⟨i1,i2,_⟩:=XG (ns:=ns) hbad qn hns hmu h1 (λ b hb'=>hb b (by simp[hb']));obtain⟨k1,k2⟩:=abb (ns:=ns) hbad qn hns hmu h2 (λ b hb'=>hb b (by simp[hb']));refine⟨i1 _ k1,λj t ht=>?_⟩;have ht:(qO q p.1.1++oD (q'::l) y.1)[j]? =some (some t):=ht;have hl:=(Kk (q:=q) (x:=p.1.1)).1;by_cases hq:q.out=true
  ·rw[aP hq]at k2 hl;cases j with
   |zero=>
    refine i2 t ?_
    match ho:qO q p.1.1,ht,hl with
    |[z],ht,_=>simpa using ht
    |[],_,hl=>simp at hl
    |_::_::_,_,hl=>simp at hl
   |succ j=>
    rw[iK (by omega),hl,Nat.add_sub_cancel]at ht;rw[show n+(j+1)=n+1+j by omega];exact k2 j t ht
  ·rw[aO hq]at k2 hl;rw[iK (by omega),hl,Nat.sub_zero]at ht;exact k2 j t ht
end
theorem m8.R{get:Nat->Option aU}{fk:Option Nat}{os':List (Option fe)}:∀{xs:List AV}{cs:List RC},m8 get fk os' xs cs->DD get fk os' xs (match cs with |[c]=> .one c |cs=> .fi cs)
 |[],[],_=>rfl
 |[_],[_],h=>h.1
 |_::_::_,_::_::_,h=>h
 |[],_::_,h=>h.elim
 |_::_,[],h=>h.elim
 |[_],_::_::_,h=>h.2.elim
 |_::_::_,[_],h=>h.2.elim
theorem akO{s:da X}{rs:List ResultVar}{l:List (RT X.ι)}{r:ul X l}(h:(XF T s rs λds=>(L7 s l ds).bind λx=>WR x.2 (some x.1))=some r):∃xs fk,nT T s.st rs=some xs/\DD s.st.obj fk (oD l r) xs (uq l r)/\Kx s.st.obj fk (oD l r):=by
 have⟨ds,h1,h⟩:=Fu T h;rw[ai]at h;obtain⟨x,h2,h⟩:=h;have⟨h3,h⟩:=qd h;cases h;unfold L7 at h2;split at h2
 ·rename_i hnb;have hkn:∀j,kept (oD l x.1) j->j∈xG 0 l:=λj ⟨p,hp⟩=>by
   have:=Fv (n:=0) hp;simpa using this
  have hbad:∀j,j∉xG 0 l++(Rx l ds).toList->Rx l ds≠some j/\¬kept (oD l x.1) j:=by
   intro j hj;simp only[aX,Option.mem_toList,not_or]at hj;exact⟨hj.2,λh=>hj.1 (hkn j h)⟩
  have qn:∀k,Rx l ds=some k->¬kept (oD l x.1) k:=λk hk hkk=>GR hnb k (by simp[hk]) (hkn k hkk);have hmu:∀j∈ri 0 l,kept (oD l x.1) j:=λj hj=>by
   have⟨p,hp⟩:=aem (x:=x.1) hj;exact⟨p,by simpa using hp⟩
  obtain⟨i1,i2⟩:=abb (ns:=vA l x.1) hbad qn (λ j ej hj hl=>Nv h2 h3 j ej (by simpa using hj) (by simpa using hl)) hmu h2 h3;have jn:s.st.obj=fD (f5 s.obj):=rfl;refine⟨bK ds,Rx l ds,Rw T h1,?_,λj p hp=>?_⟩
  ·rw[jn];exact i1.R
  ·have⟨o,g1,g2,g3⟩:=i2 j p hp;rw[Nat.zero_add]at g1;exact⟨λ e=>qn j e ⟨p,hp⟩,bG o,by rw[jn];simp[fD,g1],g2,by rw[jn];exact g3⟩
 ·cases h2
variable {Γ:FuncId->Option (bz X)} {ao:TypeId->Option (CT X.ι)} {P:Program}
theorem aoi(hT : eZ P T)(hm : P.follows .mixedOrders = true)(hΓ : rL P Γ){f : FuncId}{fn : Func}{c : Code}(hfn : P.funcs[f]? = some fn)(hb : fn.body = some c)(hname : (fn.name == "runtime.NumGoroutine") = false)(sa : List (AT X.ι))(sr : List (RT X.ι))(hN : sa.length <= fn.ntmps /\ qP sa <= 1000 /\ (sr.filter RT.out).length = qP sa)
 (h:Hn X.ι) (n:Nat) {a:jg X sa} {r:ul X sr} (hr:run Γ T ao fn.ntmps n c (ul X sr) h (vl sa a) (aoh T fn.results.toList sr)=some r):rN P f (Ar sa a) (qN sa a) (oD sr r) (uq sr r):=by
 have hl:(oD sr r).length=(qN sa a).length:=by
  rw[lX,<- hN.2.2];have:∀(sr:List (RT X.ι))(r:ul X sr),(oD sr r).length=(sr.filter RT.out).length:=by
   intro sr
   induction sr with
   |nil=>intro r;rfl
   |cons q l ih=>
    intro r;have hq:∀x:RT.T X q,(qO q x).length=(if q.out then 1 else 0):=λx=>Kk.1;cases l with
    |nil=>
     show(qO q r).length=_;rw[hq];by_cases e:q.out=true<;>simp[e]
    |cons q' l=>
     show(qO q r.1++oD (q'::l) r.2).length=_;rw[dH,hq,ih r.2];by_cases e:q.out=true<;>simp[List.filter_cons,e];omega
  exact this sr r
 refine aiK hT hfn hb hname (by rw[lW];exact hN.1) (λ k hk=>?_) (by rw[lX];exact hN.2.1) hl ?_
 ·rw[Ar,<- tJ,iA]at hk;have:=pO 0 sa a k hk;have:=hN.2.1;omega
 ·rw[<- anG];refine(lu hT hm hΓ c _ h _ _ r (amk sa a hN.2.1) hr).mono ?_;rintro e σ ⟨s',_,_,rfl,g4⟩;cases e<;>first |exact akO g4 |cases g4
theorem nP{f : FuncId}{fn : Func}{c : Code}(hfn : P.funcs[f]? = some fn)(hb : fn.body = some c)(hname : (fn.name == "runtime.NumGoroutine") = false): iO P f := ⟨fn, hfn, by rw [hb]; rfl, hname⟩
abbrev CH(P:Program)(f:FuncId)(s:bz X):Prop:=iO P f/\(∀ a r,s.fn a=some r->rN P f (Ar s.args a) (qN s.args a) (oD s.res r) (uq s.res r))/\∀g,s.gen=some g->HP P f g
theorem xi{P:Program}{f:FuncId}{s:bz X}(h:iO P f)(h1:∀a r,s.fn a=some r->rN P f (Ar s.args a) (qN s.args a) (oD s.res r) (uq s.res r))(hg:s.gen=none):CH P f s:=⟨h,h1,λg e=>by rw[hg]at e;cases e⟩
theorem S7{P:Program}{f:FuncId}{g:cR X}(h:iO P f)(hg:HP P f g):CH P f ⟨[],[.d .bool],λ_=>none,some g⟩:=⟨h,λ_ _ e=>(by cases e),λ_ e=>(by cases e;exact hg)⟩
def oE(s t:bz X):bz X:=⟨s.args,s.res,s.fn,t.gen⟩
def vu(l:List (FuncId×bz X)):FuncId->Option (bz X):=λf=>lk l f
theorem aB:rL P (vu ([]:List (FuncId×bz X))):=λ_ _ h=>by cases h
theorem au{f:FuncId}{s:bz X}{l:List (FuncId×bz X)}(h:CH P f s)(hl:rL P (vu l)):rL P (vu ((f,s)::l)):=by
 intro g q hg;simp only[vu,lk]at hg;split at hg
 ·rename_i e;cases hg;subst e;exact h
 ·exact hl g q hg
end
end Go.Gb
