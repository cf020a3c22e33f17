import Derived.Test.YtjkanncjllckgaaGreatW3
open List (mem_map all_eq_true cons_append length_map append_nil map_map map_congr_left flatten_cons map_nil all_cons map_take map_drop map_append mem_append_right)
namespace Go.Gb
open Go.RowKit
section
variable {X:SX} {A:Type}
theorem Ys:∀(l:List (CT X.ι))(v:VT (X:=X) l),(vW l v).map (·.c)=l
 |[],_=>rfl
 |[_],_=>rfl
 |c::c'::l,v=>by simp only[vW,aF,Ys (c'::l) v.2]
theorem PD:∀{l:List Tree},(∀ t∈l,t.flat)->o9 (l.map AV.t)
 |[],_=>trivial
 |t::l,h=>⟨h t (by simp),PD (λ u hu=>h u (by simp[hu]))⟩
theorem abh{c:CT X.ι}(h:xk c=true)(x:CT.T X.toSE c):uQ (CT.tv X.toSE c x).av:=by
 have hf:=uU h x;cases c
 case st i=>exact PD hf
 all_goals first |exact hf _ (aW.2 rfl) |cases h
section
variable {ol:Nat->Nat}
mutual
theorem amE:∀(p:Pt X.ι)(L:List (DC X))(cs:List (CT X.ι)),L.map (·.c)=p.vars++cs->p.vars.all xk=true->uQ (den (eP ol p L).1)/\(eP ol p L).2.map (·.c)=cs
 | .v c,L,cs,h,hs=>by
  match L,h with
  |d::r,h=>
   simp only[Pt.vars,aF,List.singleton_append,List.cons.injEq]at h;simp only[Pt.vars,all_cons,List.all_nil,Bool.and_true]at hs;exact⟨abh (h.1 ▸ hs) d.x,h.2⟩
  |[],h=>simp[Pt.vars]at h
 | .o k,L,cs,h,_=>⟨trivial,by simpa[Pt.vars,eP]using h⟩
 | .p k,L,cs,h,_=>⟨trivial,by simpa[Pt.vars,eP]using h⟩
 | .mp k,L,cs,h,_=>⟨trivial,by simpa[Pt.vars,eP]using h⟩
 | .oz k,L,cs,h,_=>⟨trivial,by simpa[Pt.vars,eP]using h⟩
 | .nil,L,cs,h,_=>⟨trivial,by simpa[Pt.vars,eP]using h⟩
 | .od k,L,cs,h,_=>by
  match L,h with
  |d::r,h=>
   simp only[Pt.vars,aF,List.singleton_append,List.cons.injEq]at h;exact⟨trivial,h.2⟩
  |[],h=>simp[Pt.vars]at h
 | .f F fs ps,L,cs,h,hs=>by
  simp only[Pt.vars,List.all_append,aL]at hs;simp only[Pt.vars,aK]at h;obtain⟨a1,a2⟩:=Ct fs L _ h hs.1;obtain⟨b1,b2⟩:=Ct ps _ _ a2 hs.2;exact⟨⟨a1,b1⟩,b2⟩
 | .a ps,L,cs,h,hs=>by
  simp only[Pt.vars]at h hs;exact Ct ps L cs h hs
theorem Ct:∀(ps:List (Pt X.ι))(L:List (DC X))(cs:List (CT X.ι)),L.map (·.c)=cP ps++cs->(cP ps).all xk=true->o9 (bL (lf ol ps L).1)/\(lf ol ps L).2.map (·.c)=cs
 |[],L,cs,h,_=>⟨trivial,by simpa[cP,lf]using h⟩
 |p::ps,L,cs,h,hs=>by
  simp only[cP,List.all_append,aL]at hs;simp only[cP,aK]at h;obtain⟨a1,a2⟩:=amE p L _ h hs.1;obtain⟨b1,b2⟩:=Ct ps _ _ a2 hs.2;exact⟨⟨a1,b1⟩,b2⟩
end
mutual
theorem amF:∀(p:Pt X.ι)(L:List (DC X)),∀j∈bk (eP ol p L).1,j∈p.refs
 | .v c,L,j,h=>by cases L<;>simp[eP,bk]at h
 | .o k,L,j,h=>by simpa[eP,bk,Pt.refs]using h
 | .p k,L,j,h=>by simpa[eP,bk,Pt.refs]using h
 | .mp k,L,j,h=>by simpa[eP,bk,Pt.refs]using h
 | .oz k,L,j,h=>by simpa[eP,bk,Pt.refs]using h
 | .nil,L,j,h=>by simp[eP,bk]at h
 | .od k,L,j,h=>by cases L<;>simp[eP,bk]at h<;>simp[Pt.refs,h]
 | .f F fs ps,L,j,h=>by
  simp only[eP,bk,bf]at h;simp only[Pt.refs,bf];exact h.imp (yH fs _ j) (yH ps _ j)
 | .a ps,L,j,h=>by
  simp only[eP,bk]at h;simp only[Pt.refs];exact yH ps _ j h
theorem yH:∀(ps:List (Pt X.ι))(L:List (DC X)),∀j∈aP (lf ol ps L).1,j∈AX ps
 |[],L,j,h=>by simp[lf,aP]at h
 |p::ps,L,j,h=>by
  simp only[lf,aP,bf]at h;simp only[AX,bf];exact h.imp (amF p _ j) (yH ps _ j)
end
theorem KP:∀(rs:List (List (Pt X.ι)))(L:List (DC X))(cs:List (CT X.ι)),L.map (·.c)=vV rs++cs->(vX ol rs L).2.map (·.c)=cs/\((vV rs).all xk=true->∀r∈(vX ol rs L).1,o9 (bL r))
 |[],L,cs,h=>⟨by simpa[vV,vX]using h,by simp[vX]⟩
 |r::rs,L,cs,h=>by
  simp only[vV,aK]at h;have step:(lf ol r L).2.map (·.c)=vV rs++cs:=tS r L _ h;obtain⟨b1,b2⟩:=KP rs _ _ step;refine⟨b1,λhs q hq=>?_⟩;simp only[vV,List.all_append,aL]at hs;simp only[vX,aN]at hq;rcases hq with rfl |hq
  ·exact(Ct r L _ h hs.1).1
  ·exact b2 hs.2 q hq
where
 tS (ps:List (Pt X.ι)) (L:List (DC X)) (cs:List (CT X.ι)) (h:L.map (·.c)=cP ps++cs):(lf ol ps L).2.map (·.c)=cs:=pm ps L cs h
 C4:∀(p:Pt X.ι)(L:List (DC X))(cs:List (CT X.ι)),L.map (·.c)=p.vars++cs->(eP ol p L).2.map (·.c)=cs
  | .v c,L,cs,h=>by
   match L,h with
   |d::r,h=>simp only[Pt.vars,aF,List.singleton_append,List.cons.injEq]at h;exact h.2
   |[],h=>simp[Pt.vars]at h
  | .o k,L,cs,h=>by simpa[Pt.vars,eP]using h
  | .p k,L,cs,h=>by simpa[Pt.vars,eP]using h
  | .mp k,L,cs,h=>by simpa[Pt.vars,eP]using h
  | .oz k,L,cs,h=>by simpa[Pt.vars,eP]using h
  | .nil,L,cs,h=>by simpa[Pt.vars,eP]using h
  | .od k,L,cs,h=>by
   match L,h with
   |d::r,h=>simp only[Pt.vars,aF,List.singleton_append,List.cons.injEq]at h;exact h.2
   |[],h=>simp[Pt.vars]at h
  | .f F fs ps,L,cs,h=>by
   simp only[Pt.vars,aK]at h;exact pm ps _ _ (pm fs L _ h)
  | .a ps,L,cs,h=>by
   simp only[Pt.vars]at h;exact pm ps L cs h
 pm:∀(ps:List (Pt X.ι))(L:List (DC X))(cs:List (CT X.ι)),L.map (·.c)=cP ps++cs->(lf ol ps L).2.map (·.c)=cs
  |[],L,cs,h=>by simpa[cP,lf]using h
  |p::ps,L,cs,h=>by
   simp only[cP,aK]at h;exact pm ps _ _ (C4 p L _ h)
theorem VO:∀(rs:List (List (Pt X.ι)))(L:List (DC X)),∀j∈((vX ol rs L).1.map aP).flatten,j∈rs.flatMap AX
 |[],L,j,h=>by simp[vX]at h
 |r::rs,L,j,h=>by
  simp only[vX,aF,flatten_cons,bf]at h;simp only[List.flatMap_cons,bf];exact h.imp (yH r _ j) (VO rs _ j)
theorem yI:∀(O:List (Nat×OP X.ι))(L:List (DC X)),((dH (dn ol O L)).map (·.1)).Sublist (O.map (·.1))/\(∀ p∈dH (dn ol O L),∃op,(p.1,op)∈O/\∀j∈d5 p.2,j∈op.refs)/\
 (L.map (·.c)=cH O->(O.all λq=>match q.2 with | .l c=>xk c | .m _ _=>false | .c _ rows=>(vV rows).all xk)=true->∀p∈dH (dn ol O L),∀r∈(bG p.2).rows,o9 r)
 |[],L=>⟨by simp[dn,dH],by simp[dn,dH],by simp[dn,dH]⟩
 |(k,.l c)::O,L=>by
  match L with
  |[]=>exact⟨by simp[dn,dH],by simp[dn,dH],by simp[dn,dH]⟩
  |⟨.sl c',x⟩::L=>
   have⟨h1,h2,h3⟩:=yI O L;refine⟨?_,?_,?_⟩
   ·simp only[dn,dH,aF];exact h1.cons_cons _
   ·intro p hp;simp only[dn,dH,aN]at hp;rcases hp with rfl |hp
    ·exact⟨.l c,by simp,by simp[d5]⟩
    ·have⟨op,g1,g2⟩:=h2 p hp;exact⟨op,eH _ g1,g2⟩
   ·intro hL hs p hp r hr;simp only[aF,cH,List.cons.injEq]at hL;simp only[all_cons,aL]at hs;simp only[dn,dH,aN]at hp;rcases hp with rfl |hp
    ·obtain⟨e,_⟩:=hL;injection e with e;simp only[bG,aI,mem_map]at hr;obtain⟨q,⟨y,hy,rfl⟩,rfl⟩:=hr;exact PD (uU (e ▸ hs.1) y)
    ·exact h3 hL.2 hs.2 p hp r hr
  |⟨.int _,x⟩::L=>exact⟨by simp[dn,dH],by simp[dn,dH],by simp[dn,dH]⟩
  |⟨.bool,x⟩::L=>exact⟨by simp[dn,dH],by simp[dn,dH],by simp[dn,dH]⟩
  |⟨.str,x⟩::L=>exact⟨by simp[dn,dH],by simp[dn,dH],by simp[dn,dH]⟩
  |⟨.any,x⟩::L=>exact⟨by simp[dn,dH],by simp[dn,dH],by simp[dn,dH]⟩
  |⟨.mp _ _,x⟩::L=>exact⟨by simp[dn,dH],by simp[dn,dH],by simp[dn,dH]⟩
  |⟨.st _,x⟩::L=>exact⟨by simp[dn,dH],by simp[dn,dH],by simp[dn,dH]⟩
 |(k,.m kc vc)::O,L=>by
  match L with
  |[]=>exact⟨by simp[dn,dH],by simp[dn,dH],by simp[dn,dH]⟩
  |⟨.mp tM tD,x⟩::L=>
   have⟨h1,h2,h3⟩:=yI O L;refine⟨?_,?_,?_⟩
   ·simp only[dn,dH,aF];exact h1.cons_cons _
   ·intro p hp;simp only[dn,dH,aN]at hp;rcases hp with rfl |hp
    ·exact⟨.m kc vc,by simp,by simp[d5]⟩
    ·have⟨op,g1,g2⟩:=h2 p hp;exact⟨op,eH _ g1,g2⟩
   ·intro hL hs;simp at hs
  |⟨.sl _,x⟩::L=>exact⟨by simp[dn,dH],by simp[dn,dH],by simp[dn,dH]⟩
  |⟨.int _,x⟩::L=>exact⟨by simp[dn,dH],by simp[dn,dH],by simp[dn,dH]⟩
  |⟨.bool,x⟩::L=>exact⟨by simp[dn,dH],by simp[dn,dH],by simp[dn,dH]⟩
  |⟨.str,x⟩::L=>exact⟨by simp[dn,dH],by simp[dn,dH],by simp[dn,dH]⟩
  |⟨.any,x⟩::L=>exact⟨by simp[dn,dH],by simp[dn,dH],by simp[dn,dH]⟩
  |⟨.st _,x⟩::L=>exact⟨by simp[dn,dH],by simp[dn,dH],by simp[dn,dH]⟩
 |(k,.c sz rows)::O,L=>by
  have⟨h1,h2,h3⟩:=yI O (vX ol rows L).2;refine⟨?_,?_,?_⟩
  ·simp only[dn,dH,aF];exact h1.cons_cons _
  ·intro p hp;simp only[dn,dH,aN]at hp;rcases hp with rfl |hp
   ·exact⟨.c sz rows,by simp,λj hj=>VO rows L j hj⟩
   ·have⟨op,g1,g2⟩:=h2 p hp;exact⟨op,eH _ g1,g2⟩
  ·intro hL hs p hp r hr;simp only[cH]at hL;simp only[all_cons,aL]at hs;obtain⟨e1,e2⟩:=KP (ol:=ol) rows L _ hL;simp only[dn,dH,aN]at hp;rcases hp with rfl |hp
   ·simp only[bG,mem_map]at hr;obtain⟨q,hq,rfl⟩:=hr;exact e2 hs.1 q hq
   ·exact h3 e1 hs.2 p hp r hr
end
theorem PE(k:Nat):∀os:List (Nat×bm X),nw (sN os) k=(tt os k).map bG
 |[]=>rfl
 |(j,o)::r=>by
  simp only[sN,aF,nw,tt];split
  ·rfl
  ·exact PE k r
theorem VP(f:Nat->Nat)(c:CT X.ι)(x:CT.T X.toSE c):fX f (CT.tv X.toSE c x).av=(CT.tv X.toSE c x).av:=(zW f (.c c x)).symm
theorem adl(f:Nat->Nat)(o:bm X):bG (oR f o)=JN f (bG o):=by
 cases o with
 |cells sz rows=>simp only[oR,bG,JN,map_map];congr 1;exact map_congr_left λr _=>Cr f r
 |ea c l=>simp only[oR,bG,JN,aI,map_map];congr 1;exact map_congr_left λr _=>(Zs f _).symm
 |map kc vc l=>simp only[oR,bG,JN,map_map];congr 1;exact map_congr_left λr _=>by simp only[Function.comp_apply,zB,VP]
theorem aiP(i:Nat)(ae:List Nat)(os:List (Nat×bm X)):gW (Nm i ae os)=xv i ae (sN os):=by
 simp only[Nm,xv,rQ];congr 1
 ·simp only[gW,map_map];refine map_congr_left λp _=>?_;simp only[Function.comp_apply,PE,Option.map_map];congr 1;cases tt os p.2<;>simp[adl]
 ·simp only[gW,sN,List.filter_map,map_map];refine map_congr_left λq _=>?_;simp[adl]
theorem VQ{ds:List (DV X)}:(∀ j∈refs (den (yF ds)),j∈aP ds)/\(o9 (bL ds)->uQ (den (yF ds))):=by
 match ds with
 |[]=>exact⟨λ j hj=>by simp[yF,den,bL,refs,eU]at hj,λ_=>by simp only[yF,den,uQ];exact trivial⟩
 |[d]=>exact⟨λ j hj=>by simp only[yF,iP]at hj;simpa[aP]using hj,λh=>h.1⟩
 |d::e::r=>exact⟨λ j hj=>by simp only[yF,den,refs,ic]at hj;exact hj,λh=>h⟩
theorem ZP:∀xs:List (Nat×bm X),dH (xs.map λp=>(p.1,some p.2))=xs
 |[]=>rfl
 |p::xs=>by simp only[aF,dH,ZP xs]
theorem abj{P:Program}{g:cX X}{F:FuncId}(hg:Fo P F g){i:Nat}{first args caps:List (DV X)}{get:Nat->Option (bm X)}{k:KK X A}{r:A}(h:YY g i (first++args++caps) get k=some r):
 ∃cw rd wr dv upd ab,j4 P i (den (.fn F first caps)) (bL args) cw (dK rd (fw get))=some ab/\jq ab.obs/\ab.v=den dv/\ab.upd=gW upd/\(∀ p∈upd,p.1=cJ i\/p.1∈wr)/\k dv upd rd wr=some r:=by
 unfold YY at h;rw[ai]at h;obtain⟨m1,h1,h⟩:=h;rw[ai]at h;obtain⟨m,h2,h⟩:=h;have⟨h3,h⟩:=eu h;rw[ai]at h;obtain⟨v,h4,h⟩:=h;have⟨h5,h⟩:=pq h;rw[ai]at h;obtain⟨rr,h6,h⟩:=h;simp only[aL]at h3;obtain⟨hok,A2⟩:=h3;simp only at h;generalize km:(List.range g.iz.length).map (qt m)=ae at h A2;simp only[cX.ok,aL,aV]at hok;obtain⟨⟨⟨⟨n1,n2⟩,n3⟩,n4⟩,n5⟩:=hok;simp only[okG,aL,aV]at A2;obtain⟨⟨hnd,hnm⟩,AW⟩:=A2;have hlen:ae.length=g.iz.length:=by rw[<- km];simp
 have hi:∀q∈m.nm,ae[q.2]? =some q.1:=by
  intro q hq;have:=all_eq_true.1 hnm q hq;split at this
  ·rename_i k' e;rw[e,Nat.eq_of_beq_eq_true this]
  ·cases this
 have hv:∀k∈m.vr,k∉ae:=λk hk=>by
  have:=all_eq_true.1 AW k hk;simpa using this
 have hrd:∀k,(∃ q,(k,q)∈m.nm)\/k∈m.vr->k∈ae++m.vr:=by
  rintro k (⟨q,hq⟩ |hk)
  ·exact List.mem_append_left _ (dh (hi _ hq))
  ·exact mem_append_right _ hk
 have hm2:=(lX _ _ _ h2).1;have vm:=Vz h4;obtain⟨_,nA,dA,lA⟩:=wh _ _ _ _ h1;simp only[bQ]at dA;obtain⟨nB,dB,lB⟩:=DU (NM:=m.nm) _ _ _ h2 (λ q hq=>hq);have hL:m.ez=nA++nB:=by rw[dB,dA]
 have hdrop:(vW _ v).drop (cP g.px).length=nB:=by rw[vm,hL,<- lA,List.drop_left]
 have htake:(vW _ v).take (cP g.px).length=nA:=by rw[vm,hL,<- lA,List.take_left]
 have ho:∀q∈m.nm,∀c l,get q.1=some (.ea c l)->AR g.iz nB q.2=l.length:=by
  rintro⟨p,q⟩ hq c l hl;have hq2:=hi _ hq;have hqn:q<g.iz.length:=by rw[<- hlen];exact(dF.1 hq2).1
  obtain⟨p',o,g1,g2,g3⟩:=lB [] q (by rw[n1];exact List.mem_range.2 hqn);have:p'=p:=by
   have e1:=hi _ g1;rw[hq2]at e1;injection e1 with e1;exact e1.symm
  subst this;simp only at hl;rw[hl]at g2;injection g2 with g2;have h3:=g3 c l g2.symm;rw[append_nil]at h3;have hk:=(DW g.iz nB).nodup (by rw[n1];exact List.nodup_range);simp only[AR,uS hk h3,Option.getD_some]
 obtain⟨P1,H4,ds',eA,⟨hs,obs,pA,qA⟩,rA⟩:=yg (P:=P) (ae:=ae) (rd:=ae++m.vr) (NM:=m.nm) (pL:=m.vr) (dt:=AR g.iz nB) hi hv hrd ho _ _ _ _ h1 (λ q hq=>hm2.1 q hq) (λ c hc=>h5 c (hm2.2.1 c hc)) (λ q hq=>hm2.2.2 q hq);obtain⟨P0,T4,xs,eB,bs,mo,pB,qB,rB⟩:=zX (P:=P) (ae:=ae) (rd:=ae++m.vr) (NM:=m.nm) (pL:=m.vr) (dt:=AR g.iz nB) hi hv hrd ho _ _ _ h2 (λ q hq=>hq) h5 (λ q hq=>hq);have T1:P1=nA:=by simp only[bQ]at H4;rw[<- H4,dA]
 have T0:P0=nB:=List.append_cancel_left (T4.symm.trans dB);subst T1 T0;have H2:=eA [];have H0:=eB [];rw[append_nil]at H2 H0;have hargs:g.args v=ds':=by simp only[cX.args,VB,hdrop,htake,H2]
 have th:g.cE v=xs:=by simp only[cX.cE,KB,hdrop,H0,ZP]
 have Sp:(g.iz.map λp=>(ae[p.1]?).getD 0)=ae:=by
  have:(g.iz.map λp=>(ae[p.1]?).getD 0)=(g.iz.map (·.1)).map λj=>(ae[j]?).getD 0:=by rw[map_map];rfl
  rw[this,n1];refine List.ext_getElem (by simp[hlen]) λj a b=>?_;simp[dL b]
 rw[Sp]at qB rB;have qA0:=qA [];rw[append_nil,iD,iD]at qA0;have hcon:=hg v rr h6;rw[hargs,th]at hcon;obtain⟨s1,s2,s3⟩:=yI (ol:=AR g.ix ((vW (gE (li 0 g.fy)++cH g.ix) rr).drop (cP g.fy).length)) g.ix ((vW _ rr).drop (cP g.fy).length);have AH:∀k,Ha g.iz.length k=true->An ae.length k:=by
  intro k hk;simp only[Ha,Bool.or_eq_true,aL,Nat.blt_eq,Nat.ble_eq]at hk;simp only[An,hlen];exact hk
 have good:Zu ae.length (sN (g.outs rr)) (den (g.res rr)):=by
  refine⟨?_,?_,?_,?_⟩
  ·intro q hq;simp only[sN,mem_map]at hq;obtain⟨p,hp,rfl⟩:=hq;have⟨op,g1,_⟩:=s2 p hp;have:=all_eq_true.1 n3 _ g1;simp only[aL]at this;exact AH _ this.1
  ·have:(sN (g.outs rr)).map (·.1)=(g.outs rr).map (·.1):=(by simp[sN]);rw[this];exact s1.nodup n4
  ·intro q hq r' hr' j hj;simp only[sN,mem_map]at hq;obtain⟨p,hp,rfl⟩:=hq;have⟨op,g1,g2⟩:=s2 p hp;have:=all_eq_true.1 n3 _ g1;simp only[aL]at this;refine AH _ (all_eq_true.1 this.2 j (g2 j ?_));obtain⟨pk,po⟩:=p;cases po with
   |cells sz rows=>exact MR (List.mem_flatMap.2 ⟨r',hr',hj⟩)
   |ea c l=>
    simp only[bG,aI,mem_map]at hr';obtain⟨z,_,rfl⟩:=hr';rw[abg]at hj;simp at hj
   |map kc vc l=>
    simp only[bG,mem_map]at hr';obtain⟨z,_,rfl⟩:=hr';simp only[eU,zU,append_nil]at hj;simp at hj
  ·intro j hj;have:=(VQ (ds:=VB g.fy g.ix (vW _ rr))).1 j hj;exact AH _ (all_eq_true.1 n5 j (yH g.fy _ j this))
 have flat:g.flat=true->m9 (sN (g.outs rr)) (den (g.res rr)):=by
  intro hf;simp only[cX.flat,aL]at hf;have hc:(vW (gE (li 0 g.fy)++cH g.ix) rr).map (·.c)=cP g.fy++cH g.ix:=(Ys _ rr).trans (by rw[Px]);refine⟨(VQ (ds:=VB g.fy g.ix (vW _ rr))).2 ?_,?_⟩
  ·refine(Ct (ol:=_) g.fy _ [] ?_ hf.1).1;rw[append_nil,map_take,hc,List.take_left]
  ·intro q hq r' hr';simp only[sN,mem_map]at hq;obtain⟨p,hp,rfl⟩:=hq;exact s3 (by rw[map_drop,hc,List.drop_left]) hf.2 p hp r' hr'
 have cT:Va (dK (ae++m.vr) (fw get)) (bL first++bL args++bL caps) ae m.vr bs:=by
  refine⟨hv,λj hj hn=>?_,λj hs' q o e1 e2 e3 z hz hn=>?_⟩
  ·rw[<- iD,<- iD,ic]at hj;rcases rA j hj with ⟨q,hq⟩ |hj
   ·exact absurd (dh (hi _ hq)) hn
   ·exact hj
  ·rcases rB j hs' q o e1 e2 e3 z hz with ⟨q',hq⟩ |hz
   ·exact absurd (dh (hi _ hq)) hn
   ·exact hz
 refine⟨.tz ae m.vr bs hs (sN (g.outs rr)) (den (g.res rr)) g.flat,ae++m.vr,_,_,_,
  ⟨fX (cn i ae) (den (g.res rr)),xv i ae (sN (g.outs rr))++(if g.flat then []else m.vr.map λk=>(k,none)),obs++mo++[yd P F (bL ds') (xs.map λp=>bG p.2) (sN (g.outs rr)) (den (g.res rr)),Zu ae.length (sN (g.outs rr)) (den (g.res rr)),Va (dK (ae++m.vr) (fw get)) (bL first++bL args++bL caps) ae m.vr bs]++(if g.flat then [m9 (sN (g.outs rr)) (den (g.res rr))]else [])⟩,?_,?_,(zW _ _).symm,?_,?_,h⟩
 ·simp only[den,j4,Mr,qB,qA0,af];rw[aY ⟨hnd,by omega⟩]
 ·refine qM _ (gM (gM (gM pA pB) ?_) ?_)
  ·intro z hz;simp only[aN,fu,or_false]at hz;rcases hz with rfl |rfl |rfl
   ·exact hcon
   ·exact good
   ·exact cT
  ·intro z hz;cases hf:g.flat with
   |true=>rw[hf]at hz;simp only[if_true,aW]at hz;subst hz;exact flat hf
   |false=>rw[hf]at hz;simp at hz
 ·simp only[rQ,aiP];congr 1;cases g.flat with
  |true=>rfl
  |false=>exact(Co m.vr).symm
 ·intro p hp;refine .inr ?_;rcases bf.1 hp with hp |hp
  ·exact List.mem_append_left _ (mem_append_right _ (mem_map.2 ⟨p,hp,rfl⟩))
  ·cases hf:g.flat with
   |true=>rw[hf]at hp;simp at hp
   |false=>
    rw[hf]at hp;simp only[Bool.false_eq_true,if_false,mem_map]at hp;obtain⟨z,hz,rfl⟩:=hp;exact mem_append_right _ hz
end
section
variable {X:SX} {A:Type}
def VU:RT X.ι->Bool
 | .d c=>xk c
 | .fresh e=>xk e
 | .whole _=>true
 | .mu c=>xk c
 | .mr c=>xk c
 | .mv=>true
theorem adm{c:CT X.ι}(h:xk c=true)(x:CT.T X.toSE c):(CT.tv X.toSE c x).flat:=by
 cases c
 case st i=>exact uU h x
 all_goals first |exact trivial |cases h
theorem VW{ns:List Nat}{q:RT X.ι}{x:RT.T X q}(h:VU q=true):∀c∈VD ns q x,c.flat:=by
 intro c hc;cases q<;>simp only[VD,aW,fu]at hc
 case d c=>subst hc;exact adm h x
 case fresh e=>
  subst hc;intro row hr;obtain⟨y,_,rfl⟩:=mem_map.1 hr;exact uU h y
 case whole j=>subst hc;exact trivial
theorem Rq{ns:List Nat}:∀{l:List (RT X.ι)}{x:sH X l},l.all VU=true->∀c∈AU ns l x,c.flat
 |[],x,_,c,hc=>by simp[AU]at hc
 |[q],x,h,c,hc=>VW (by simpa using h) c hc
 |q::q'::l,x,h,c,hc=>by
  simp only[all_cons,aL]at h;simp only[AU,bf]at hc;rcases hc with hc |hc
  ·exact VW h.1 c hc
  ·exact Rq (by simp only[all_cons,aL];exact h.2) c hc
theorem VX{l:List (RT X.ι)}(x:sH X l)(h:l.all VU=true):(sO l x).flat:=by
 have:=Rq (ns:=xp l x) (x:=x) h;unfold sO;split
 ·rename_i c hc;exact this c (by rw[hc];simp)
 ·exact this
theorem ZQ{q:RT X.ι}{x:RT.T X q}(h:VU q=true):UX (p9 q x):=by
 intro p hp;cases q<;>simp only[p9,aW,fu,aA,reduceCtorEq]at hp
 case mu c=>
  subst hp;intro r hr;obtain⟨y,_,rfl⟩:=mem_map.1 hr;exact uU h y
 case mr c=>
  subst hp;intro r hr;obtain⟨y,_,rfl⟩:=mem_map.1 hr;exact uU h y
theorem ZR:∀{l:List (RT X.ι)}{x:sH X l},l.all VU=true->UX (nO l x)
 |[],x,_=>λp hp=>by simp[nO]at hp
 |[q],x,h=>ZQ (q:=q) (by simpa using h)
 |q::q'::l,x,h=>by
  simp only[all_cons,aL]at h;intro p hp;rcases bf.1 (show some p∈p9 q x.1++nO (q'::l) x.2 from hp)with hp |hp
  ·exact ZQ h.1 p hp
  ·exact ZR (l:=q'::l) (by simp only[all_cons,aL];exact h.2) p hp
def G8(i:Nat)(ae ns:List Nat):(q:RT X.ι)->RT.T X q->List (DV X)×List (Nat×Option (bm X))
 | .d c,x=>([.c c x],[])
 | .fresh e,l=>([.own (cJ i) 0 l.length],[(cJ i,some (.ea e l))])
 | .whole j,_=>([match ae[j]? with |some k=> .own k 0 (ns.getD j 0) |none=> .undef],[])
 |_,_=>([],[])
def Kr(i:Nat)(ae ns:List Nat):(l:List (RT X.ι))->sH X l->Option (List (DV X)×List (Nat×Option (bm X)))
 |[],_=>some ([],[])
 |[q],x=>some (G8 i ae ns q x)
 |q::q'::l,x=>(Kr i ae ns (q'::l) x.2).bind λp=>if (G8 i ae ns q x.1).2.isEmpty || p.2.isEmpty then some ((G8 i ae ns q x.1).1++p.1,(G8 i ae ns q x.1).2++p.2)else none
def aoQ:List (DV X)->DV X
 |[d]=>d
 |ds=> .eC ds
def Fl(i:Nat)(ae:List Nat)(l:List (RT X.ι))(x:sH X l):Option (DV X×List (Nat×Option (bm X))):=
 (Kr i ae (xp l x) l x).bind λp=>some (aoQ p.1,p.2)
theorem abk(u:List (Nat×Option (bm X))):(gW u).isEmpty=u.isEmpty:=by cases u<;>rfl
theorem ZT(i:Nat)(ae ns:List Nat)(q:RT X.ι)(x:RT.T X q):(∃ c,VD ns q x=[c]/\∃d,(G8 i ae ns q x).1=[d]/\JM i ae c=(den d,gW (G8 i ae ns q x).2))\/(VD ns q x=[]/\G8 i ae ns q x=([],[])):=by
 cases q
 case d c=>exact .inl ⟨_,rfl,_,rfl,rfl⟩
 case fresh e=>exact .inl ⟨_,rfl,_,rfl,by simp[JM,G8,den,gW,bG,aI]⟩
 case whole j=>
  refine .inl ⟨_,rfl,_,rfl,?_⟩;simp only[JM,gW,G8,map_nil,Prod.mk.injEq,and_true];cases ae[j]?<;>rfl
 all_goals exact .inr ⟨rfl,rfl⟩
theorem adn(i:Nat)(ae:List Nat)(c:RC):Mf i ae [c]=some ([(JM i ae c).1],(JM i ae c).2):=by simp[Mf]
theorem ZU(i:Nat)(ae ns:List Nat):∀(l:List (RT X.ι))(x:sH X l)(p:List (DV X)×List (Nat×Option (bm X))),Kr i ae ns l x=some p->Mf i ae (AU ns l x)=some (bL p.1,gW p.2)
 |[],_,p,h=>by simp only[Kr,aA]at h;subst h;rfl
 |[q],x,p,h=>by
  simp only[Kr,aA]at h;subst h;simp only[AU];rcases ZT i ae ns q x with ⟨c,h1,d,h2,h3⟩ |⟨h1,h2⟩
  ·rw[h1,adn,h2,h3];simp[bL]
  ·rw[h1,h2];rfl
 |q::q'::l,x,p,h=>by
  simp only[Kr]at h;rw[ai]at h;obtain⟨p',h1,h⟩:=h;have ih:=ZU i ae ns (q'::l) x.2 p' h1;split at h
  ·rename_i hc;cases h;simp only[AU];rcases ZT i ae ns q x.1 with ⟨c,h1,d,h2,h3⟩ |⟨h1,h2⟩
   ·rw[h1];simp only[List.singleton_append,Mf,ih,af,h3,abk];rw[aY hc,h2];simp[bL,gW]
   ·rw[h1,h2];simp only[bQ];exact ih
  ·cases h
theorem ado{i:Nat}{ae:List Nat}{l:List (RT X.ι)}{x:sH X l}{p:DV X×List (Nat×Option (bm X))}(h:Fl i ae l x=some p):imp i ae (sO l x)=some (den p.1,gW p.2):=by
 unfold Fl at h;rw[ai]at h;obtain⟨p',h1,h⟩:=h;cases h;have ih:=ZU i ae _ l x p' h1;unfold sO;split
 ·rename_i c hc;rw[hc,adn]at ih;simp only[aA,Prod.mk.injEq]at ih;obtain⟨ds,u⟩:=p'
  match ds,ih with
  |[d],ih=>
   simp only[bL,List.cons.injEq,and_true]at ih;simp only[imp,aoQ,<- ih.1,<- ih.2]
  |[],ih=>simp[bL]at ih
  |_::_::_,ih=>simp[bL]at ih
 ·rename_i hne;simp only[imp,ih,af];obtain⟨ds,u⟩:=p'
  match ds,ih with
  |[],_=>rfl
  |_::_::_,_=>rfl
  |[d],ih=>
   exfalso;generalize hcs:AU (xp l x) l x=cs at ih hne
   match cs,ih,hne with
   |[],ih,_=>simp[Mf,bL]at ih
   |[c],_,hne=>exact hne c rfl
   |c::c'::cs,ih,_=>
    simp only[Mf]at ih;cases h3:Mf i ae cs with
    |none=>rw[h3]at ih;simp at ih
    |some q=>
     rw[h3]at ih;simp only[af]at ih;split at ih
     ·simp only[af]at ih;split at ih
      ·simp[bL]at ih
      ·cases ih
     ·simp at ih
def Mp:(q:RT X.ι)->RT.T X q->List (Option (bm X))
 | .mu c,x=>[some (.ea c x)]
 | .mr c,x=>[some (.cells (CT.sz X c) [uT c x])]
 | .mv,_=>[none]
 |_,_=>[]
def VY:(l:List (RT X.ι))->sH X l->List (Option (bm X))
 |[],_=>[]
 |[q],x=>Mp q x
 |q::q'::l,x=>Mp q x.1++VY (q'::l) x.2
def G9:List Nat->List (Option (bm X))->List (Nat×Option (bm X))
 |k::ae,p::os=>(k,p)::G9 ae os
 |_,_=>[]
theorem adp(q:RT X.ι)(x:RT.T X q):(Mp q x).map (·.map bG)=(p9 q x).map (·.map gA):=by
 cases q<;>try rfl
 case mr c=>simp only[Mp,p9,aF,map_nil,Option.map_some,bG,gA,rq,aI,oK]
theorem PG:∀(l:List (RT X.ι))(x:sH X l),(VY l x).map (·.map bG)=(nO l x).map (·.map gA)
 |[],_=>rfl
 |[q],x=>adp q x
 |q::q'::l,x=>by simp only[VY,nO,map_append,adp,PG (q'::l) x.2]
theorem ZV:∀(ae:List Nat)(os:List (Option (bm X)))(os':List (Option fe)),os.map (·.map bG)=os'.map (·.map gA)->gW (G9 ae os)=Az ae os'
 |[],_,_,_=>by simp[G9,Az,gW]
 |_::_,[],[],_=>rfl
 |k::ae,p::os,p'::os',h=>by
  simp only[aF,List.cons.injEq]at h;have:=ZV ae os os' h.2;simp only[gW]at this;simp only[G9,Az,gW,aF,h.1,this]
 |_::_,[],_::_,h=>by simp at h
 |_::_,_::_,[],h=>by simp at h
theorem KQ:∀{ae:List Nat}{os:List (Option (bm X))}{p:Nat×Option (bm X)},p∈G9 ae os->p.1∈ae
 |[],_,_,h=>by simp[G9]at h
 |_::_,[],_,h=>by simp[G9]at h
 |k::ae,q::os,p,h=>by
  simp only[G9,aN]at h;rcases h with rfl |h
  ·simp
  ·exact eH _ (KQ h)
def abl(get:Nat->Option (bm X))(d:DV X)(c:CT X.ι):Option (List (CT.T X.toSE c)×Nat×List Bool):=
 match d with
 | .own k 0 len=>(get k).bind λo=>match o with
  | .ea b l=>(jy (.sl b) (.sl c) l).bind λ(l:List (CT.T X.toSE c))=>some (l,k,[az len (List.length l)])
  |_=>none
 |_=>none
def VZ(get:Nat->Option (bm X))(d:DV X)(c:CT X.ι):Option (CT.T X.toSE c×Nat):=
 match d with
 | .ptr k 0 0=>(get k).bind λo=>match o with
  | .cells sz [row]=>if sz=CT.sz X c then(GX c row).bind λx=>some (x,k)else none
  |_=>none
 |_=>none
def oL(Γ:FuncId->Option (bx X))(get:Nat->Option (bm X)):List (DV X)->(l:List (AT X.ι))->Option (iJ X l×List Nat×List Bool)
 |[],[]=>some ((),[],[])
 |d::ds,.mut c::l=>(abl get d c).bind λx=>(oL Γ get ds l).bind λh=>some ((x.1,h.1),x.2.1::h.2.1,x.2.2++h.2.2)
 |d::ds,.ju c::l=>(VZ get d c).bind λx=>(oL Γ get ds l).bind λh=>some ((x.1,h.1),x.2::h.2.1,h.2.2)
 |d::ds,.d c::l=>(Rn Γ get 3 [d] [.d c]).bind λx=>(oL Γ get ds l).bind λh=>some ((x.1.1,h.1),h.2.1,x.2++h.2.2)
 |d::ds,.ref c::l=>(Rn Γ get 3 [d] [.ref c]).bind λx=>(oL Γ get ds l).bind λh=>some ((x.1.1,h.1),h.2.1,x.2++h.2.2)
 |d::ds,.d8 as r::l=>(Rn Γ get 3 [d] [.d8 as r]).bind λx=>(oL Γ get ds l).bind λh=>some ((x.1.1,h.1),h.2.1,x.2++h.2.2)
 |d::ds,.nil::l=>match d with
  | .nil=>(oL Γ get ds l).bind λh=>some (((),h.1),h.2.1,h.2.2)
  |_=>none
 |_,_=>none
def Jm:List (DV X)->List (AT X.ι)->List Nat
 |d::ds,a::l=>(if a.im then []else bk d)++Jm ds l
 |_,_=>[]
def PI(get:Nat->Option (bm X)):List (DV X)->(l:List (CT X.ι))->Option (HL X.toSE l×List Bool)
 |[],[]=>some ((),[])
 |d::ds,c::l=>(Fh get d c).bind λx=>(PI get ds l).bind λh=>some ((x.1,h.1),x.2++h.2)
 |_,_=>none
variable (Γ:FuncId->Option (bx X))
def W6(i:Nat)(f:DV X)(args:List (DV X))(get:Nat->Option (bm X))(k:KK X A):Option A:=
 match f with
 | .fn F first caps=>(Γ F).bind λs=>match s.gen.filter λg=>(sf get g.px (first++args++caps) ⟨[],[],[],[]⟩).isSome with
  |some g=>YY g i (first++args++caps) get k
  |none=>if (s.args.all (λ q=>q.pl)&&s.res.all (λ q=>!q.out))=true then(Rn Γ get 3 (first++args++caps) s.args).bind λa=>Vp a.2 ((s.fn a.1).bind λx=>(Fl i [] s.res x).bind λp=>
   if s.res.all VU then k p.1 p.2 (aP (first++args++caps)) []
   else k p.1 (p.2++MN (aP (first++args++caps))) (aP (first++args++caps)) (aP (first++args++caps)))
  else(oL Γ get (first++args++caps) s.args).bind λa=>Vp a.2.2 ((s.fn a.1).bind λx=>(Fl i a.2.1 s.res x).bind λp=>
   if (decide a.2.1.Nodup&&(Jm (first++args++caps) s.args).all (λ j=>!a.2.1.contains j)&&decide ((VY s.res x).length=a.2.1.length))=true then
    if s.res.all VU then k p.1 (p.2++G9 a.2.1 (VY s.res x)) (aP (first++args++caps)) a.2.1
    else k p.1 (p.2++(G9 a.2.1 (VY s.res x)++MN ((aP (first++args++caps)).filter λj=>!a.2.1.contains j))) (aP (first++args++caps)) (a.2.1++(aP (first++args++caps)).filter λj=>!a.2.1.contains j)
   else none)
 | .d8 as q φ=>(PI get args as).bind λh=>Vp h.2 ((φ h.1).bind λy=>
  if xk q then k (.c q y) [] (aP args) []else k (.c q y) (MN (aP args)) (aP args) (aP args))
 |_=>none
def DM(fz:List Nat)(T:eb)(am:TypeId->Option (CT X.ι))(i:Nat)(o:Op)(ρ:Operand->DV X)(get:Nat->Option (bm X))(k:KK X A):Option A:=
 match o with
 | .call { callee:= .value f,args:=args,argTypes:=_ }=>W6 Γ i (ρ f) (args.toList.map ρ) get k
 |o=>if aoN o ρ then Up T am i o ρ get k else if aoO o ρ || fz.contains i then T8 T am i o ρ get k else if aoP T o ρ then T7 T am o ρ get k else Lt T am i o ρ get k
variable {Γ}
theorem MS{P:Program}{get:Nat->Option (bm X)}{rd:List Nat}:∀{ds:List (DV X)}{l:List (CT X.ι)}{h:HL X.toSE l×List Bool},PI get ds l=some h->(∀ b∈h.2,b=true)->(∀ j∈aP ds,j∈rd)->
 ∃hs obs,(∀ p∈obs,p)/\∀ag,l9 P (dK rd (fw get)) (bL ds) (hs++ag)=some ((HL.np X.toSE l h.1).map TV.av,ag,obs)
 |[],[],h,_,_,_=>⟨[],[],by simp,λag=>rfl⟩
 |d::ds,c::l,h,hr,hc,hrd=>by
  simp only[PI]at hr;have⟨x,h1,hr⟩:=ai.1 hr;have⟨g,h2,hr⟩:=ai.1 hr;cases hr;obtain⟨hs1,o1,p1,q1⟩:=zV (P:=P) (rd:=rd) h1 (λ b hb=>hc b (by simp[hb])) (λ j hj=>hrd j (by simp[aP,hj]));obtain⟨hs2,o2,p2,q2⟩:=MS (P:=P) (rd:=rd) h2 (λ b hb=>hc b (by simp[hb])) (λ j hj=>hrd j (by simp[aP,hj]));refine⟨hs1++hs2,o1++o2,gM p1 p2,λag=>?_⟩;simp only[bL,l9,aK,q1,af,q2];rfl
 |[],_::_,_,hr,_,_=>by simp[PI]at hr
 |_::_,[],_,hr,_,_=>by simp[PI]at hr
theorem V3{i:Nat}{ae ns:List Nat}{q:RT X.ι}{x:RT.T X q}:∀p∈(G8 i ae ns q x).2,p.1=cJ i:=by cases q<;>simp[G8]
theorem V4{i:Nat}{ae ns:List Nat}:∀{l:List (RT X.ι)}{x:sH X l}{p:List (DV X)×List (Nat×Option (bm X))},Kr i ae ns l x=some p->∀q∈p.2,q.1=cJ i
 |[],_,p,h=>by simp only[Kr,aA]at h;subst h;simp
 |[q],x,p,h=>by simp only[Kr,aA]at h;subst h;exact V3
 |q::q'::l,x,p,h=>by
  simp only[Kr]at h;have⟨p',h1,h⟩:=ai.1 h;split at h
  ·cases h;intro z hz;rcases bf.1 hz with hz |hz
   ·exact V3 z hz
   ·exact V4 h1 z hz
  ·cases h
theorem ZW{i:Nat}{ae:List Nat}{l:List (RT X.ι)}{x:sH X l}{p:DV X×List (Nat×Option (bm X))}(h:Fl i ae l x=some p):∀q∈p.2,q.1=cJ i:=by
 unfold Fl at h;have⟨p',h1,h⟩:=ai.1 h;cases h;exact V4 h1
theorem He{P:Program}{get:Nat->Option aS}{x:AV}{hs ag:List LH}{y:AV}{o:List Prop}(h:l9 P get [x] hs=some ([y],ag,o)):nM P get x hs=some (y,ag,o):=by
 simp only[l9,af,append_nil,ai,aA,Prod.mk.injEq,List.cons.injEq,and_true]at h;obtain⟨q,h1,h2,h3,h4⟩:=h;rw[h1,<- h2,<- h3,<- h4]
theorem kW{d:DV X}{ds:List (DV X)}{a:AT X.ι}{l:List (AT X.ι)}{P:Nat->Prop}(h:∀j∈Jm (d::ds) (a::l),P j):(a.im=false->∀j∈bk d,P j)/\∀j∈Jm ds l,P j:=by
 simp only[Jm,bf]at h;exact⟨λ e j hj=>h j (.inl (by rw[e];simpa using hj)),λj hj=>h j (.inr hj)⟩
theorem aoh{c:CT X.ι}{l:List (CT.T X.toSE c)}:dY ((aI (l.map (CT.row X.toSE c))).take (l.map (CT.row X.toSE c)).length)=aI (l.map (CT.row X.toSE c)):=by
 rw[List.take_of_length_le (by simp[aI])];simp only[dY,aI,map_map];exact map_congr_left λy _=>by
  simp only[Function.comp,map_map];exact map_congr_left λz _=>rfl
theorem YG{get:Nat->Option (bm X)}{d:DV X}{c:CT X.ι}{x:List (CT.T X.toSE c)×Nat×List Bool}(h:abl get d c=some x)(hc:∀b∈x.2.2,b=true):
 d= .own x.2.1 0 (List.length x.1)/\∃o,get x.2.1=some o/\(bG o).sz=(rq c x.1).1/\dY ((bG o).rows.take (rq c x.1).2.length)=aI (rq c x.1).2:=by
 unfold abl at h;split at h
 ·rename_i k len;rw[ai]at h;obtain⟨o,h1,h⟩:=h;split at h
  ·rename_i b l;rw[ai]at h;obtain⟨l',h2,h⟩:=h;cases h;have⟨h3,h4⟩:=jf h2;have h5:len=List.length l':=(by simpa[az]using hc (az len (List.length l')) (by simp));refine⟨by rw[h5],.ea b l,h1,by simp only[bG,rq];exact h3,?_⟩;simp only[bG,rq,h4];exact aoh
  ·cases h
 ·cases h
theorem V5{get:Nat->Option (bm X)}{d:DV X}{c:CT X.ι}{x:CT.T X.toSE c×Nat}(h:VZ get d c=some x):
 d= .ptr x.2 0 0/\∃o,get x.2=some o/\(bG o).sz=(rq c [x.1]).1/\dY ((bG o).rows.take (rq c [x.1]).2.length)=aI (rq c [x.1]).2:=by
 unfold VZ at h;split at h
 ·rename_i k;rw[ai]at h;obtain⟨o,h1,h⟩:=h;split at h
  ·rename_i sz row;split at h
   ·rename_i hsz;have⟨y,h2,h⟩:=ai.1 h;cases h;refine⟨rfl,_,h1,by simp only[bG,rq];exact hsz,?_⟩;simp only[bG,rq,aF,map_nil,List.length_singleton,List.take_succ_cons,List.take_zero,dY,aI];rw[xZ h2]
   ·cases h
  ·cases h
 ·cases h
theorem nk{P:Program}{Γ:FuncId->Option (bx X)}(hΓ:sC P Γ){get:Nat->Option (bm X)}{rd ae:List Nat}:∀{n:Nat}{ds:List (DV X)}{l:List (AT X.ι)}{a:iJ X l×List Nat×List Bool},oL Γ get ds l=some a->(∀ b∈a.2.2,b=true)->(∀ j∈aP ds,j∈rd)->(∀ j∈Jm ds l,j∉ae)->ae.drop n=a.2.1->
 (∃ hs obs,(∀ p∈obs,p)/\∀ag,lW P (dK rd (fw get)) ae (bL ds) (hs++ag)=some (dP n l a.1,ag,obs))/\∃mo,Ay (dK rd (fw get)) a.2.1 (p8 l a.1)=some mo/\∀p∈mo,p
 |n,[],[],a,h,_,_,_,_=>by
  simp only[oL,aA]at h;subst h;exact⟨⟨[],[],by simp,λag=>rfl⟩,[],rfl,by simp⟩
 |n,d::ds,.mut c::l,a,h,hc,hrd,hnr,hid=>by
  simp only[oL]at h;have⟨x,h1,h⟩:=ai.1 h;have⟨q,h2,h⟩:=ai.1 h;cases h;obtain⟨rfl,o,g1,g2,g3⟩:=YG h1 (λ b hb=>hc b (by simp[hb]));have By:ae[n]? =some x.2.1:=by rw[<- List.head?_drop,hid];rfl
  have BC:ae.drop (n+1)=q.2.1:=by rw[<- List.tail_drop,hid];rfl
  obtain⟨⟨hs,obs,p1,p2⟩,mo,m1,m2⟩:=nk hΓ (n:=n+1) h2 (λ b hb=>hc b (by simp[hb])) (λ j hj=>hrd j (by simp[aP,hj])) (kW hnr).2 BC;refine⟨⟨.mut n::hs,obs,p1,λag=>?_⟩,((bG o).sz=(rq c x.1).1/\dY ((bG o).rows.take (rq c x.1).2.length)=aI (rq c x.1).2)::mo,?_,?_⟩
  ·simp only[bL,den,lW,cons_append,oI,By,if_true,af,p2,dP,bQ]
  ·simp only[p8,Ay,eG (hrd x.2.1 (by simp[aP,bk])) g1,af,m1]
  ·intro p hp;rcases aN.1 hp with rfl |hp
   ·exact⟨g2,g3⟩
   ·exact m2 p hp
 |n,d::ds,.ju c::l,a,h,hc,hrd,hnr,hid=>by
  simp only[oL]at h;have⟨x,h1,h⟩:=ai.1 h;have⟨q,h2,h⟩:=ai.1 h;cases h;obtain⟨rfl,o,g1,g2,g3⟩:=V5 h1;have By:ae[n]? =some x.2:=by rw[<- List.head?_drop,hid];rfl
  have BC:ae.drop (n+1)=q.2.1:=by rw[<- List.tail_drop,hid];rfl
  obtain⟨⟨hs,obs,p1,p2⟩,mo,m1,m2⟩:=nk hΓ (n:=n+1) h2 (λ b hb=>hc b (by simp[hb])) (λ j hj=>hrd j (by simp[aP,hj])) (kW hnr).2 BC;refine⟨⟨.mut n::hs,obs,p1,λag=>?_⟩,((bG o).sz=(rq c [x.1]).1/\dY ((bG o).rows.take (rq c [x.1]).2.length)=aI (rq c [x.1]).2)::mo,?_,?_⟩
  ·simp only[bL,den,lW,cons_append,oI,By,if_true,af,p2,dP,bQ]
  ·simp only[p8,Ay,eG (hrd x.2 (by simp[aP,bk])) g1,af,m1]
  ·intro p hp;rcases aN.1 hp with rfl |hp
   ·exact⟨g2,g3⟩
   ·exact m2 p hp
 |n,d::ds,.d c::l,a,h,hc,hrd,hnr,hid=>by
  simp only[oL]at h;have⟨x,h1,h⟩:=ai.1 h;have⟨q,h2,h⟩:=ai.1 h;cases h;obtain⟨hs1,o1,p1,q1⟩:=rP (P:=P) hΓ 3 (n:=n) h1 (λ b hb=>hc b (by simp[hb])) (rd:=rd) (λ j hj=>hrd j (by simp only[aP,append_nil]at hj;simp[aP,hj]));obtain⟨⟨hs,obs,p2,q2⟩,mo,m1,m2⟩:=nk hΓ (n:=n) h2 (λ b hb=>hc b (by simp[hb])) (λ j hj=>hrd j (by simp[aP,hj])) (kW hnr).2 hid;refine⟨⟨YF (den d) hs1++hs,o1++obs,gM p1 p2,λag=>?_⟩,mo,m1,m2⟩;have:=yc (He (q1 (hs++ag))) (λ k hk=>(kW hnr).1 rfl k (by rwa [iP]at hk));rw[MQ]at this;simp only[bL,lW,aK,this,af,q2,dP]
 |n,d::ds,.ref c::l,a,h,hc,hrd,hnr,hid=>by
  simp only[oL]at h;have⟨x,h1,h⟩:=ai.1 h;have⟨q,h2,h⟩:=ai.1 h;cases h;obtain⟨hs1,o1,p1,q1⟩:=rP (P:=P) hΓ 3 (n:=n) h1 (λ b hb=>hc b (by simp[hb])) (rd:=rd) (λ j hj=>hrd j (by simp only[aP,append_nil]at hj;simp[aP,hj]));obtain⟨⟨hs,obs,p2,q2⟩,mo,m1,m2⟩:=nk hΓ (n:=n) h2 (λ b hb=>hc b (by simp[hb])) (λ j hj=>hrd j (by simp[aP,hj])) (kW hnr).2 hid;refine⟨⟨YF (den d) hs1++hs,o1++obs,gM p1 p2,λag=>?_⟩,mo,m1,m2⟩;have:=yc (He (q1 (hs++ag))) (λ k hk=>(kW hnr).1 rfl k (by rwa [iP]at hk));rw[MQ]at this;simp only[bL,lW,aK,this,af,q2,dP]
 |n,d::ds,.d8 as r::l,a,h,hc,hrd,hnr,hid=>by
  simp only[oL]at h;have⟨x,h1,h⟩:=ai.1 h;have⟨q,h2,h⟩:=ai.1 h;cases h;obtain⟨hs1,o1,p1,q1⟩:=rP (P:=P) hΓ 3 (n:=n) h1 (λ b hb=>hc b (by simp[hb])) (rd:=rd) (λ j hj=>hrd j (by simp only[aP,append_nil]at hj;simp[aP,hj]));obtain⟨⟨hs,obs,p2,q2⟩,mo,m1,m2⟩:=nk hΓ (n:=n) h2 (λ b hb=>hc b (by simp[hb])) (λ j hj=>hrd j (by simp[aP,hj])) (kW hnr).2 hid;refine⟨⟨YF (den d) hs1++hs,o1++obs,gM p1 p2,λag=>?_⟩,mo,m1,m2⟩;have:=yc (He (q1 (hs++ag))) (λ k hk=>(kW hnr).1 rfl k (by rwa [iP]at hk));rw[MQ]at this;simp only[bL,lW,aK,this,af,q2,dP]
 |n,d::ds,.nil::l,a,h,hc,hrd,hnr,hid=>by
  simp only[oL]at h;split at h
  ·have⟨q,h2,h⟩:=ai.1 h;cases h;obtain⟨⟨hs,obs,p2,q2⟩,mo,m1,m2⟩:=nk hΓ (n:=n) h2 hc (λ j hj=>hrd j (by simp[aP,hj])) (kW hnr).2 hid;refine⟨⟨.nil::hs,obs,p2,λag=>?_⟩,mo,m1,m2⟩;have:=yc (P:=P) (get':=dK rd (fw get)) (ae:=ae) (x:= .cV) (hs:= .nil::(hs++ag)) (p:=(.cV,hs++ag,[])) rfl (λ k hk=>by simp[refs]at hk);simp only[YF]at this;simp only[bL,den,lW,cons_append,this,af,q2,dP,bQ]
  ·cases h
 |_,[],_::_,_,h,_,_,_,_=>by simp[oL]at h
 |_,_::_,[],_,h,_,_,_,_=>by simp[oL]at h
theorem adq{P:Program}(hΓ:sC P Γ){i:Nat}{f:DV X}{args:List (DV X)}{get:Nat->Option (bm X)}{k:KK X A}{r:A}(h:W6 Γ i f args get k=some r):
 ∃cw rd wr dv upd ab,j4 P i (den f) (bL args) cw (dK rd (fw get))=some ab/\jq ab.obs/\ab.v=den dv/\ab.upd=gW upd/\(∀ p∈upd,p.1=cJ i\/p.1∈wr)/\k dv upd rd wr=some r:=by
 unfold W6 at h;split at h
 ·rename_i F first caps
  rw[ai]at h;obtain⟨s,h1,h⟩:=h;split at h
  ·rename_i g hgen;exact abj ((hΓ F s h1).2.2 g (Option.filter_eq_some_iff.1 hgen).1) h
  split at h
  ·rename_i hpure;rw[ai]at h;obtain⟨⟨a,cs⟩,h2,h⟩:=h;have⟨hcs,h⟩:=pq h;rw[ai]at h;obtain⟨x,h3,h⟩:=h;rw[ai]at h;obtain⟨p,h4,h⟩:=h;have hf0:=(hΓ F s h1).2.1 a x h3;simp only[aL]at hpure;rw[vZ (aoL hpure.1),ac7 hpure.2]at hf0;have hf:=MC hf0;have hi:=ado h4;have hk:=ZW h4;obtain⟨hs,obs,g1,g2⟩:=rP (P:=P) hΓ 3 h2 hcs (rd:=aP (first++args++caps)) (λ j hj=>hj);have g3:=g2 [];rw[append_nil,iD,iD]at g3;have hrefs:eU (bL first++bL args++bL caps)=aP (first++args++caps):=(by rw[<- iD,<- iD,ic]);split at h
   ·rename_i hfl;refine⟨.call hs (sO s.res x) true,_,[],p.1,p.2,⟨den p.1,gW p.2,obs++[ra P F (vY s.args a) (sO s.res x),(sO s.res x).flat]⟩,?_,?_,rfl,rfl,λq hq=> .inl (hk q hq),h⟩
    ·simp only[den,j4,oJ,xu,hi,af,g3];rfl
    ·exact qM _ (gM g1 (by
      intro q hq;simp only[aN,fu,or_false]at hq;rcases hq with rfl |rfl
      ·exact hf
      ·exact VX x hfl))
   ·refine⟨.call hs (sO s.res x) false,_,_,p.1,_,⟨den p.1,gW p.2++(aP (first++args++caps)).map (λ k=>(k,none)),obs++[ra P F (vY s.args a) (sO s.res x)]⟩,?_,?_,rfl,?_,?_,h⟩
    ·simp only[den,j4,oJ,xu,hi,af,g3,hrefs];rfl
    ·exact qM _ (gM g1 (by
      intro q hq;simp only[aW]at hq;subst hq;exact hf))
    ·simp only[rQ,Co]
    ·intro q hq;rcases bf.1 hq with hq |hq
     ·exact .inl (hk q hq)
     ·exact .inr (Jk hq)
  ·rename_i hpure;rw[ai]at h;obtain⟨⟨a,ae,cs⟩,h2,h⟩:=h;have⟨hcs,h⟩:=pq h;rw[ai]at h;obtain⟨x,h3,h⟩:=h;rw[ai]at h;obtain⟨p,h4,h⟩:=h;split at h
   ·rename_i hc;simp only[aL,aV]at hc;obtain⟨⟨hnd,hnr⟩,hlen⟩:=hc;have hf:=(hΓ F s h1).2.1 a x h3;have hi:=ado h4;have hk:=ZW h4;obtain⟨⟨hs,obs,g1,g2⟩,mo,m1,m2⟩:=nk (P:=P) hΓ (rd:=aP (first++args++caps)) (ae:=ae) (n:=0) h2 hcs (λ j hj=>hj) (λ j hj=>by simpa using all_eq_true.1 hnr j hj) rfl;have g3:=g2 [];rw[append_nil,iD,iD]at g3;have hrefs:eU (bL first++bL args++bL caps)=aP (first++args++caps):=(by rw[<- iD,<- iD,ic]);have hlen':(nO s.res x).length=ae.length:=by
     rw[<- hlen];simpa using (congrArg List.length (PG s.res x)).symm
    have hout:gW (G9 ae (VY s.res x))=Az ae (nO s.res x):=ZV _ _ _ (PG s.res x);split at h
    ·rename_i hfl;refine⟨.tx ae (p8 s.args a) (nO s.res x) hs (sO s.res x) true,_,ae,p.1,_,⟨den p.1,gW p.2++Az ae (nO s.res x),obs++mo++[qn P F (vY s.args a) (p8 s.args a) (nO s.res x) (sO s.res x),(sO s.res x).flat,UX (nO s.res x)]⟩,?_,?_,rfl,?_,?_,h⟩
     ·simp only[den,j4,oJ,GJ,hi,af,m1,g3];rw[aY ⟨hnd,hlen'⟩];rfl
     ·refine qM _ (gM (gM g1 m2) ?_);intro q hq;simp only[aN,fu,or_false]at hq;rcases hq with rfl |rfl |rfl
      ·exact hf
      ·exact VX x hfl
      ·exact ZR hfl
     ·simp only[rQ,hout]
     ·intro q hq;rcases bf.1 hq with hq |hq
      ·exact .inl (hk q hq)
      ·exact .inr (KQ hq)
    ·refine⟨.tx ae (p8 s.args a) (nO s.res x) hs (sO s.res x) false,_,_,p.1,_,⟨den p.1,gW p.2++(Az ae (nO s.res x)++((aP (first++args++caps)).filter λj=>!ae.contains j).map (λ k=>(k,none))),obs++mo++[qn P F (vY s.args a) (p8 s.args a) (nO s.res x) (sO s.res x)]⟩,?_,?_,rfl,?_,?_,h⟩
     ·simp only[den,j4,oJ,GJ,hi,af,m1,g3,GI,hrefs];rw[aY ⟨hnd,hlen'⟩];rfl
     ·refine qM _ (gM (gM g1 m2) ?_);intro q hq;simp only[aW]at hq;subst hq;exact hf
     ·simp only[rQ,hout,Co]
     ·intro q hq;rcases bf.1 hq with hq |hq
      ·exact .inl (hk q hq)
      ·rcases bf.1 hq with hq |hq
       ·exact .inr (List.mem_append_left _ (KQ hq))
       ·exact .inr (mem_append_right _ (Jk hq))
   ·cases h
 ·rename_i as q φ;rw[ai]at h;obtain⟨⟨hh,cs⟩,h1,h⟩:=h;have⟨hcs,h⟩:=pq h;rw[ai]at h;obtain⟨y,h2,h⟩:=h;obtain⟨hs,obs,g1,g2⟩:=MS (P:=P) h1 hcs (rd:=aP args) (λ j hj=>hj);have g3:=g2 [];rw[append_nil]at g3;have hφ:∃h' x',φ h'=some x'/\HL.np X.toSE as hh=HL.np X.toSE as h'/\CT.tv X.toSE q y=CT.tv X.toSE q x':=⟨hh,y,h2,rfl,rfl⟩;split at h
  ·rename_i hfl;refine⟨.C6 hs (HL.np X.toSE as hh) (CT.tv X.toSE q y) true,_,[],.c q y,[],⟨(CT.tv X.toSE q y).av,[],obs++[(HL.np X.toSE as hh).map TV.av=(HL.np X.toSE as hh).map TV.av,(∃ h' x',φ h'=some x'/\HL.np X.toSE as hh=HL.np X.toSE as h'/\CT.tv X.toSE q y=CT.tv X.toSE q x'),(CT.tv X.toSE q y).flat]⟩,?_,?_,rfl,rfl,by simp,h⟩
   ·simp only[den,j4,oJ,xu,g3,af];rfl
   ·exact qM _ (gM g1 (by
     intro z hz;simp only[aN,fu,or_false]at hz;rcases hz with rfl |rfl |rfl
     ·trivial
     ·exact hφ
     ·exact adm hfl y))
  ·refine⟨.C6 hs (HL.np X.toSE as hh) (CT.tv X.toSE q y) false,_,_,.c q y,_,⟨(CT.tv X.toSE q y).av,(aP args).map (λ k=>(k,none)),obs++[(HL.np X.toSE as hh).map TV.av=(HL.np X.toSE as hh).map TV.av,(∃ h' x',φ h'=some x'/\HL.np X.toSE as hh=HL.np X.toSE as h'/\CT.tv X.toSE q y=CT.tv X.toSE q x')]⟩,?_,?_,rfl,(Co _).symm,λz hz=> .inr (Jk hz),h⟩
   ·simp only[den,j4,oJ,xu,g3,af,ic];rfl
   ·exact qM _ (gM g1 (by
     intro z hz;simp only[aN,fu,or_false]at hz;rcases hz with rfl |rfl
     ·trivial
     ·exact hφ))
 ·cases h
theorem afV{P:Program}(hΓ:sC P Γ){fz:List Nat}{T:eb}{am:TypeId->Option (CT X.ι)}{i:Nat}{o:Oper}{ρ:Operand->DV X}{get:Nat->Option (bm X)}{k:KK X A}{r:A}(h:DM Γ fz T am i o.op ρ get k=some r):d7 P T i o ρ get k r:=by
 obtain⟨dst,op,ty,ao,after,guard⟩:=o;unfold DM at h;simp only at h;split at h
 ·rename_i f args cQ;have:=adq hΓ h;simp only[<- Uk]at this;obtain⟨cw,rd,wr,dv,upd,ab,g1,g2⟩:=this;exact .call g1 g2
 ·split at h
  ·exact afO (o:=⟨dst,op,ty,ao,after,guard⟩) h
  ·split at h
   ·exact afP (o:=⟨dst,op,ty,ao,after,guard⟩) h
   ·split at h
    ·exact afQ (o:=⟨dst,op,ty,ao,after,guard⟩) h
    ·rename_i hne _ _ _;have⟨cw,rd,wr,dv,upd,ab,g1,g2⟩:=ZG (o:=⟨dst,op,ty,ao,after,guard⟩) h;exact d7.op (λ f args cQ e=>hne f args cQ e) g1 g2
end
def lh(x y:AV):Prop:=∀P β w I v,VR P β w I x v->VR P β w I y v
theorem lh.refl(x:AV):lh x x:=λ_ _ _ _ _ h=>h
theorem lh.undef(x:AV):lh x .undef:=λ_ _ _ _ _ _=>by simp[VR]
theorem lh.wk(x:AV):lh x (wk x):=λ_ _ _ _ _ h=>h.wk
section
variable {P:Program} {w0:World} {O0:j7} {N:Nat} {β:Nat->Option cL} {I:Nat->Prop} {a:Act} {w:World} {f g:Nat->Nat} {D:Nat->Prop}
mutual
theorem VR.rn(hgf:∀k,D k->g (f k)=k):∀(x:AV)(v:Value),(∀ k∈refs x,D k)->VR P β w I x v->VR P (λ j=>β (g j)) w I (fX f x) v
 | .own k aa len,v,hd,h=>by simp only[fX,VR,hgf k (hd k (by simp[refs]))]at h ⊢;exact h
 | .ptr k row aa,v,hd,h=>by simp only[fX,VR,hgf k (hd k (by simp[refs]))]at h ⊢;exact h
 | .agg cs,v,hd,h=>by
  simp only[fX,VR]at h ⊢;obtain⟨vs,h1,h2⟩:=h;exact⟨vs,h1,aE.rn hgf cs _ (by simpa[refs]using hd) h2⟩
 | .eC cs,v,hd,h=>by
  simp only[fX,VR]at h ⊢;obtain⟨vs,h1,h2⟩:=h;exact⟨vs,h1,aE.rn hgf cs _ (by simpa[refs]using hd) h2⟩
 | .fn F first caps,v,hd,h=>by
  simp only[fX,VR]at h ⊢;obtain⟨fs,cs,h1,h2,h3⟩:=h;exact⟨fs,cs,h1,aE.rn hgf first _ (λ k hk=>hd k (by simp[refs,hk])) h2,aE.rn hgf caps _ (λ k hk=>hd k (by simp[refs,hk])) h3⟩
 | .t x,v,_,h=>by simpa[fX,VR]using h
 | .ep r o,v,_,h=>by simpa[fX,VR]using h
 | .d8 φ,v,_,h=>by simpa[fX,VR]using h
 | .mp k,v,hd,h=>by simp only[fX,VR,hgf k (hd k (by simp[refs]))]at h ⊢;exact h
 | .oz k len,v,hd,h=>by simp only[fX,VR,hgf k (hd k (by simp[refs]))]at h ⊢;exact h
 | .cV,v,_,h=>by simpa[fX,VR]using h
 | .ub,v,_,h=>by simpa[fX,VR]using h
 | .undef,v,_,h=>by simp[fX,VR]
theorem aE.rn(hgf:∀k,D k->g (f k)=k):∀(xs:List AV)(vs:List Value),(∀ k∈eU xs,D k)->aE P β w I xs vs->aE P (λ j=>β (g j)) w I (zB f xs) vs
 |[],[],_,_=>by simp[zB,aE]
 |x::xs,v::vs,hd,h=>by
  simp only[aE]at h;simp only[zB,aE];exact⟨VR.rn hgf x v (λ k hk=>hd k (by simp[eU,hk])) h.1,aE.rn hgf xs vs (λ k hk=>hd k (by simp[eU,hk])) h.2⟩
 |[],_::_,_,h=>by simp[aE]at h
 |_::_,[],_,h=>by simp[aE]at h
end
def mN(D:Nat->Prop)(f:Nat->Nat):List AV->List AV->Prop
 |[],[]=>True
 |x::xs,y::ys=>((∀ k∈refs x,D k)/\lh (fX f x) y)/\mN D f xs ys
 |_,_=>False
def ie(D:Nat->Prop)(f:Nat->Nat):List (List AV)->List (List AV)->Prop
 |[],[]=>True
 |r::rs,q::qs=>mN D f r q/\ie D f rs qs
 |_,_=>False
theorem mN.length:∀{r q:List AV},mN D f r q->q.length=r.length
 |[],[],_=>rfl
 |_::xs,_::ys,h=>by simp[mN.length h.2]
 |[],_::_,h=>h.elim
 |_::_,[],h=>h.elim
theorem cW.re(hgf:∀k,D k->g (f k)=k):∀{r q:List AV}{c:Array Value}{aa:Nat},mN D f r q->cW P β w I r c aa->cW P (λ j=>β (g j)) w I q c aa
 |[],[],_,_,_,_=>trivial
 |x::xs,y::ys,c,aa,hr,⟨⟨v,h1,h2,h3⟩,h4⟩=>⟨⟨v,h1,hr.1.2 _ _ _ _ _ (VR.rn hgf x v hr.1.1 h2),h3⟩,cW.re hgf hr.2 h4⟩
 |[],_::_,_,_,h,_=>h.elim
 |_::_,[],_,_,h,_=>h.elim
theorem bo.re(hgf:∀k,D k->g (f k)=k):∀{rs qs:List (List AV)}{c:Array Value}{aa sz:Nat},ie D f rs qs->bo P β w I rs c aa sz->bo P (λ j=>β (g j)) w I qs c aa sz
 |[],[],_,_,_,_,_=>trivial
 |r::rs,q::qs,c,aa,sz,hr,⟨h1,h2,h3⟩=>⟨by rw[hr.1.length];exact h1,cW.re hgf hr.1 h2,bo.re hgf hr.2 h3⟩
 |[],_::_,_,_,_,h,_=>h.elim
 |_::_,[],_,_,_,h,_=>h.elim
theorem aE.re(hgf:∀k,D k->g (f k)=k):∀{r q:List AV}{vs:List Value},mN D f r q->aE P β w I r vs->aE P (λ j=>β (g j)) w I q vs
 |[],[],[],_,_=>by simp[aE]
 |x::xs,y::ys,v::vs,hr,h=>by
  simp only[aE]at h ⊢;exact⟨hr.1.2 _ _ _ _ _ (VR.rn hgf x v hr.1.1 h.1),aE.re hgf hr.2 h.2⟩
 |[],_::_,_,h,_=>h.elim
 |_::_,[],_,h,_=>h.elim
 |[],[],_::_,_,h=>by simp[aE]at h
 |_::_,_::_,[],_,h=>by simp[aE]at h
theorem co.re(hgf:∀k,D k->g (f k)=k):∀{rs qs:List (List AV)}{es:List MapEntry},ie D f rs qs->co P β w I rs es->co P (λ j=>β (g j)) w I qs es
 |[],[],[],_,_=>trivial
 |r::rs,q::qs,_::es,hr,⟨h1,h2⟩=>⟨aE.re hgf hr.1 h1,co.re hgf hr.2 h2⟩
 |[],_::_,_,h,_=>h.elim
 |_::_,[],_,h,_=>h.elim
 |[],[],_::_,_,h=>h.elim
 |_::_,_::_,[],_,h=>h.elim
theorem ie.length:∀{rs qs:List (List AV)},ie D f rs qs->qs.length=rs.length
 |[],[],_=>rfl
 |_::xs,_::ys,h=>by simp[ie.length h.2]
 |[],_::_,h=>h.elim
 |_::_,[],h=>h.elim
theorem Rel.re{s s':St}(hgf:∀k,D k->g (f k)=k)(hg:∀j,j<1000->g j=j)(hr:Rel P w0 O0 N β I s a w)(hok:∀t,s.ok t=none\/s'.env t= .undef)(hok':∀t,s'.ok t=none)
 (hE:∀t,s'.env t= .undef\/((∀ k∈refs (s.env t),D k)/\lh (fX f (s.env t)) (s'.env t)))
 (hO:∀j o',s'.obj j=some o'->∃k o,s.obj k=some o/\D k/\f k=j/\o'.sz=o.sz/\ie D f o.rows o'.rows):Rel P w0 O0 N (λ j=>β (g j)) I s' a w:=by
 refine⟨hr.defers,hr.size,λt=>?_,?_⟩
 ·have h1:=hr.env t;rw[hok' t];rcases hok t with hk |h
  rotate_left
  ·rw[h];simp[eJ,VR]
  rw[hk]at h1;rcases hE t with h |⟨h2,h3⟩
  ·rw[h];simp[eJ,VR]
  ·exact h3 _ _ _ _ _ (VR.rn hgf _ _ h2 h1)
 ·have hm:=hr.mem;constructor
  ·intro j o' hj;obtain⟨k,o,h1,h2,rfl,h4,h5⟩:=hO j o' hj;have⟨B,hB,sA⟩:=hm.cE k o h1;refine⟨B,by simp only[hgf k h2];exact hB,?_⟩;cases B with
   |none=>
    simp only[OR]at sA ⊢;rw[sA]at h5;cases ho:o'.rows with
    |nil=>rfl
    |cons=>rw[ho]at h5;exact h5.elim
   | «at» b sz n=>
    obtain⟨g1,c,e,g2,g3,g4⟩:=sA;exact⟨by rw[g1,h4],c,e,g2,g3,bo.re hgf h5 g4⟩
   |mp b=>
    obtain⟨es,cl,g1,gl,g2,g3⟩:=sA;have hl:=h5.length;exact⟨es,cl,g1,by omega,λe=>co.re hgf h5 (g2 (by omega)),g3⟩
  ·intro j j' o o' B B' b h1 h2 h3 h4 h5 h6;obtain⟨k,q,i1,i2,rfl,_⟩:=hO j o h1;obtain⟨k',q',i1',i2',rfl,_⟩:=hO j' o' h2;simp only[hgf k i2,hgf k' i2']at h3 h4;rw[hm.gj k k' q q' B B' b i1 i1' h3 h4 h5 h6]
  ·intro j o B b h1 h2;obtain⟨k,q,i1,i2,rfl,_⟩:=hO j o h1;simp only[hgf k i2]at h2;exact hm.ownB k q B b i1 h2
  ·exact hm.lt
  ·exact hm.up
  ·exact hm.keep
  ·exact hm.le
  ·exact hm.os
  ·exact hm.tape
  ·exact hm.output
  ·intro j B hj;show β (g j)=some B;rw[hg j (O0.lt j B hj)];exact hm.anch j B hj
  ·exact hm.vars
end
section
variable {X:SX}
theorem adr{D:Nat->Prop}(f:Nat->Nat):∀r:List (DV X),(∀ k∈aP r,D k)->mN D f (bL r) (bL (JP f r))
 |[],_=>trivial
 |x::xs,h=>⟨⟨λ k hk=>h k (by rw[iP]at hk;simp[aP,hk]),by rw[zW];exact lh.refl _⟩,adr f xs λk hk=>h k (by simp[aP,hk])⟩
theorem Jo{D:Nat->Prop}(f:Nat->Nat)(o:bm X)(h:∀k∈d5 o,D k):(bG (oR f o)).sz=(bG o).sz/\ie D f (bG o).rows (bG (oR f o)).rows:=by
 cases o with
 |cells sz rows=>
  refine⟨rfl,?_⟩;simp only[bG,oR,map_map];simp only[d5]at h
  induction rows with
  |nil=>trivial
  |cons r rs ih=>
   refine⟨adr f r λk hk=>h k (by simp[hk]),ih λk hk=>h k ?_⟩;simp only[aF,flatten_cons,bf];exact .inr hk
 |ea c l=>
  refine⟨rfl,?_⟩;simp only[bG,oR];generalize l.map (CT.row X.toSE c)=rows;have hrow:∀r:List Tree,mN D f (r.map AV.t) (r.map AV.t):=by
   intro r
   induction r with
   |nil=>trivial
   |cons y ys ih=>exact⟨⟨by simp[refs],lh.refl _⟩,ih⟩
  induction rows with
  |nil=>trivial
  |cons r rs ih=>exact⟨hrow r,ih⟩
 |map kc vc l=>
  refine⟨rfl,?_⟩;simp only[bG,oR];clear h
  induction l with
  |nil=>trivial
  |cons p ps ih=>exact⟨⟨⟨by simp[zU],by rw[VP];exact lh.refl _⟩,⟨by simp[zU],by rw[VP];exact lh.refl _⟩,trivial⟩,ih⟩
structure Low(s:de X):Prop where
 le:s.nx<=1000000
 ge:1000<=s.nx
 env:∀t,∀k∈bk (eM s.env t),k<s.nx
 obj:∀k o,gz s.obj k=some o->k<s.nx/\∀j∈d5 o,j<s.nx
theorem V6{o:bm X}{r:List AV}{x:AV}(hr:r∈(bG o).rows)(hx:x∈r):∀j∈refs x,j∈d5 o:=by
 intro j hj;cases o with
 |cells sz rows=>
  simp only[bG,mem_map]at hr;obtain⟨q,hq,rfl⟩:=hr;rw[nN,mem_map]at hx;obtain⟨d,hd,rfl⟩:=hx;simp only[d5,List.mem_flatten,mem_map];refine⟨_,⟨q,hq,rfl⟩,?_⟩;have:∀l:List (DV X),d∈l->j∈aP l:=by
   intro l
   induction l with
   |nil=>intro h;simp at h
   |cons y ys ih=>intro h;rcases aN.1 h with rfl |h
                  ·simp only[aP,bf];left;rwa [iP]at hj
                  ·simp only[aP,bf];exact .inr (ih h)
  exact this q hd
 |ea c l=>
  simp only[bG,aI,mem_map]at hr;obtain⟨q,_,rfl⟩:=hr;simp only[mem_map]at hx;obtain⟨t,_,rfl⟩:=hx;simp[refs]at hj
 |map kc vc l=>
  simp only[bG,mem_map]at hr;obtain⟨q,_,rfl⟩:=hr;simp only[aN,fu,or_false]at hx;rcases hx with rfl |rfl<;>simp[zU]at hj
theorem Low.old{s:de X}(h:Low s):tB s.st:=by
 have hle:=h.le;constructor
 ·intro t k hk;have:=h.env t k (by rw[<- iP];exact hk);omega
 ·intro k o hk;simp only[de.st,dN]at hk;obtain⟨o',h1,rfl⟩:=hk;have⟨h2,h3⟩:=h.obj k o' h1;refine⟨by omega,λr hr x hx j hj=>?_⟩;have:=h3 j (V6 hr hx j hj);omega
end
section
variable {X:SX} {A:Type}
def pb(e b:List (Nat×DV X))(t:Nat):DV X:=match lk e t with |some x=>x |none=>eM b t
def wy(o b:List (Nat×Option (bm X)))(k:Nat):Option (bm X):=match lk o k with |some x=>x |none=>gz b k
def zF(dst:Option Tmp)(dv:DV X)(e:List (Nat×DV X)):List (Nat×DV X):=match dst with |some t=>(t,dv)::e |none=>e
def V7:DV X->DV X
 | .skip=> .undef
 |x=>x
def Kt(e:List (Nat×DV X)):Operand->Bool
 | .tmp t=>match lk e t with |some .skip=>false |_=>true
 |_=>true
def Rs(e b:List (Nat×DV X))(o:Op):Bool:=
 match o with
 | .pick c x y=>Kt e c&&((Kt e x&&Kt e y) || match Yz (pb e b) c with | .c .bool t=>bif t then Kt e x else Kt e y |_=>false)
 |o=>o.operands.toList.all (Kt e)
abbrev D1:=List (Nat×List Nat×List Nat)
section
variable (Γ:FuncId->Option (bx X)) (fz:List Nat) (T:eb) (am:TypeId->Option (CT X.ι)) (al:Array Oper) (b:de X)
def yJ(k:List (Nat×DV X)->List (Nat×Option (bm X))->D1->Option A):List Nat->List (Nat×DV X)->List (Nat×Option (bm X))->D1->Option A
 |[],e,o,oe=>k e o oe
 |i::r,e,o,oe=>(al[i]?).bind λop=>match op.guard with
  |none=>bif Rs e b.env op.op then DM Γ fz T am i op.op (Yz (pb e b.env)) (wy o b.obj) λdv upd rd wr=>yJ k r (zF op.dst (V7 dv) e) (upd++o) ((i,rd,wr)::oe)else none
  |some (j,p)=>((al[j]?).bind (·.dst)).bind λt=>match pb e b.env t with
   | .c .bool v=>
    bif v then(bif p then(bif Rs ((t,.c .bool true)::e) b.env op.op then DM Γ fz T am i op.op (Yz (pb ((t,.c .bool true)::e) b.env)) (wy o b.obj) λdv upd rd wr=>yJ k r (zF op.dst (V7 dv) ((t,.c .bool true)::e)) (upd++o) ((i,rd,wr)::oe)else none)
     else yJ k r (zF op.dst .skip ((t,.c .bool true)::e)) o ((i,[],[])::oe))
    else(bif p then yJ k r (zF op.dst .skip ((t,.c .bool false)::e)) o ((i,[],[])::oe)
     else(bif Rs ((t,.c .bool false)::e) b.env op.op then DM Γ fz T am i op.op (Yz (pb ((t,.c .bool false)::e) b.env)) (wy o b.obj) λdv upd rd wr=>yJ k r (zF op.dst (V7 dv) ((t,.c .bool false)::e)) (upd++o) ((i,rd,wr)::oe)else none))
   | .skip=>bif(lk e t).isSome then yJ k r (zF op.dst .skip e) o ((i,[],[])::oe)else none
   |_=>none
end
def iC(b:de X)(e:List (Nat×DV X))(o:List (Nat×Option (bm X))):St:=⟨λ t=>den (pb e b.env t),λk=>(wy o b.obj k).map bG,λt=>match lk e t with |some .skip=>some false |_=>none⟩
theorem aiR(x:DV X):den (V7 x)=den x:=by cases x<;>rfl
theorem akB(b:de X)(e:List (Nat×DV X))(o:List (Nat×Option (bm X)))(dst:Option Tmp)(dv:DV X)(upd:List (Nat×Option (bm X)))(obs:List Prop):
 (iC b e o).app dst (⟨den dv,gW upd,obs⟩,none)=iC b (zF dst (V7 dv) e) (upd++o):=by
 simp only[iC,St.app,St.mk.injEq];refine⟨?_,?_,?_⟩
 ·funext t;cases dst with
  |none=>simp[AB,zF]
  |some d=>
   simp only[AB,zF,pb,lk,aA];by_cases h:d=t<;>simp[h,aiR]
 ·funext j
  induction upd with
  |nil=>rfl
  |cons p u ih=>
   obtain⟨q,x⟩:=p;simp only[gW,aF,cK,cons_append,wy,lk]at ih ⊢;by_cases h:j=q
   ·simp[h]
   ·rw[aR h,aR (Ne.symm h)];exact ih
 ·funext t;cases dst with
  |none=>simp[AB,zF]
  |some d=>
   simp only[AB,zF,lk,aA];by_cases h:d=t
   ·simp only[h,if_true];cases dv<;>rfl
   ·simp only[aR h]
theorem aiS(b:de X)(e:List (Nat×DV X))(o:List (Nat×Option (bm X)))(dst:Option Tmp):(iC b e o).app dst (⟨.undef,[],[]⟩,some false)=iC b (zF dst .skip e) o:=by
 simp only[iC,St.app,St.mk.injEq];refine⟨?_,rfl,?_⟩
 ·funext t;cases dst with
  |none=>simp[AB,zF]
  |some d=>
   simp only[AB,zF,pb,lk,aA];by_cases h:d=t<;>simp[h,den]
 ·funext t;cases dst with
  |none=>simp[AB,zF]
  |some d=>
   simp only[AB,zF,lk,aA];by_cases h:d=t<;>simp[h]
theorem ads(b:de X)(e:List (Nat×DV X))(o:List (Nat×Option (bm X))):ll (iC b e o).env=λx=>den (Yz (pb e b.env) x):=by funext x;exact(Vm _ x).symm
theorem Cu{b:de X}{e:List (Nat×DV X)}{o:List (Nat×Option (bm X))}{x:Operand}(h:Kt e x=true):xh (iC b e o).ok x=[]:=by
 cases x with
 |tmp t=>
  simp only[Kt]at h;simp only[xh,iC];cases ht:lk e t with
  |none=>rfl
  |some d=>rw[ht]at h;cases d<;>first |rfl |cases h
 |_=>rfl
theorem aiT{b:de X}{e:List (Nat×DV X)}{o:List (Nat×Option (bm X))}{P:Program}{T:eb}{i:Nat}{op:Oper}{cw:i8}{get:Nat->Option aS}{ab:Out}(hok:Rs e b.env op.op=true)
 (h:jD P T i op cw (ll (iC b e o).env) get=some ab):∀p∈needs (iC b e o).env (iC b e o).ok op.op,p:=by
 obtain⟨dst,op,ty,ao,after,guard⟩:=op;unfold needs;split
 ·rename_i c x y heq;simp only at heq;subst heq;simp only[Rs,aL,Bool.or_eq_true]at hok;obtain⟨hc,hxy⟩:=hok;have hb:∃t,ll (iC b e o).env c= .t (.sc (.bool t)):=by
   have h0:(∃ n,cw= .ext n)\/(∃ ae fr q,cw= .xl ae fr q)\/pW T i ⟨dst,.pick c x y,ty,ao,after,guard⟩ cw (ll (iC b e o).env) get=some ab:=(by cases cw<;>first |exact .inl ⟨_,rfl⟩ |exact .inr (.inl ⟨_,_,_,rfl⟩) |exact .inr (.inr h));rcases h0 with ⟨n,rfl⟩ |⟨ae,fr,q,rfl⟩ |h0
   ·simp[jD,sM,IS,sK]at h
   ·simp[jD,GK,XX]at h
   ·simp only[pW]at h0;split at h0
    ·rename_i t ht;exact⟨t,ht⟩
    ·cases h0
  obtain⟨t,ht⟩:=hb;rw[ht];simp only[Cu hc,bQ];rcases hxy with ⟨hx,hy⟩ |hxy
  ·simp[Cu hx,Cu hy]
  ·split at hxy
   ·rename_i t' ht';have e1:ll (iC b e o).env c= .t (.sc (.bool t')):=(by rw[ads];simp only[ht'];rfl);rw[e1]at ht;injection ht with ht;injection ht with ht;injection ht with ht;subst ht;cases t' with
    |true=>
     simp only[aj]at hxy;simp[Cu hxy]
    |false=>
     simp only[ak]at hxy;simp[Cu hxy]
   ·cases hxy
 ·rename_i o' hne;intro p hp;have hall:∀x∈op.operands.toList,Kt e x=true:=by
   have:Rs e b.env op=op.operands.toList.all (Kt e):=(by cases op<;>first |rfl |exact(hne _ _ _ rfl).elim);rw[this]at hok;exact all_eq_true.1 hok
  simp only[List.mem_flatMap]at hp;obtain⟨x,hx,hp⟩:=hp;rw[Cu (hall x hx)]at hp;simp at hp
theorem akC{a b:List Prop}(h:∀p∈a,p)(h':jq b):jq (a++b):=qM _ (gM h (Mv b h'))
variable {Γ:FuncId->Option (bx X)} {fz:List Nat} {T:eb} {am:TypeId->Option (CT X.ι)} {al:Array Oper} {b:de X} {P:Program}
theorem aiU(hΓ:sC P Γ){i:Nat}{op:Oper}{e:List (Nat×DV X)}{o:List (Nat×Option (bm X))}{k:KK X A}{r:A}(hop:al[i]? =some op)(hw:want al op (iC b e o).env (iC b e o).ok=some true)(hok:Rs e b.env op.op=true)
 (h:DM Γ fz T am i op.op (Yz (pb e b.env)) (wy o b.obj) k=some r):
 ∃(a:mS)(dv:DV X)(upd:List (Nat×Option (bm X))),a.sym=false/\k dv upd a.rd a.wr=some r/\∀(c7:Nat->mS)(K:St->Prop),c7 i=a->K (iC b (zF op.dst (V7 dv) e) (upd++o))->xn P T al c7 i K (iC b e o):=by
 have⟨cw,rd,wr,dv,upd,ab,h1,h2,h3,h4,h5,h6⟩:=afV hΓ h;refine⟨⟨cw,rd,wr,false⟩,dv,upd,rfl,h6,λc7 K ha hK=>?_⟩;have h1':jD P T i op cw (ll (iC b e o).env) (dK rd (iC b e o).obj)=some ab:=by rw[ads];exact h1
 refine⟨op,(⟨ab.v,ab.upd,needs (iC b e o).env (iC b e o).ok op.op++ab.obs⟩,none),hop,?_,?_,?_⟩
 ·unfold opAt;simp only[hop,af,hw,ha,h1'];rw[aY];rw[all_eq_true];intro p hp;rw[h4]at hp;simp only[gW,mem_map]at hp;obtain⟨q,hq,rfl⟩:=hp;rcases h5 q hq with h |h
  ·simp[h,U8.2 (.inl rfl:ij (cJ i) (cJ i))]
  ·simp[h]
 ·exact akC (aiT hok h1') h2
 ·rw[h3,h4,akB];exact hK
theorem step_skip{i:Nat}{op:Oper}{e:List (Nat×DV X)}{o:List (Nat×Option (bm X))}(hop:al[i]? =some op)(hw:want al op (iC b e o).env (iC b e o).ok=some false)
 (c7:Nat->mS) (K:St->Prop) (ha:c7 i=⟨.none,[],[],false⟩) (hK:K (iC b (zF op.dst .skip e) o)):xn P T al c7 i K (iC b e o):=by
 refine⟨op,(⟨.undef,[],[]⟩,some false),hop,?_,trivial,?_⟩
 ·unfold opAt;simp only[hop,af,hw,ha]
 ·rw[aiS];exact hK
theorem afW{e:List (Nat×DV X)}{o:List (Nat×Option (bm X))}{t:Nat}{v:Bool}(h:pb e b.env t= .c .bool v):iC b ((t,.c .bool v)::e) o=iC b e o:=by
 simp only[iC,St.mk.injEq,true_and];refine⟨?_,?_⟩
 ·funext s;by_cases hs:t=s
  ·subst hs;rw[h];simp[pb,lk]
  ·simp[pb,lk,hs]
 ·funext s;by_cases hs:t=s
  ·subst hs;simp only[lk,if_true];unfold pb at h;cases ht:lk e t with
   |none=>rfl
   |some d=>rw[ht]at h;simp only at h;subst h;rfl
  ·simp[lk,hs]
def JQ(tr:List (Nat×mS)):D1:=tr.map λp=>(p.1,p.2.rd,p.2.wr)
def Rt(al:Array Oper)(t:Nat):Prop:=∃(j:Nat)(op:Oper),al[j]? =some op/\op.dst=some t
theorem adt{dst:Option Tmp}{dv:DV X}{e:List (Nat×DV X)}{p:Nat×DV X}(h:p∈zF dst dv e):p∈e\/dst=some p.1:=by
 cases dst with
 |none=>exact .inl h
 |some t=>
  simp only[zF,aN]at h;rcases h with rfl |h
  ·exact .inr rfl
  ·exact .inl h
theorem DX(hΓ:sC P Γ){k:List (Nat×DV X)->List (Nat×Option (bm X))->D1->Option A}{r:A}:∀(l:List Nat)(e:List (Nat×DV X))(o:List (Nat×Option (bm X)))(oe:D1),yJ Γ fz T am al b k l e o oe=some r->
 ∃(tr:List (Nat×mS))(e':List (Nat×DV X))(o':List (Nat×Option (bm X))),tr.map (·.1)=l/\k e' o' ((JQ tr).reverse++oe)=some r/\(∀ p∈e',p∈e\/Rt al p.1)/\
  ∀c7:Nat->mS,(∀ p∈tr,c7 p.1=p.2)->R9 P T al c7 (λ σ=>σ=iC b e' o') l (iC b e o)
 |[],e,o,oe,h=>⟨[],e,o,rfl,h,λ_ hp=> .inl hp,λ_ _=>rfl⟩
 |i::l,e,o,oe,h=>by
  simp only[yJ]at h;have⟨op,hop,h⟩:=ai.1 h
  have exec:∀e:List (Nat×DV X),want al op (iC b e o).env (iC b e o).ok=some true->
   (bif Rs e b.env op.op then DM Γ fz T am i op.op (Yz (pb e b.env)) (wy o b.obj) λdv upd rd wr=>yJ Γ fz T am al b k l (zF op.dst (V7 dv) e) (upd++o) ((i,rd,wr)::oe)else none)=some r->
   ∃(tr:List (Nat×mS)) (e':List (Nat×DV X)) (o':List (Nat×Option (bm X))),tr.map (·.1)=i::l/\k e' o' ((JQ tr).reverse++oe)=some r/\(∀ p∈e',p∈e\/Rt al p.1)/\
    ∀c7:Nat->mS,(∀ p∈tr,c7 p.1=p.2)->R9 P T al c7 (λ σ=>σ=iC b e' o') (i::l) (iC b e o):=by
   intro e hw h;have⟨hok,h⟩:=eu h;have⟨a,dv,upd,_,h1,h2⟩:=aiU hΓ hop hw hok h;obtain⟨tr,e',o',g1,g2,g4,g3⟩:=DX hΓ l _ _ _ h1;refine⟨(i,a)::tr,e',o',by simp[g1],?_,λp hp=>(g4 p hp).elim (λ hp=>(adt hp).elim .inl λhd=> .inr ⟨i,op,hop,hd⟩) .inr,λc7 ha=>?_⟩
   ·simpa[JQ]using g2
   ·exact h2 c7 _ (ha (i,a) (by simp)) (g3 c7 λp hp=>ha p (by simp[hp]))
  have skip:∀e:List (Nat×DV X),want al op (iC b e o).env (iC b e o).ok=some false->yJ Γ fz T am al b k l (zF op.dst .skip e) o ((i,[],[])::oe)=some r->
   ∃(tr:List (Nat×mS)) (e':List (Nat×DV X)) (o':List (Nat×Option (bm X))),tr.map (·.1)=i::l/\k e' o' ((JQ tr).reverse++oe)=some r/\(∀ p∈e',p∈e\/Rt al p.1)/\
    ∀c7:Nat->mS,(∀ p∈tr,c7 p.1=p.2)->R9 P T al c7 (λ σ=>σ=iC b e' o') (i::l) (iC b e o):=by
   intro e hw h;obtain⟨tr,e',o',g1,g2,g4,g3⟩:=DX hΓ l _ _ _ h;refine⟨(i,⟨.none,[],[],false⟩)::tr,e',o',by simp[g1],?_,λp hp=>(g4 p hp).elim (λ hp=>(adt hp).elim .inl λhd=> .inr ⟨i,op,hop,hd⟩) .inr,λc7 ha=>?_⟩
   ·simpa[JQ]using g2
   ·exact step_skip hop hw c7 _ (ha (i,_) (by simp)) (g3 c7 λp hp=>ha p (by simp[hp]))
  split at h
  ·rename_i hg;exact exec e (by simp[want,hg]) h
  ·rename_i j p hg;rw[ai]at h;obtain⟨t,ht,h⟩:=h;split at h
   ·rename_i v hv;have hw:∀e:List (Nat×DV X),pb e b.env t= .c .bool v->want al op (iC b e o).env (iC b e o).ok=some (v==p):=by
     intro e he;simp only[want,hg,ht];have h0:(iC b e o).ok t=none:=by
      simp only[iC];unfold pb at he;cases hq:lk e t with
      |none=>rfl
      |some d=>rw[hq]at he;simp only at he;subst he;rfl
     have h1:(iC b e o).env t= .t (.sc (.bool v)):=(by simp only[iC,he];rfl);rw[h0,h1]
    have hk:=afW (b:=b) (o:=o) hv;have hv':pb ((t,.c .bool v)::e) b.env t= .c .bool v:=(by simp[pb,lk]);have htd:Rt al t:=by
     have⟨oj,h1,h2⟩:=ai.1 ht;exact⟨j,oj,h1,h2⟩
    have wide:(∃ (tr:List (Nat×mS)) (e':List (Nat×DV X)) (o':List (Nat×Option (bm X))),tr.map (·.1)=i::l/\k e' o' ((JQ tr).reverse++oe)=some r/\(∀ p∈e',p∈((t,.c .bool v)::e:List (Nat×DV X))\/Rt al p.1)/\
     ∀c7:Nat->mS,(∀ p∈tr,c7 p.1=p.2)->R9 P T al c7 (λ σ=>σ=iC b e' o') (i::l) (iC b ((t,.c .bool v)::e) o))->
     ∃(tr:List (Nat×mS)) (e':List (Nat×DV X)) (o':List (Nat×Option (bm X))),tr.map (·.1)=i::l/\k e' o' ((JQ tr).reverse++oe)=some r/\(∀ p∈e',p∈e\/Rt al p.1)/\
     ∀c7:Nat->mS,(∀ p∈tr,c7 p.1=p.2)->R9 P T al c7 (λ σ=>σ=iC b e' o') (i::l) (iC b e o):=by
     rintro⟨tr,e',o',g1,g2,g4,g3⟩;refine⟨tr,e',o',g1,g2,λq hq=>?_,hk ▸ g3⟩;rcases g4 q hq with h |h
     ·rcases aN.1 h with rfl |h
      ·exact .inr htd
      ·exact .inl h
     ·exact .inr h
    apply wide;cases v with
    |true=>
     simp only[aj]at h;cases p with
     |true=>exact exec _ (hw _ hv') h
     |false=>exact skip _ (hw _ hv') h
    |false=>
     simp only[ak]at h;cases p with
     |true=>exact skip _ (hw _ hv') h
     |false=>exact exec _ (hw _ hv') h
   ·rename_i hv;have⟨hsome,h⟩:=eu h;refine skip e ?_ h;simp only[want,hg,ht];have h1:(iC b e o).env t= .undef:=(by simp only[iC,hv];rfl);cases hq:lk e t with
    |some d=>
     have h0:(iC b e o).ok t=some false:=by
      unfold pb at hv;rw[hq]at hv;simp only at hv;subst hv;simp only[iC,hq]
     rw[h0,h1]
    |none=>rw[hq]at hsome;cases hsome
   ·cases h
end
section
variable {X:SX} {A:Type}
def fN(nx k:Nat):Nat:=if k<1000000 then k else nx+(k -1000000)
def gN(nx j:Nat):Nat:=if j<nx then j else 1000000+(j -nx)
def G2(nx sz k:Nat):Bool:=decide (k<nx) || (decide (1000000<=k)&&decide (k<1000000+sz))
def okE(nx sz:Nat)(e:List (Nat×DV X)):Bool:=e.all λp=>(bk p.2).all (G2 nx sz)
def okO(nx sz:Nat)(o:List (Nat×Option (bm X))):Bool:=o.all λp=>G2 nx sz p.1&&match p.2 with |some x=>(d5 x).all (G2 nx sz) |none=>true
def Mo(oe:D1):Nat->mS:=λi=>match lk oe i with |some p=>⟨.none,p.1,p.2,false⟩ |none=>⟨.none,[],[],false⟩
def Fk(tr:List (Nat×mS)):Nat->mS:=λi=>match lk tr i with |some a=>a |none=>⟨.none,[],[],false⟩
def I0:DV X->DV X
 | .skip=> .undef
 |x=>x
theorem akE(x:DV X):den (I0 x)=den x:=by cases x<;>rfl
theorem ZX(x:DV X):bk (I0 x)=bk x:=by cases x<;>rfl
def fin(s:de X)(e:List (Nat×DV X))(o:List (Nat×Option (bm X)))(sz:Nat):de X:=
 ⟨e.map (λ p=>(p.1,I0 (nr (fN s.nx) p.2)))++s.env,o.map (λ p=>(fN s.nx p.1,p.2.map (oR (fN s.nx))))++s.obj,s.nx+sz,o.map (λ p=>fN s.nx p.1)++s.log⟩
def akF(N:Nat)(al:Array Oper)(d:Bool)(nx:Nat)(e:List (Nat×DV X))(o:List (Nat×Option (bm X)))(oe:D1):Bool:=
 Pc N al&&(!d || NO al (Mo oe))&&okE nx (64*al.size) e&&okO nx (64*al.size) o&&decide (nx+64*al.size<=1000000)
def X2(Γ:FuncId->Option (bx X))(fz:List Nat)(T:eb)(am:TypeId->Option (CT X.ι))(N:Nat)(al:Array Oper)(d:Bool)(s:de X)(k:de X->Option A):Option A:=
 yJ Γ fz T am al s (λ e o oe=>bif akF N al d s.nx e o oe then k (fin s e o (64*al.size))else none) (List.range al.size) [] [] []
theorem adu{al:Array Oper}{c7 t8:Nat->mS}(h:∀i,(c7 i).rd=(t8 i).rd/\(c7 i).wr=(t8 i).wr):NO al c7=NO al t8:=by
 have h1:xw c7=xw t8:=by
  funext i j;simp only[xw,(h i).1,(h i).2,(h j).1,(h j).2]
 have h2:∀md,Pj md al c7=Pj md al t8:=by
  intro md;funext listed i;simp only[Pj,h1]
 have h3:∀(md:Region.Mode)(n k:Nat)(listed:Array Bool),lexFrom' md al c7 n k listed=lexFrom' md al t8 n k listed:=by
  intro md n
  induction n with
  |zero=>intro k listed;rfl
  |succ n ih=>intro k listed;simp only[lexFrom',h2,ih]
 exact h3 _ _ _ _
theorem Cv{α:Type}:∀(a b:List (Nat×α))(k:Nat),lk (a++b) k=match lk a k with |some x=>some x |none=>lk b k
 |[],_,_=>rfl
 |(j,x)::a,b,k=>by
  simp only[cons_append,lk];by_cases h:j=k
  ·simp[h]
  ·simp only[aR h,Cv a b k]
theorem ahN{α:Type}:∀{l:List (Nat×α)}{k:Nat},lk l k=none->∀x,(k,x)∉l
 |(j,y)::r,k,h,x=>by
  simp only[lk]at h;split at h
  ·cases h
  ·rename_i hn;simp only[aN,Prod.mk.injEq,not_or];exact⟨λ e=>hn e.1.symm,ahN h x⟩
 |[],_,_,_=>by simp
theorem aoi{tr:List (Nat×mS)}(hn:(tr.map (·.1)).Nodup)(i:Nat):(Mo (JQ tr).reverse i).rd=(Fk tr i).rd/\(Mo (JQ tr).reverse i).wr=(Fk tr i).wr:=by
 have hn':((JQ tr).reverse.map (·.1)).Nodup:=by
  rw[List.map_reverse];have h1:((JQ tr).map (·.1)).Nodup:=by simpa[JQ,Function.comp_def]using hn
  exact List.pairwise_reverse.2 (h1.imp λh=>Ne.symm h)
 unfold Mo Fk;cases h:lk tr i with
 |none=>
  cases h':lk (JQ tr).reverse i with
  |none=>exact⟨rfl,rfl⟩
  |some p=>
   have:=q9 h';simp only[JQ,List.mem_reverse,mem_map]at this;obtain⟨q,hq,he⟩:=this;injection he with e1 e2;subst e1;exact(ahN h q.2 hq).elim
 |some a=>
  have h1:=q9 h;have h2:(i,a.rd,a.wr)∈(JQ tr).reverse:=by
   simp only[JQ,List.mem_reverse,mem_map];exact⟨(i,a),h1,rfl⟩
  rw[uS hn' h2];exact⟨rfl,rfl⟩
theorem akG{tr:List (Nat×mS)}(hn:(tr.map (·.1)).Nodup):∀p∈tr,Fk tr p.1=p.2:=by
 rintro⟨i,a⟩ hp;unfold Fk;rw[uS hn hp]
theorem V8{nx sz k:Nat}(h:G2 nx sz k=true):k<nx\/(1000000<=k/\k<1000000+sz):=by simpa[G2]using h
theorem Tu{nx sz k:Nat}(hle:nx+sz<=1000000)(h:k<nx\/(1000000<=k/\k<1000000+sz)):gN nx (fN nx k)=k:=by
 unfold gN fN;rcases h with h |⟨h1,h2⟩
 ·rw[aY (show k<1000000 by omega),aY h]
 ·rw[aR (show ¬k<1000000 by omega),aR (by omega)];omega
theorem ZY{nx sz k:Nat}(hle:nx+sz<=1000000)(h:k<nx\/(1000000<=k/\k<1000000+sz)):fN nx k<nx+sz:=by
 unfold fN;rcases h with h |⟨h1,h2⟩
 ·rw[aY (show k<1000000 by omega)];omega
 ·rw[aR (show ¬k<1000000 by omega)];omega
theorem Nd{nx k:Nat}(hle:nx<=1000000)(h:k<nx):fN nx k=k:=aY (by omega)
mutual
theorem V9{f:Nat->Nat}:∀x:DV X,(∀ k∈bk x,f k=k)->nr f x=x
 | .own k _ _,h=>by simp only[nr,h k (by simp[bk])]
 | .ptr k _ _,h=>by simp only[nr,h k (by simp[bk])]
 | .qr k _ _,h=>by simp only[nr,h k (by simp[bk])]
 | .mp k,h=>by simp only[nr,h k (by simp[bk])]
 | .oz k _,h=>by simp only[nr,h k (by simp[bk])]
 | .tf k _ _ _ _,h=>by simp only[nr,h k (by simp[bk])]
 | .agg cs,h=>by simp only[nr,zY cs (by simpa[bk]using h)]
 | .eC cs,h=>by simp only[nr,zY cs (by simpa[bk]using h)]
 | .fn F first caps,h=>by simp only[nr,zY first (λ k hk=>h k (by simp[bk,hk])),zY caps (λ k hk=>h k (by simp[bk,hk]))]
 | .c _ _,_=>rfl
 | .rp _ _ _,_=>rfl
 | .wn _ _ _ _ _,_=>rfl
 | .d8 _ _ _,_=>rfl
 | .raw _,_=>rfl
 | .nil,_=>rfl
 | .ub,_=>rfl
 | .skip,_=>rfl
 | .undef,_=>rfl
theorem zY{f:Nat->Nat}:∀l:List (DV X),(∀ k∈aP l,f k=k)->JP f l=l
 |[],_=>rfl
 |x::xs,h=>by simp only[JP,V9 x (λ k hk=>h k (by simp[aP,hk])),zY xs (λ k hk=>h k (by simp[aP,hk]))]
end
mutual
theorem Wh(f:Nat->Nat):∀x:DV X,bk (nr f x)=(bk x).map f
 | .own _ _ _=>rfl
 | .ptr _ _ _=>rfl
 | .qr _ _ _=>rfl
 | .mp _=>rfl
 | .oz _ _=>rfl
 | .tf _ _ _ _ _=>rfl
 | .agg cs=>by simp only[nr,bk,yh f cs]
 | .eC cs=>by simp only[nr,bk,yh f cs]
 | .fn F first caps=>by simp only[nr,bk,yh f first,yh f caps,map_append]
 | .c _ _=>rfl
 | .rp _ _ _=>rfl
 | .wn _ _ _ _ _=>rfl
 | .d8 _ _ _=>rfl
 | .raw _=>rfl
 | .nil=>rfl
 | .ub=>rfl
 | .skip=>rfl
 | .undef=>rfl
theorem yh(f:Nat->Nat):∀l:List (DV X),aP (JP f l)=(aP l).map f
 |[]=>rfl
 |x::xs=>by simp only[JP,aP,Wh f x,yh f xs,map_append]
end
theorem adv(f:Nat->Nat)(o:bm X):d5 (oR f o)=(d5 o).map f:=by
 cases o with
 |cells sz rows=>simp only[oR,d5,map_map,List.map_flatten];congr 1;exact map_congr_left λr _=>yh f r
 |ea c l=>rfl
 |map kc vc l=>rfl
theorem akH{α β:Type}(f:α->β):∀(l:List (Nat×α))(k:Nat),lk (l.map λp=>(p.1,f p.2)) k=(lk l k).map f
 |[],_=>rfl
 |(j,x)::r,k=>by
  simp only[aF,lk];by_cases h:j=k
  ·simp[h]
  ·simp only[aR h,akH f r k]
theorem ahP{α β:Type}(f:α->β)(g:Nat->Nat):∀(l:List (Nat×α))(j:Nat),(∀ p∈l,∀q∈l,g p.1=g q.1->p.1=q.1)->
 (∀ y,lk (l.map λp=>(g p.1,f p.2)) j=some y->∃k x,lk l k=some x/\g k=j/\y=f x)/\(lk (l.map λp=>(g p.1,f p.2)) j=none->∀p∈l,g p.1≠j)
 |[],_,_=>⟨λ _ h=>by simp[lk]at h,λ_=>by simp⟩
 |(k0,x0)::r,j,hi=>by
  obtain⟨i1,i2⟩:=ahP f g r j (λ p hp q hq=>hi p (by simp[hp]) q (by simp[hq]));simp only[aF,lk];by_cases h:g k0=j
  ·rw[aY h];exact⟨λ y hy=>by injection hy with hy;exact⟨k0,x0,by simp,h,hy.symm⟩,λhn=>by cases hn⟩
  ·rw[aR h];refine⟨λ y hy=>?_,λhn p hp=>?_⟩
   ·have⟨k,x,h1,h2,h3⟩:=i1 y hy;refine⟨k,x,?_,h2,h3⟩;have hne:k0≠k:=λe=>h (by rw[e];exact h2);rw[aR hne];exact h1
   ·rcases aN.1 hp with rfl |hp
    ·exact h
    ·exact i2 hn p hp
structure Ext(ds:Nat->Prop)(s s':de X):Prop where
 env:∀t,¬ds t->eM s'.env t=eM s.env t\/eM s'.env t= .undef
 obj:∃d,s'.log=d++s.log/\∀k,k<s.nx->k∉d->gz s'.obj k=gz s.obj k\/gz s'.obj k=none
 nx:s.nx<=s'.nx
variable {Γ:FuncId->Option (bx X)} {fz:List Nat} {T:eb} {am:TypeId->Option (CT X.ι)} {P:Program} {N:Nat}
theorem MU(s:de X)(e:List (Nat×DV X))(o:List (Nat×Option (bm X)))(sz t:Nat):eM (fin s e o sz).env t=match lk e t with |some d=>I0 (nr (fN s.nx) d) |none=>eM s.env t:=by
 simp only[fin,eM,Cv,akH (λ d=>I0 (nr (fN s.nx) d))];cases lk e t<;>rfl
theorem abm(hT:eZ P T)(hm:P.follows .mixedOrders=true)(hΓ:sC P Γ){id:Nat}{al:Array Oper}{d:Bool}{s:de X}{k:de X->Option A}{r:A}(hl:Low s)(h:X2 Γ fz T am N al d s k=some r):
 ∃s':de X,k s'=some r/\Low s'/\Ext (Rt al) s s'/\Ev P N (.region id al d) (λ e σ=>e= .normal/\σ=s'.st) s.st:=by
 unfold X2 at h;obtain⟨tr,e,o,h1,h2,h3,h4⟩:=DX hΓ _ _ _ _ h;have⟨h5,h6⟩:=eu h2;simp only[akF,aL,append_nil]at h5;obtain⟨⟨⟨⟨hd,hlex⟩,hE⟩,hO⟩,hnx⟩:=h5;have hle:s.nx+64*al.size<=1000000:=of_decide_eq_true hnx;have Hx:(tr.map (·.1)).Nodup:=by rw[h1];exact List.nodup_range
 have S6:∀t x,lk e t=some x->∀j∈bk x,j<s.nx\/(1000000<=j/\j<1000000+64*al.size):=by
  intro t x hx j hj;have:=all_eq_true.1 hE _ (q9 hx);exact V8 (all_eq_true.1 this j hj)
 have HJ:∀p∈o,(p.1<s.nx\/(1000000<=p.1/\p.1<1000000+64*al.size))/\∀x,p.2=some x->∀j∈d5 x,j<s.nx\/(1000000<=j/\j<1000000+64*al.size):=by
  intro p hp;have:=all_eq_true.1 hO _ hp;simp only[aL]at this;refine⟨V8 this.1,λx hx j hj=>?_⟩;have h2:=this.2;rw[hx]at h2;exact V8 (all_eq_true.1 h2 j hj)
 have hinj:∀p∈o,∀q∈o,fN s.nx p.1=fN s.nx q.1->p.1=q.1:=by
  intro p hp q hq he;have:=congrArg (gN s.nx) he
  rwa [Tu hle (HJ p hp).1,Tu hle (HJ q hq).1]at this
 have xe:∀j,(∃ q x,lk o q=some x/\fN s.nx q=j/\gz (fin s e o (64*al.size)).obj j=x.map (oR (fN s.nx)))\/(gz (fin s e o (64*al.size)).obj j=gz s.obj j/\∀p∈o,fN s.nx p.1≠j):=by
  intro j;obtain⟨i1,i2⟩:=ahP (λ x:Option (bm X)=>x.map (oR (fN s.nx))) (fN s.nx) o j hinj;simp only[fin,gz,Cv];cases hj:lk (o.map λp=>(fN s.nx p.1,p.2.map (oR (fN s.nx)))) j with
  |none=>exact .inr ⟨rfl,i2 hj⟩
  |some y=>
   have⟨q,x,g1,g2,g3⟩:=i1 y hj;exact .inl ⟨q,x,g1,g2,by rw[g3];rfl⟩
 refine⟨fin s e o (64*al.size),h6,?_,?_,?_⟩
 ·constructor
  ·exact hle
  ·have:=hl.ge;show 1000<=s.nx+64*al.size;omega
  ·intro t j hj;rw[MU]at hj;cases ht:lk e t with
   |none=>rw[ht]at hj;have:=hl.env t j hj;show j<s.nx+64*al.size;omega
   |some x=>
    rw[ht,ZX,Wh]at hj;obtain⟨q,hq,rfl⟩:=mem_map.1 hj;exact ZY hle (S6 t x ht q hq)
  ·intro j x hx;rcases xe j with ⟨q,y,g1,rfl,g3⟩ |⟨g1,_⟩
   ·rw[g3]at hx;rw[dN]at hx;obtain⟨z,rfl,rfl⟩:=hx;obtain⟨k1,k2⟩:=HJ _ (q9 g1);refine⟨ZY hle k1,λi hi=>?_⟩;rw[adv]at hi;obtain⟨i',hi',rfl⟩:=mem_map.1 hi;exact ZY hle (k2 z rfl i' hi')
   ·rw[g1]at hx;have⟨k1,k2⟩:=hl.obj j x hx;refine⟨show j<s.nx+64*al.size by omega,λi hi=>?_⟩;have:=k2 i hi;show i<s.nx+64*al.size;omega
 ·refine⟨λ t ht=> .inl ?_,⟨o.map (λ p=>fN s.nx p.1),rfl,λj hj hn=>?_⟩,by show s.nx<=s.nx+64*al.size;omega⟩
  ·rw[MU];cases hx:lk e t with
   |none=>rfl
   |some x=>
    rcases h3 _ (q9 hx)with h |h
    ·simp at h
    ·exact(ht h).elim
  ·rcases xe j with ⟨q,y,g1,g2,g3⟩ |⟨g1,_⟩
   ·exact(hn (mem_map.2 ⟨(q,y),q9 g1,g2⟩)).elim
   ·exact .inl g1
 ·have hst:iC s [] []=s.st:=rfl;have hex:=h4 (Fk tr) (akG Hx);rw[hst]at hex;intro w0 O0 β I a w hr ho;have done:∀(e':Exit)(a':Act)(w':World),(∃ β' I' σ1,Rel P w0 O0 N β' I' σ1 a' w'/\e'= .normal/\σ1=iC s e o)->∃ β' I' σ1,Rel P w0 O0 N β' I' σ1 a' w'/\tB σ1/\e'= .normal/\σ1=(fin s e o (64*al.size)).st:=by
   rintro e' a' w' ⟨β',I',σ1,g1,rfl,rfl⟩;refine⟨_,I',(fin s e o (64*al.size)).st,Rel.re (f:=fN s.nx) (g:=gN s.nx) (D:=λk=>k<s.nx\/(1000000<=k/\k<1000000+64*al.size)) (λ k hk=>Tu hle hk) (λ j hj=>by have:=hl.ge;unfold gN;rw[aY (by omega)]) g1 (λ t=>?_) (λ _=>rfl) (λ t=> .inr ?_) (λ j o' hj=>?_),?_,rfl,rfl⟩
   ·show(match lk e t with |some .skip=>some false |_=>none)=none\/den (eM (fin s e o (64*al.size)).env t)= .undef;rw[MU];cases ht:lk e t with
    |none=>exact .inl rfl
    |some d=>cases d<;>first |exact .inl rfl |exact .inr rfl
   ·show(∀ k∈refs (den (pb e s.env t)),_)/\lh (fX (fN s.nx) (den (pb e s.env t))) (den (eM (fin s e o (64*al.size)).env t));rw[MU,iP,<- zW];unfold pb;cases ht:lk e t with
    |none=>
     refine⟨λ q hq=> .inl (hl.env t q hq),?_⟩;rw[V9 _ (λ q hq=>Nd (by omega) (hl.env t q hq))];exact lh.refl _
    |some x=>exact⟨S6 t x ht,by simp only[akE];exact lh.refl _⟩
   ·simp only[de.st,dN]at hj;obtain⟨x,hx,rfl⟩:=hj;rcases xe j with ⟨q,y,i1,rfl,i3⟩ |⟨i1,i2⟩
    ·rw[i3,dN]at hx;obtain⟨z,rfl,rfl⟩:=hx;obtain⟨k1,k2⟩:=HJ _ (q9 i1);obtain⟨r1,r2⟩:=Jo (D:=λk=>k<s.nx\/(1000000<=k/\k<1000000+64*al.size)) (fN s.nx) z (λ i hi=>k2 z rfl i hi);refine⟨q,bG z,?_,k1,rfl,r1,r2⟩;simp only[iC,wy,i1,Option.map_some]
    ·rw[i1]at hx;have⟨k1,k2⟩:=hl.obj j x hx;have hid:oR (fN s.nx) x=x:=by
      cases x with
      |ea c l=>rfl
      |map kc vc l=>rfl
      |cells sz rows=>
       simp only[oR];congr 1;have:∀q∈rows,JP (fN s.nx) q=q:=λq hq=>zY q λi hi=>Nd (by omega) (k2 i (by
        simp only[d5,List.mem_flatten,mem_map];exact⟨_,⟨q,hq,rfl⟩,hi⟩))
       rw[map_congr_left this];simp
     obtain⟨r1,r2⟩:=Jo (D:=λk=>k<s.nx\/(1000000<=k/\k<1000000+64*al.size)) (fN s.nx) x (λ i hi=> .inl (k2 i hi));rw[hid]at r1 r2;refine⟨j,bG x,?_,.inl k1,Nd (by omega) k1,r1,r2⟩;simp only[iC,wy];cases hlo:lk o j with
     |none=>simp[hx]
     |some y=>exact(i2 _ (q9 hlo) (Nd (by omega) k1)).elim
   ·have hL:Low (fin s e o (64*al.size)):=by
     constructor
     ·exact hle
     ·have:=hl.ge;show 1000<=s.nx+64*al.size;omega
     ·intro t j hj;rw[MU]at hj;cases ht:lk e t with
      |none=>rw[ht]at hj;have:=hl.env t j hj;show j<s.nx+64*al.size;omega
      |some x=>
       rw[ht,ZX,Wh]at hj;obtain⟨q,hq,rfl⟩:=mem_map.1 hj;exact ZY hle (S6 t x ht q hq)
     ·intro j x hx;rcases xe j with ⟨q,y,g1,rfl,g3⟩ |⟨g1,_⟩
      ·rw[g3]at hx;rw[dN]at hx;obtain⟨z,rfl,rfl⟩:=hx;obtain⟨k1,k2⟩:=HJ _ (q9 g1);refine⟨ZY hle k1,λi hi=>?_⟩;rw[adv]at hi;obtain⟨i',hi',rfl⟩:=mem_map.1 hi;exact ZY hle (k2 z rfl i' hi')
      ·rw[g1]at hx;have⟨k1,k2⟩:=hl.obj j x hx;refine⟨show j<s.nx+64*al.size by omega,λi hi=>?_⟩;have:=k2 i hi;show i<s.nx+64*al.size;omega
    exact hL.old
  cases d with
  |false=>exact wp_mono (aix hT hd ho hex hr) done
  |true=>
   refine wp_mono (Vh hT hm hd ?_ ho hex hr) done;rw[<- adu (aoi Hx)];simpa using hlex
end
end Go.Gb
namespace Go.Gb
open Go.RowKit
structure Sh(ι:Type) where
 slots:List (Nat×Pt ι)
 cE:List (Nat×OP ι)
 keep:List Nat
 da:List Nat
 nx:Nat
 AK:List (Nat×CT ι)
def Sh.vars{ι:Type}(s:Sh ι):List (CT ι):=gE s.slots++cH s.cE
section
variable {X:SX}
def nz(z:Bool)(k:Nat):DV X:=bif z then .oz k 0 else .own k 0 0
def zE(z:Bool)(s:de X)(t:Nat)(c:CT X.ι):de X:=
 match eM s.env t with
 | .nil=>if s.nx<1000000 then⟨(t,nz z s.nx)::s.env,(s.nx,some (.ea c []))::s.obj,s.nx+1,s.nx::s.log⟩else s
 |_=>s
def Fi(s:de X)(q j:Nat)(c:CT X.ι):de X:=
 match gz s.obj q with
 |some (.cells sz [row])=>match row[j]? with
  |some .nil=>if s.nx<1000000 then⟨s.env,(q,some (.cells sz [row.set j (.own s.nx 0 0)]))::(s.nx,some (.ea c []))::s.obj,s.nx+1,q::s.nx::s.log⟩else s
  |_=>s
 |_=>s
def PK:List (Nat×CT X.ι)->de X->de X
 |[],s=>s
 |(t,c)::r,s=>PK r (bif Nat.ble 1000000 t then bif Nat.ble 1099511627776 t then zE true s (t -1099511627776) c else Fi s ((t -1000000)/4096) ((t -1000000)%4096) c else zE false s t c)
def isU:DV X->Bool
 | .undef | .skip=>true
 |_=>false
def encS(sh:Sh X.ι)(s0:de X)(v:VT (X:=X) sh.vars):de X:=
 let L:=vW sh.vars v
 let n:=(gE sh.slots).length
 let ol:=λk=>(lk (lens sh.cE (L.drop n)) k).getD 0
 ⟨KO ol sh.slots (L.take n)++sh.keep.map (λ t=>(t,eM s0.env t)),dn ol sh.cE (L.drop n)++sh.da.map (λ k=>(k,gz s0.obj k)),sh.nx,
  (List.range s0.nx).filter (λ k=>!sh.da.contains k)++s0.log⟩
def okS(sh:Sh X.ι)(ds:List Nat)(s0 s':de X)(m:MA X):Bool:=
 decide (m.nm.map (·.1)++sh.da).Nodup&&decide (m.nm.map (·.2)++sh.da).Nodup&&decide (sh.cE.map (·.1)).Nodup&&m.nm.all (λ q=>(sh.cE.map (·.1)).contains q.2&&decide (q.2<sh.nx)&&(decide (q.1=q.2) || decide (1000<=q.2)))&&
  sh.slots.all (λ p=>ds.contains p.1)&&sh.keep.all (λ t=>!ds.contains t&&!isU (eM s'.env t)&&(bk (eM s0.env t)).all λj=>sh.da.contains j || m.nm.contains (j,j))&&
  sh.da.all (λ k=>decide (k<s0.nx)&&!(s'.log.take (s'.log.length -s0.log.length)).contains k&&(gz s'.obj k).isSome&&match gz s0.obj k with |some o=>(d5 o).all λj=>sh.da.contains j || m.nm.contains (j,j) |none=>false)&&
  decide (s0.nx<=sh.nx)&&decide (sh.nx<=1000000)
def On{A:Type}(sh:Sh X.ι)(ds:List Nat)(s0 s':de X)(k:VT (X:=X) sh.vars->Option A):Option A:=
 (G7 (gz s'.obj) (eM s'.env) sh.slots ⟨[],[],[]⟩).bind λm=>(Cq (gz s'.obj) sh.cE m).bind λm=>bif okS sh ds s0 s' m then(YB sh.vars m.ez).bind λv=>Vp m.iS (k v)else none
def qb{A:Type}(sh:Sh X.ι)(ds:List Nat)(s0 s':de X)(k:VT (X:=X) sh.vars->Option A):Option A:=
 bif sh.AK.all (λ p=>bif Nat.ble 1000000 p.1 then !Nat.ble 1099511627776 p.1 || ds.contains (p.1 -1099511627776)else ds.contains p.1)then On sh ds s0 (PK sh.AK s') k else none
end
section
variable {X:SX}
theorem Z0{d:DV X}{c:CT X.ι}{x:CT.T X.toSE c}(h:JO d c=some x):bk d=[]:=by
 cases d
 case c=>rfl
 case nil=>rfl
 all_goals cases c<;>cases h
theorem Ru:∀{ds:List (DV X)}{l:List (CT X.ι)}{h:HL X.toSE l},yD ds l=some h->aP ds=[]
 |[],[],_,_=>rfl
 |d::ds,c::l,h,hr=>by
  simp only[yD]at hr;have⟨x,h1,hr⟩:=ai.1 hr;have⟨g,h2,hr⟩:=ai.1 hr;simp only[aP,Z0 h1,Ru h2,append_nil]
 |[],_::_,_,hr=>by simp[yD]at hr
 |_::_,[],_,hr=>by simp[yD]at hr
theorem amI{d:DV X}{c:CT X.ι}{x:CT.T X.toSE c}(h:dat d c=some x):lh (den d) (den (.c c x:DV X))/\bk d=[]:=by
 cases c
 case st i=>
  replace h:DB d i=some x:=h
  cases d
  case agg cs=>
   simp only[DB]at h;have⟨g,h1,h⟩:=ai.1 h;cases h;refine⟨λ P β w I v hv=>?_,by simp only[bk,Ru h1]⟩;have h2:=(yE h1 (X.flat i)).1;simp only[den,VR]at hv;obtain⟨vs,rfl,hv⟩:=hv;show VR P β w I (.agg ((X.row i (X.make i g)).map AV.t)) _;have h3:(X.row i (X.make i g)).map AV.t=(bL cs).map Gb.wk:=(by rw[h2];exact congrArg _ (X.gd i g));rw[h3];simp only[VR];exact⟨vs,rfl,aE.wk _ _ hv⟩
  case c a y=>
   replace h:jy a (.st i) y=some x:=h
   rw[(nZ h).1];exact⟨lh.refl _,rfl⟩
  all_goals cases h
 all_goals
  have h1:=vU h;refine⟨λ P β w I v hv=>?_,Z0 h⟩;simp only[den];rw[<- h1];exact hv.wk
def gi(m m':MA X):Prop:=(∀ q∈m.nm,q∈m'.nm)/\(∀ c∈m.iS,c∈m'.iS)
theorem gi.refl(m:MA X):gi m m:=⟨λ _ h=>h,λ_ h=>h⟩
theorem gi.trans{a b c:MA X}(h:gi a b)(h':gi b c):gi a c:=⟨λ q hq=>h'.1 q (h.1 q hq),λq hq=>h'.2 q (h.2 q hq)⟩
theorem fB(m:MA X)(k' k:Nat):(addN m k' k).ez=m.ez/\(addN m k' k).iS=m.iS:=by unfold addN;split<;>exact⟨rfl,rfl⟩
theorem nP(m:MA X)(k' k:Nat):(k',k)∈(addN m k' k).nm:=by
 unfold addN;split
 ·rename_i h;simpa using h
 ·simp
theorem pu(m:MA X)(k' k:Nat):gi m (addN m k' k):=by
 unfold addN;split
 ·exact gi.refl m
 ·exact⟨λ q hq=>by simp[hq],λ_ h=>h⟩
variable {get:Nat->Option (bm X)}
mutual
theorem ahQ:∀(p:Pt X.ι)(d:DV X)(m m':MA X),mP get p d m=some m'->gi m m'/\∃an,m'.ez=m.ez++an/\an.length=p.vars.length
 | .v c,d,m,m',h=>by
  simp only[mP]at h;rw[ai]at h;obtain⟨x,h1,h⟩:=h;cases h;exact⟨⟨λ _ h=>h,λ_ h=>h⟩,[⟨c,x⟩],rfl,rfl⟩
 | .o k,d,m,m',h=>by
  simp only[mP]at h;split at h
  ·rename_i k' len;have⟨o,h1,h⟩:=ai.1 h;split at h
   ·cases h;refine⟨gi.trans (b:=⟨m.nm,m.ez,m.iS++_⟩) ⟨λ _ h=>h,λ_ h=>by simp[h]⟩ (pu _ _ _),[],by rw[(fB _ _ _).1];simp,rfl⟩
   ·cases h
  ·cases h
 | .oz k,d,m,m',h=>by
  simp only[mP]at h;split at h
  ·have⟨o,h1,h⟩:=ai.1 h;split at h
   ·cases h;refine⟨gi.trans (b:=⟨m.nm,m.ez,m.iS++_⟩) ⟨λ _ h=>h,λ_ h=>by simp[h]⟩ (pu _ _ _),[],by rw[(fB _ _ _).1];simp,rfl⟩
   ·cases h
  ·have⟨o,h1,h⟩:=ai.1 h;split at h
   ·cases h;refine⟨gi.trans (b:=⟨m.nm,m.ez,m.iS++_⟩) ⟨λ _ h=>h,λ_ h=>by simp[h]⟩ (pu _ _ _),[],by rw[(fB _ _ _).1];simp,rfl⟩
   ·cases h
  ·cases h
 | .p k,d,m,m',h=>by
  simp only[mP]at h;split at h
  ·cases h;exact⟨pu _ _ _,[],by rw[(fB _ _ _).1];simp,rfl⟩
  ·cases h
 | .mp k,d,m,m',h=>by
  simp only[mP]at h;split at h
  ·cases h;exact⟨pu _ _ _,[],by rw[(fB _ _ _).1];simp,rfl⟩
  ·cases h
 | .nil,d,m,m',h=>by
  simp only[mP]at h;split at h
  ·cases h;exact⟨gi.refl _,[],by simp,rfl⟩
  ·cases h
 | .f F fs cs,d,m,m',h=>by
  simp only[mP]at h;split at h
  ·split at h
   ·rw[ai]at h;obtain⟨m1,h1,h⟩:=h;obtain⟨a1,n1,b1,c1⟩:=yK fs _ m m1 h1;obtain⟨a2,n2,b2,c2⟩:=yK cs _ m1 m' h;exact⟨a1.trans a2,n1++n2,by rw[b2,b1,aK],by simp[Pt.vars,c1,c2]⟩
   ·cases h
  ·cases h
 | .od k,d,m,m',h=>by
  simp only[mP]at h;split at h
  ·rename_i k' aa len;have⟨o,h1,h⟩:=ai.1 h;split at h
   ·cases h;refine⟨gi.trans (b:=⟨m.nm,m.ez++[⟨.int .i64,(aa:Int)⟩],m.iS++_⟩) ⟨λ _ h=>h,λ_ h=>by simp[h]⟩ (pu _ _ _),[⟨.int .i64,(aa:Int)⟩],by rw[(fB _ _ _).1],rfl⟩
   ·cases h
  ·cases h
 | .a ps,d,m,m',h=>by
  simp only[mP]at h;split at h
  ·exact yK ps _ m m' h
  ·cases h
theorem yK:∀(ps:List (Pt X.ι))(ds:List (DV X))(m m':MA X),sX get ps ds m=some m'->gi m m'/\∃an,m'.ez=m.ez++an/\an.length=(cP ps).length
 |[],[],m,m',h=>by
  simp only[sX,aA]at h;subst h;exact⟨gi.refl _,[],by simp,rfl⟩
 |p::ps,d::ds,m,m',h=>by
  simp only[sX]at h;have⟨m1,h1,h⟩:=ai.1 h;have⟨a1,n1,b1,c1⟩:=ahQ p d m m1 h1;have⟨a2,n2,b2,c2⟩:=yK ps ds m1 m' h;exact⟨a1.trans a2,n1++n2,by rw[b2,b1,aK],by simp[cP,c1,c2]⟩
 |[],_::_,m,m',h=>by simp[sX]at h
 |_::_,[],m,m',h=>by simp[sX]at h
end
theorem yL:∀(rs:List (List (Pt X.ι)))(qs:List (List (DV X)))(m m':MA X),Fj get rs qs m=some m'->gi m m'/\∃an,m'.ez=m.ez++an/\an.length=(vV rs).length
 |[],[],m,m',h=>by
  simp only[Fj,aA]at h;subst h;exact⟨gi.refl _,[],by simp,rfl⟩
 |r::rs,q::qs,m,m',h=>by
  simp only[Fj]at h;have⟨m1,h1,h⟩:=ai.1 h;have⟨a1,n1,b1,c1⟩:=yK r q m m1 h1;have⟨a2,n2,b2,c2⟩:=yL rs qs m1 m' h;exact⟨a1.trans a2,n1++n2,by rw[b2,b1,aK],by simp[vV,c1,c2]⟩
 |[],_::_,m,m',h=>by simp[Fj]at h
 |_::_,[],m,m',h=>by simp[Fj]at h
section
variable {NM:List (Nat×Nat)} {f:Nat->Nat} {dt:Nat->Nat}
def DN(NM:List (Nat×Nat))(j:Nat):Prop:=∃k,(j,k)∈NM
def SN(NM:List (Nat×Nat))(j:Nat):Prop:=∃k,(k,j)∈NM
theorem MV{D:Nat->Prop}{f:Nat->Nat}{P:Program}{β:Nat->Option cL}{w:World}{I:Nat->Prop}:∀{a b:List AV}(_:mN D f a b)(u:List Value),aE P β w I (zB f a) u->aE P β w I b u
 |[],[],_,u,hu=>hu
 |[],_::_,hr,_,_=>hr.elim
 |_::_,[],hr,_,_=>hr.elim
 |y::ys,z::zs,hr,[],hu=>by simp[zB,aE]at hu
 |y::ys,z::zs,hr,v::vs,hu=>by
  simp only[zB,aE]at hu ⊢;exact⟨hr.1.2 _ _ _ _ _ hu.1,MV hr.2 vs hu.2⟩
mutual
theorem adx(hf:∀q∈NM,f q.1=q.2)(ho:∀q∈NM,∀c l,get q.1=some (.ea c l)->dt q.2=l.length):∀(p:Pt X.ι)(d:DV X)(m m':MA X),mP get p d m=some m'->(∀ q∈m'.nm,q∈NM)->(∀ c∈m'.iS,c=true)->
 ∃an,m'.ez=m.ez++an/\∃d',(∀ ag,eP dt p (an++ag)=(d',ag))/\lh (fX f (den d)) (den d')/\(∀ j∈bk d,DN NM j)/\(∀ j∈bk d',SN NM j)
 | .v c,d,m,m',h,_,_=>by
  simp only[mP]at h;rw[ai]at h;obtain⟨x,h1,h⟩:=h;cases h;have⟨h2,h3⟩:=amI h1;refine⟨[⟨c,x⟩],rfl,.c c x,λag=>rfl,?_,by simp[h3],by simp[bk]⟩;rw[<- zW,V9 d (by simp[h3])];exact h2
 | .o k,d,m,m',h,hn,hc=>by
  simp only[mP]at h;split at h
  ·rename_i k' len;rw[ai]at h;obtain⟨o,h1,h⟩:=h;split at h
   ·rename_i c l;cases h;have hq:(k',k)∈NM:=hn _ (nP _ _ _);have he:len=l.length:=by
     have:=hc (az len l.length) (by rw[(fB _ _ _).2];simp);simpa[az]using this
    refine⟨[],by rw[(fB _ _ _).1];simp,.own k 0 (dt k),λag=>rfl,?_,?_,?_⟩
    ·simp only[den,fX];rw[hf _ hq,ho _ hq c l h1,he];exact lh.refl _
    ·intro j hj;simp only[bk,aW]at hj;subst hj;exact⟨k,hq⟩
    ·intro j hj;simp only[bk,aW]at hj;subst hj;exact⟨k',hq⟩
   ·cases h
  ·cases h
 | .oz k,d,m,m',h,hn,hc=>by
  simp only[mP]at h;split at h
  ·rename_i k' len;rw[ai]at h;obtain⟨o,h1,h⟩:=h;split at h
   ·rename_i c l;cases h;have hq:(k',k)∈NM:=hn _ (nP _ _ _);have he:len≠0/\len=l.length:=by
     have:=hc (!(len==0)&&az len l.length) (by rw[(fB _ _ _).2];simp);simpa[az]using this
    refine⟨[],by rw[(fB _ _ _).1];simp,.oz k (dt k),λag=>rfl,?_,λj hj=>?_,λj hj=>?_⟩
    ·simp only[den,fX];rw[hf _ hq,ho _ hq c l h1,<- he.2];intro P β w I v hv;simp only[VR]at hv ⊢;exact .inr ⟨he.1,hv.resolve_left λh=>he.1 h.2.2.2⟩
    ·simp only[bk,aW]at hj;subst hj;exact⟨k,hq⟩
    ·simp only[bk,aW]at hj;subst hj;exact⟨k',hq⟩
   ·cases h
  ·rename_i k' len;rw[ai]at h;obtain⟨o,h1,h⟩:=h;split at h
   ·rename_i c l;cases h;have hq:(k',k)∈NM:=hn _ (nP _ _ _);have he:len=l.length:=by
     have:=hc (az len l.length) (by rw[(fB _ _ _).2];simp);simpa[az]using this
    refine⟨[],by rw[(fB _ _ _).1];simp,.oz k (dt k),λag=>rfl,?_,λj hj=>?_,λj hj=>?_⟩
    ·simp only[den,fX];rw[hf _ hq,ho _ hq c l h1,he];exact lh.refl _
    ·simp only[bk,aW]at hj;subst hj;exact⟨k,hq⟩
    ·simp only[bk,aW]at hj;subst hj;exact⟨k',hq⟩
   ·cases h
  ·cases h
 | .p k,d,m,m',h,hn,hc=>by
  simp only[mP]at h;split at h
  ·rename_i k';cases h;have hq:(k',k)∈NM:=hn _ (nP _ _ _);refine⟨[],by rw[(fB _ _ _).1];simp,.ptr k 0 0,λag=>rfl,?_,?_,?_⟩
   ·simp only[den,fX];rw[hf _ hq];exact lh.refl _
   ·intro j hj;simp only[bk,aW]at hj;subst hj;exact⟨k,hq⟩
   ·intro j hj;simp only[bk,aW]at hj;subst hj;exact⟨k',hq⟩
  ·cases h
 | .mp k,d,m,m',h,hn,hc=>by
  simp only[mP]at h;split at h
  ·rename_i k';cases h;have hq:(k',k)∈NM:=hn _ (nP _ _ _);refine⟨[],by rw[(fB _ _ _).1];simp,.mp k,λag=>rfl,?_,?_,?_⟩
   ·simp only[den,fX];rw[hf _ hq];exact lh.refl _
   ·intro j hj;simp only[bk,aW]at hj;subst hj;exact⟨k,hq⟩
   ·intro j hj;simp only[bk,aW]at hj;subst hj;exact⟨k',hq⟩
  ·cases h
 | .nil,d,m,m',h,_,_=>by
  simp only[mP]at h;split at h
  ·cases h;exact⟨[],by simp,.nil,λag=>rfl,lh.refl _,by simp[bk],by simp[bk]⟩
  ·cases h
 | .f F fs cs,d,m,m',h,hn,hc=>by
  simp only[mP]at h;split at h
  ·rename_i F' first caps
   split at h
   ·rename_i e;subst e;rw[ai]at h;obtain⟨m1,h1,h⟩:=h;have hm:=(yK cs _ m1 m' h).1;obtain⟨n1,a1,f',b1,c1,e1,g1⟩:=Cw hf ho fs _ m m1 h1 (λ q hq=>hn q (hm.1 q hq)) (λ q hq=>hc q (hm.2 q hq));obtain⟨n2,a2,c',b2,c2,e2,g2⟩:=Cw hf ho cs _ m1 m' h hn hc;refine⟨n1++n2,by rw[a2,a1,aK],.fn F f' c',λag=>by simp only[eP,aK,b1,b2],?_,?_,?_⟩
    ·intro P β w I v hv;simp only[den,fX,VR]at hv ⊢;obtain⟨us,vs,rfl,hu,hv⟩:=hv;exact⟨us,vs,rfl,MV c1 _ hu,MV c2 _ hv⟩
    ·intro j hj;simp only[bk,bf]at hj;exact hj.elim (e1 j) (e2 j)
    ·intro j hj;simp only[bk,bf]at hj;exact hj.elim (g1 j) (g2 j)
   ·cases h
  ·cases h
 | .od k,d,m,m',h,hn,hc=>by
  simp only[mP]at h;split at h
  ·rename_i k' aa len;rw[ai]at h;obtain⟨o,h1,h⟩:=h;split at h
   ·rename_i c l;cases h;have hq:(k',k)∈NM:=hn _ (nP _ _ _);have he:aa+len=l.length:=by
     have:=hc (az (aa+len) l.length) (by rw[(fB _ _ _).2];simp);simpa[az]using this
    refine⟨[⟨.int .i64,(aa:Int)⟩],by rw[(fB _ _ _).1],.own k aa (dt k -aa),λag=>?_,?_,?_,?_⟩
    ·simp only[eP,cons_append,bQ];have:ZH (X:=X) ⟨.int .i64,(aa:Int)⟩=aa:=by
      simp only[ZH];rw[VA];simp
     rw[this]
    ·simp only[den,fX];rw[hf _ hq,ho _ hq c l h1,show l.length -aa=len by omega];exact lh.refl _
    ·intro j hj;simp only[bk,aW]at hj;subst hj;exact⟨k,hq⟩
    ·intro j hj;simp only[bk,aW]at hj;subst hj;exact⟨k',hq⟩
   ·cases h
  ·cases h
 | .a ps,d,m,m',h,hn,hc=>by
  simp only[mP]at h;split at h
  ·rename_i ds;have⟨an,h1,ds',h2,h3,h4,h5⟩:=Cw hf ho ps ds m m' h hn hc;refine⟨an,h1,.agg ds',λag=>by simp only[eP,h2],?_,by simpa[bk]using h4,by simpa[bk]using h5⟩;intro P β w I v hv;simp only[den,fX,VR]at hv ⊢;obtain⟨vs,rfl,hv⟩:=hv;refine⟨vs,rfl,?_⟩;exact MV h3 _ hv
  ·cases h
theorem Cw(hf:∀q∈NM,f q.1=q.2)(ho:∀q∈NM,∀c l,get q.1=some (.ea c l)->dt q.2=l.length):∀(ps:List (Pt X.ι))(ds:List (DV X))(m m':MA X),sX get ps ds m=some m'->(∀ q∈m'.nm,q∈NM)->(∀ c∈m'.iS,c=true)->
 ∃an,m'.ez=m.ez++an/\∃ds',(∀ ag,lf dt ps (an++ag)=(ds',ag))/\mN (DN NM) f (bL ds) (bL ds')/\(∀ j∈aP ds,DN NM j)/\(∀ j∈aP ds',SN NM j)
 |[],[],m,m',h,_,_=>by
  simp only[sX,aA]at h;subst h;exact⟨[],by simp,[],λag=>rfl,trivial,by simp[aP],by simp[aP]⟩
 |p::ps,d::ds,m,m',h,hn,hc=>by
  simp only[sX]at h;have⟨m1,h1,h⟩:=ai.1 h;have hm:=(yK ps ds m1 m' h).1;obtain⟨n1,a1,d',b1,c1,e1,g1⟩:=adx hf ho p d m m1 h1 (λ q hq=>hn q (hm.1 q hq)) (λ q hq=>hc q (hm.2 q hq));have⟨n2,a2,ds',b2,c2,e2,g2⟩:=Cw hf ho ps ds m1 m' h hn hc;refine⟨n1++n2,by rw[a2,a1,aK],d'::ds',λag=>?_,⟨⟨λ k hk=>e1 k (by rwa [iP]at hk),c1⟩,c2⟩,?_,?_⟩
  ·simp only[lf,aK,b1,b2]
  ·intro j hj;simp only[aP,bf]at hj;exact hj.elim (e1 j) (e2 j)
  ·intro j hj;simp only[aP,bf]at hj;exact hj.elim (g1 j) (g2 j)
 |[],_::_,m,m',h,_,_=>by simp[sX]at h
 |_::_,[],m,m',h,_,_=>by simp[sX]at h
end
theorem Rv(hf:∀q∈NM,f q.1=q.2)(ho:∀q∈NM,∀c l,get q.1=some (.ea c l)->dt q.2=l.length):∀(rs:List (List (Pt X.ι)))(qs:List (List (DV X)))(m m':MA X),Fj get rs qs m=some m'->(∀ q∈m'.nm,q∈NM)->(∀ c∈m'.iS,c=true)->
 ∃an,m'.ez=m.ez++an/\∃D3,(∀ ag,vX dt rs (an++ag)=(D3,ag))/\ie (DN NM) f (qs.map bL) (D3.map bL)/\(∀ j∈(qs.map aP).flatten,DN NM j)/\(∀ j∈(D3.map aP).flatten,SN NM j)
 |[],[],m,m',h,_,_=>by
  simp only[Fj,aA]at h;subst h;exact⟨[],by simp,[],λag=>rfl,trivial,by simp,by simp⟩
 |r::rs,q::qs,m,m',h,hn,hc=>by
  simp only[Fj]at h;have⟨m1,h1,h⟩:=ai.1 h;have hm:=(yL rs qs m1 m' h).1;obtain⟨n1,a1,d',b1,c1,e1,g1⟩:=Cw hf ho r q m m1 h1 (λ q hq=>hn q (hm.1 q hq)) (λ q hq=>hc q (hm.2 q hq));have⟨n2,a2,ds',b2,c2,e2,g2⟩:=Rv hf ho rs qs m1 m' h hn hc;refine⟨n1++n2,by rw[a2,a1,aK],d'::ds',λag=>?_,⟨c1,c2⟩,?_,?_⟩
  ·simp only[vX,aK,b1,b2]
  ·intro j hj;simp only[aF,flatten_cons,bf]at hj;exact hj.elim (e1 j) (e2 j)
  ·intro j hj;simp only[aF,flatten_cons,bf]at hj;exact hj.elim (g1 j) (g2 j)
 |[],_::_,m,m',h,_,_=>by simp[Fj]at h
 |_::_,[],m,m',h,_,_=>by simp[Fj]at h
end
end
section
variable {X:SX} {get:Nat->Option (bm X)} {env:Nat->DV X}
theorem Hf:∀(sl:List (Nat×Pt X.ι))(m m':MA X),G7 get env sl m=some m'->gi m m'/\∃an,m'.ez=m.ez++an/\an.length=(gE sl).length
 |[],m,m',h=>by
  simp only[G7,aA]at h;subst h;exact⟨gi.refl _,[],by simp,rfl⟩
 |(t,p)::r,m,m',h=>by
  simp only[G7]at h;rw[ai]at h;obtain⟨m1,h1,h⟩:=h;obtain⟨a1,n1,b1,c1⟩:=ahQ p _ m m1 h1;have⟨a2,n2,b2,c2⟩:=Hf r m1 m' h;exact⟨a1.trans a2,n1++n2,by rw[b2,b1,aK],by simp[gE,c1,c2]⟩
theorem lY:∀(os:List (Nat×OP X.ι))(m m':MA X),Cq get os m=some m'->gi m m'/\∃an,m'.ez=m.ez++an/\an.length=(cH os).length
 |[],m,m',h=>by
  simp only[Cq,aA]at h;subst h;exact⟨gi.refl _,[],by simp,rfl⟩
 |(k,op)::r,m,m',h=>by
  simp only[Cq]at h;rw[ai]at h;obtain⟨o,h1,h⟩:=h;split at h
  ·rename_i c c' l;rw[ai]at h;obtain⟨l',h2,h⟩:=h;obtain⟨a2,n2,b2,c2⟩:=lY r _ m' h;refine⟨gi.trans (gi.trans (b:=⟨m.nm,m.ez++[⟨.sl c,l'⟩],m.iS⟩) ⟨λ _ h=>h,λ_ h=>h⟩ (pu _ _ _)) a2,[⟨.sl c,l'⟩]++n2,?_,by simp[cH,c2]⟩;rw[b2,(fB _ _ _).1,aK]
  ·rename_i kc vc tM tD l;rw[ai]at h;obtain⟨l',h2,h⟩:=h;obtain⟨a2,n2,b2,c2⟩:=lY r _ m' h;refine⟨gi.trans (gi.trans (b:=⟨m.nm,m.ez++[⟨.mp kc vc,l'⟩],m.iS⟩) ⟨λ _ h=>h,λ_ h=>h⟩ (pu _ _ _)) a2,[⟨.mp kc vc,l'⟩]++n2,?_,by simp[cH,c2]⟩;rw[b2,(fB _ _ _).1,aK]
  ·rename_i sz rows sz' rows';split at h
   ·rw[ai]at h;obtain⟨m1,h2,h⟩:=h;obtain⟨a1,n1,b1,c1⟩:=yL rows _ _ m1 h2;have⟨a2,n2,b2,c2⟩:=lY r m1 m' h;refine⟨((pu m _ _).trans a1).trans a2,n1++n2,?_,by simp[cH,c1,c2]⟩;rw[b2,b1,(fB _ _ _).1,aK]
   ·cases h
  ·cases h
variable {NM:List (Nat×Nat)} {f:Nat->Nat} {dt:Nat->Nat}
theorem DY:∀(os:List (Nat×OP X.ι))(m m':MA X),Cq get os m=some m'->(∀ q∈m'.nm,q∈NM)->∃an,m'.ez=m.ez++an/\∀ag,∀k∈os.map (·.1),∃k' o,(k',k)∈NM/\get k'=some o/\∀c l,o= .ea c l->(k,List.length l)∈lens os (an++ag)
 |[],m,m',h,_=>by
  simp only[Cq,aA]at h;subst h;exact⟨[],by simp,λag k hk=>by simp at hk⟩
 |(k,op)::r,m,m',h,hn=>by
  simp only[Cq]at h;rw[ai]at h;obtain⟨o,h1,h⟩:=h;split at h
  ·rename_i c c' l;rw[ai]at h;obtain⟨l',h2,h⟩:=h;have hm:=(lY r _ m' h).1;obtain⟨n2,b2,c2⟩:=DY r _ m' h hn;refine⟨[⟨.sl c,l'⟩]++n2,by rw[b2,(fB _ _ _).1,aK],λag j hj=>?_⟩;simp only[aF,aN]at hj;simp only[aK,cons_append,bQ,lens];by_cases hjk:j=k
   ·subst hjk;refine⟨_,_,hn _ (hm.1 _ (nP _ _ _)),h1,λc2 l2 he=>?_⟩;injection he with e1 e2;subst e1;have e2:=eq_of_heq e2;subst e2;have:=congrArg List.length (jf h2).2;simp only[length_map]at this;rw[this];exact List.mem_cons_self
   ·rcases hj with rfl |hj
    ·exact(hjk rfl).elim
    ·have⟨k',o',g1,g2,g3⟩:=c2 ag j hj;exact⟨k',o',g1,g2,λc l he=>eH _ (g3 c l he)⟩
  ·rename_i kc vc tM tD l;rw[ai]at h;obtain⟨l',h2,h⟩:=h;have hm:=(lY r _ m' h).1;obtain⟨n2,b2,c2⟩:=DY r _ m' h hn;refine⟨[⟨.mp kc vc,l'⟩]++n2,by rw[b2,(fB _ _ _).1,aK],λag j hj=>?_⟩;simp only[aF,aN]at hj;simp only[aK,cons_append,bQ,lens,List.drop_succ_cons,List.drop_zero];by_cases hjk:j=k
   ·subst hjk;exact⟨_,_,hn _ (hm.1 _ (nP _ _ _)),h1,λc2 l2 he=>by cases he⟩
   ·rcases hj with rfl |hj
    ·exact(hjk rfl).elim
    ·exact c2 ag j hj
  ·rename_i sz rows sz' rows';split at h
   ·have⟨m1,h2,h⟩:=ai.1 h;obtain⟨a1,n1,b1,c1⟩:=yL rows _ _ m1 h2;have hm:=(lY r _ m' h).1;obtain⟨n2,b2,c2⟩:=DY r _ m' h hn;refine⟨n1++n2,by rw[b2,b1,(fB _ _ _).1,aK],λag j hj=>?_⟩;simp only[aF,aN]at hj;have hd:(n1++n2++ag).drop (vV rows).length=n2++ag:=(by rw[<- c1,aK,List.drop_left]);simp only[lens,hd];by_cases hjk:j=k
    ·subst hjk;exact⟨_,_,hn _ (hm.1 _ (a1.1 _ (nP _ _ _))),h1,λc2 l2 he=>by cases he⟩
    ·rcases hj with rfl |hj
     ·exact(hjk rfl).elim
     ·exact c2 ag j hj
   ·cases h
  ·cases h
theorem Jp:∀(os:List (Nat×OP X.ι))(L:List (DC X)),((lens os L).map (·.1)).Sublist (os.map (·.1))
 |[],_=>by simp[lens]
 |(k,.l c)::r,L=>by
  simp only[lens];split
  ·exact(Jp r _).cons_cons _
  ·exact List.nil_sublist _
 |(k,.m kc vc)::r,L=>by
  simp only[lens];exact(Jp r _).cons _
 |(k,.c sz rows)::r,L=>by
  simp only[lens];exact(Jp r _).cons _
theorem MW(hf:∀q∈NM,f q.1=q.2)(ho:∀q∈NM,∀c l,get q.1=some (.ea c l)->dt q.2=l.length):∀(sl:List (Nat×Pt X.ι))(m m':MA X),G7 get env sl m=some m'->(∀ q∈m'.nm,q∈NM)->(∀ c∈m'.iS,c=true)->
 ∃an,m'.ez=m.ez++an/\∃es,(∀ ag,KO dt sl (an++ag)=es)/\(∀ p∈es,p.1∈sl.map (·.1)/\lh (fX f (den (env p.1))) (den p.2)/\(∀ j∈bk (env p.1),DN NM j)/\(∀ j∈bk p.2,SN NM j))
 |[],m,m',h,_,_=>by
  simp only[G7,aA]at h;subst h;exact⟨[],by simp,[],λag=>rfl,by simp⟩
 |(t,p)::r,m,m',h,hn,hc=>by
  simp only[G7]at h;have⟨m1,h1,h⟩:=ai.1 h;have hm:=(Hf r m1 m' h).1;obtain⟨n1,a1,d',b1,c1,e1,g1⟩:=adx hf ho p _ m m1 h1 (λ q hq=>hn q (hm.1 q hq)) (λ q hq=>hc q (hm.2 q hq));have⟨n2,a2,es,b2,c2⟩:=MW hf ho r m1 m' h hn hc;refine⟨n1++n2,by rw[a2,a1,aK],(t,d')::es,λag=>by simp only[KO,aK,b1,b2],λq hq=>?_⟩;rcases aN.1 hq with rfl |hq
  ·exact⟨by simp,c1,e1,g1⟩
  ·have⟨i1,i2⟩:=c2 q hq;exact⟨by simp only[aF,aN];exact .inr i1,i2⟩
theorem Z4{D:Nat->Prop}(f:Nat->Nat):∀rows:List (List Tree),ie D f (aI rows) (aI rows)
 |[]=>trivial
 |r::rs=>by
  refine⟨?_,Z4 f rs⟩
  induction r with
  |nil=>trivial
  |cons y ys ih=>exact⟨⟨by simp[refs],lh.refl _⟩,ih⟩
theorem Z5{a b c d:CT X.ι}{l:List (CT.T X.toSE a×CT.T X.toSE b)}{l':List (CT.T X.toSE c×CT.T X.toSE d)}(h:jy (.mp a b) (.mp c d) l=some l'):bG (.map c d l':bm X)=bG (.map a b l):=by
 have⟨e,h⟩:=rf h;injection e with e1 e2;subst e1;subst e2;subst h;rfl
theorem Z6{D:Nat->Prop}(f:Nat->Nat){kc vc:CT X.ι}:∀l:List (CT.T X.toSE kc×CT.T X.toSE vc),ie D f (bG (.map kc vc l:bm X)).rows (bG (.map kc vc l:bm X)).rows
 |[]=>trivial
 |p::ps=>⟨⟨⟨by simp[zU],by rw[VP];exact lh.refl _⟩,⟨by simp[zU],by rw[VP];exact lh.refl _⟩,trivial⟩,Z6 f ps⟩
theorem zZ(hf:∀q∈NM,f q.1=q.2)(ho:∀q∈NM,∀c l,get q.1=some (.ea c l)->dt q.2=l.length):∀(os:List (Nat×OP X.ι))(m m':MA X),Cq get os m=some m'->(∀ q∈m'.nm,q∈NM)->(∀ c∈m'.iS,c=true)->
 ∃an,m'.ez=m.ez++an/\∃xs,(∀ ag,dn dt os (an++ag)=xs)/\(∀ p∈xs,p.1∈os.map (·.1)/\∃k' o o',p.2=some o'/\(k',p.1)∈NM/\get k'=some o/\(bG o').sz=(bG o).sz/\ie (DN NM) f (bG o).rows (bG o').rows/\(∀ j∈d5 o',SN NM j))
 |[],m,m',h,_,_=>by
  simp only[Cq,aA]at h;subst h;exact⟨[],by simp,[],λag=>rfl,by simp⟩
 |(k,op)::r,m,m',h,hn,hc=>by
  simp only[Cq]at h;rw[ai]at h;obtain⟨o,h1,h⟩:=h;split at h
  ·rename_i c c' l;rw[ai]at h;obtain⟨l',h2,h⟩:=h;have hm:=(lY r _ m' h).1;obtain⟨n2,a2,xs,b2,c2⟩:=zZ hf ho r _ m' h hn hc;refine⟨[⟨.sl c,l'⟩]++n2,by rw[a2,(fB _ _ _).1,aK],(k,some (.ea c l'))::xs,λag=>by simp only[aK,cons_append,bQ,dn,b2],λq hq=>?_⟩;rcases aN.1 hq with rfl |hq
   ·refine⟨by simp,_,_,_,rfl,hn _ (hm.1 _ (nP _ _ _)),h1,?_,?_,by simp[d5]⟩
    ·simp only[bG,(jf h2).1]
    ·simp only[bG,(jf h2).2];exact Z4 f _
   ·have⟨i1,i2⟩:=c2 q hq;exact⟨by simp only[aF,aN];exact .inr i1,i2⟩
  ·rename_i kc vc tM tD l;rw[ai]at h;obtain⟨l',h2,h⟩:=h;have hm:=(lY r _ m' h).1;obtain⟨n2,a2,xs,b2,c2⟩:=zZ hf ho r _ m' h hn hc;refine⟨[⟨.mp kc vc,l'⟩]++n2,by rw[a2,(fB _ _ _).1,aK],(k,some (.map kc vc l'))::xs,λag=>by simp only[aK,cons_append,bQ,dn,b2],λq hq=>?_⟩;rcases aN.1 hq with rfl |hq
   ·refine⟨by simp,_,_,_,rfl,hn _ (hm.1 _ (nP _ _ _)),h1,?_,?_,by simp[d5]⟩
    ·rw[Z5 h2]
    ·rw[Z5 h2];exact Z6 f _
   ·have⟨i1,i2⟩:=c2 q hq;exact⟨by simp only[aF,aN];exact .inr i1,i2⟩
  ·rename_i sz rows sz' rows';split at h
   ·rename_i hsz;have⟨m1,h2,h⟩:=ai.1 h;have hm1:=(yL rows _ _ m1 h2).1;have hm:=(lY r _ m' h).1;obtain⟨n1,a1,qs,b1,c1,e1,g1⟩:=Rv hf ho rows _ _ m1 h2 (λ q hq=>hn q (hm.1 q hq)) (λ q hq=>hc q (hm.2 q hq));obtain⟨n2,a2,xs,b2,c2⟩:=zZ hf ho r _ m' h hn hc;refine⟨n1++n2,by rw[a2,a1,(fB _ _ _).1,aK],(k,some (.cells sz qs))::xs,λag=>by simp only[aK,dn,b1,b2],λq hq=>?_⟩;rcases aN.1 hq with rfl |hq
    ·exact⟨by simp,_,_,_,rfl,hn _ (hm.1 _ (hm1.1 _ (nP _ _ _))),h1,hsz,c1,g1⟩
    ·have⟨i1,i2⟩:=c2 q hq;exact⟨by simp only[aF,aN];exact .inr i1,i2⟩
   ·cases h
  ·cases h
theorem aiX{d:DV X}(h:isU d=false)(h':d= .undef):False:=by subst h';cases h
theorem abo{A:Type}{sh:Sh X.ι}{ds:List Nat}{s0 s':de X}{k:VT (X:=X) sh.vars->Option A}{r:A}(hl0:Low s0)(hx:Ext (· ∈ds) s0 s')(h:On sh ds s0 s' k=some r):
 ∃v,k v=some r/\Low (encS sh s0 v)/\Ext (· ∈ds) s0 (encS sh s0 v)/\∀(P:Program) (w0:World) (O0:j7) (N:Nat) (β:Nat->Option cL) (I:Nat->Prop) (a:Act) (w:World),Rel P w0 O0 N β I s'.st a w->∃ β',Rel P w0 O0 N β' I (encS sh s0 v).st a w:=by
 unfold On at h;have⟨m1,h1,h⟩:=ai.1 h;have⟨m,h2,h⟩:=ai.1 h;have⟨h3,h⟩:=eu h;have⟨v,h4,h⟩:=ai.1 h;have⟨h5,h6⟩:=pq h;simp only[okS,aL,aV]at h3;obtain⟨⟨⟨⟨⟨⟨⟨⟨n1,n2⟩,n3⟩,n4⟩,n5⟩,n6⟩,n7⟩,n8⟩,n9⟩:=h3;have hm2:=(lY _ _ _ h2).1;have vm:=Vz h4;obtain⟨_,nA,dA,lA⟩:=Hf _ _ _ h1;simp only[bQ]at dA;have R1:(m.nm.map (·.1)).Nodup:=(List.nodup_append.1 n1).1;have R0:(m.nm.map (·.2)).Nodup:=(List.nodup_append.1 n2).1;have hsw:((m.nm.map λq=>(q.2,q.1)).map (·.1)).Nodup:=by rw[map_map];exact R0
 generalize hf':(λ j=>match lk m.nm j with |some q=>q |none=>j:Nat->Nat)=f;generalize hg':(λ j=>match lk (m.nm.map λq=>(q.2,q.1)) j with |some q=>q |none=>j:Nat->Nat)=g;have hf:∀q∈m.nm,f q.1=q.2:=by
  rintro⟨p,q⟩ hq;rw[<- hf'];simp only[uS R1 hq]
 have hg:∀q∈m.nm,g q.2=q.1:=by
  rintro⟨p,q⟩ hq;rw[<- hg'];have:(q,p)∈m.nm.map λq=>(q.2,q.1):=mem_map.2 ⟨(p,q),hq,rfl⟩;simp only[uS hsw this]
 have m8:∀j∈sh.da,f j=j:=by
  intro j hj;rw[<- hf'];cases hh:lk m.nm j with
  |none=>simp[hh]
  |some q=>exact((List.nodup_append.1 n1).2.2 j (mem_map.2 ⟨(j,q),q9 hh,rfl⟩) j hj rfl).elim
 have HB:∀j∈sh.da,g j=j:=by
  intro j hj;rw[<- hg'];cases hh:lk (m.nm.map λq=>(q.2,q.1)) j with
  |none=>simp[hh]
  |some q=>
   have h1:=q9 hh;simp only[mem_map]at h1;obtain⟨z,hz,e⟩:=h1;injection e with e1 e2;exact((List.nodup_append.1 n2).2.2 j (mem_map.2 ⟨z,hz,e1⟩) j hj rfl).elim
 have hg0:∀j,j<1000->g j=j:=by
  intro j hj;rw[<- hg'];cases hh:lk (m.nm.map λq=>(q.2,q.1)) j with
  |none=>simp[hh]
  |some q=>
   have h1:=q9 hh;simp only[mem_map]at h1;obtain⟨z,hz,e⟩:=h1;injection e with e1 e2;have:=all_eq_true.1 n4 z hz;simp only[aL,Bool.or_eq_true,aV]at this;simp only[hh];omega
 have hgf:∀j,(DN m.nm j\/j∈sh.da)->g (f j)=j:=by
  rintro j (⟨q,hq⟩ |hj)
  ·rw[hf _ hq];exact hg _ hq
  ·rw[m8 j hj];exact HB j hj
 obtain⟨nB,dB,lB⟩:=DY (NM:=m.nm) _ _ _ h2 (λ q hq=>hq);have hL:m.ez=nA++nB:=by rw[dB,dA]
 have hdrop:(vW sh.vars v).drop (gE sh.slots).length=nB:=by rw[vm,hL,<- lA,List.drop_left]
 have htake:(vW sh.vars v).take (gE sh.slots).length=nA:=by rw[vm,hL,<- lA,List.take_left]
 generalize hol:(λ k=>(lk (lens sh.cE nB) k).getD 0:Nat->Nat)=dt;have ho:∀q∈m.nm,∀c l,gz s'.obj q.1=some (.ea c l)->dt q.2=l.length:=by
  rintro⟨p,q⟩ hq c l hl;have hqk:=all_eq_true.1 n4 _ hq;simp only[aL]at hqk;obtain⟨p',o,g1,g2,g3⟩:=lB [] q (by simpa using hqk.1.1);have:p'=p:=by
   have e1:=hg _ g1;have e2:=hg _ hq;simp only at e1 e2;rw[<- e1,e2]
  subst this;simp only at hl;rw[hl]at g2;injection g2 with g2;have h3:=g3 c l g2.symm;rw[append_nil]at h3;rw[<- hol];have hk:=(Jp sh.cE nB).nodup n3;simp only[uS hk h3,Option.getD_some]
 obtain⟨P1,H4,es,eA,pA⟩:=MW (NM:=m.nm) (f:=f) (dt:=dt) hf ho _ _ _ h1 (λ q hq=>hm2.1 q hq) (λ c hc=>h5 c (hm2.2 c hc));obtain⟨P0,T4,xs,eB,pB⟩:=zZ (NM:=m.nm) (f:=f) (dt:=dt) hf ho _ _ _ h2 (λ q hq=>hq) h5;have T1:P1=nA:=by simp only[bQ]at H4;rw[<- H4,dA]
 have T0:P0=nB:=List.append_cancel_left (T4.symm.trans dB);subst T1 T0;have H2:=eA [];have H0:=eB [];rw[append_nil]at H2 H0;have hS:encS sh s0 v=⟨es++sh.keep.map (λ t=>(t,eM s0.env t)),xs++sh.da.map (λ k=>(k,gz s0.obj k)),sh.nx,(List.range s0.nx).filter (λ k=>!sh.da.contains k)++s0.log⟩:=by simp only[encS,hdrop,htake,hol,H2,H0]
 have hsn:∀j,SN m.nm j->j<sh.nx:=by
  rintro j ⟨p,hp⟩;have:=all_eq_true.1 n4 _ hp;simp only[aL,aV]at this;exact this.1.2
 have kp:∀j,(sh.da.contains j || m.nm.contains (j,j))=true->j∈sh.da\/(j,j)∈m.nm:=by
  intro j hj;simpa using hj
 have hfp:∀j,j∈sh.da\/(j,j)∈m.nm->f j=j:=λj hj=>hj.elim (m8 j) (λ h=>hf (j,j) h);have hdp:∀j,j∈sh.da\/(j,j)∈m.nm->DN m.nm j\/j∈sh.da:=λj hj=>hj.elim .inr (λ h=> .inl ⟨j,h⟩);have hko:∀j∈sh.da,j<s0.nx/\(∃ o,gz s0.obj j=some o/\gz s'.obj j=some o/\∀i∈d5 o,i∈sh.da\/(i,i)∈m.nm):=by
  intro j hj;have:=all_eq_true.1 n7 _ hj;simp only[aL,aV,Bool.not_eq_true']at this;obtain⟨⟨⟨a1,a2⟩,a3⟩,a4⟩:=this;refine⟨a1,?_⟩;cases ho0:gz s0.obj j with
  |none=>rw[ho0]at a4;cases a4
  |some o=>
   rw[ho0]at a4;refine⟨o,rfl,?_,λi hi=>kp i (all_eq_true.1 a4 i hi)⟩;obtain⟨d,hd,hd2⟩:=hx.obj;have hnd:j∉d:=by
    have e:s'.log.take (s'.log.length -s0.log.length)=d:=(by rw[hd,dM,Nat.add_sub_cancel,List.take_left]);rw[e]at a2;simpa using a2
   rcases hd2 j a1 hnd with h |h
   ·rw[h,ho0]
   ·rw[h]at a3;cases a3
 have hke:∀t∈sh.keep,t∉ds/\eM s'.env t=eM s0.env t/\∀j∈bk (eM s0.env t),j∈sh.da\/(j,j)∈m.nm:=by
  intro t ht;have:=all_eq_true.1 n6 _ ht;simp only[aL,Bool.not_eq_true']at this;obtain⟨⟨a1,a2⟩,a3⟩:=this;have a1':t∉ds:=by simpa using a1
  refine⟨a1',?_,λj hj=>kp j (all_eq_true.1 a3 j hj)⟩;rcases hx.env t a1' with h |h
  ·exact h
  ·exact(aiX a2 h).elim
 have hks:∀q∈es,q.1∈ds:=by
  intro q hq;have h1:=(pA q hq).1;obtain⟨z,hz,e⟩:=mem_map.1 h1;have:=all_eq_true.1 n5 _ hz;rw[<- e];simpa using this
 have hkeep:∀t,lk (sh.keep.map λt=>(t,eM s0.env t)) t=if t∈sh.keep then some (eM s0.env t)else none:=by
  intro t
  induction sh.keep with
  |nil=>simp[lk]
  |cons q qs ih=>
   simp only[aF,lk,ih,aN];by_cases e:q=t
   ·subst e;simp
   ·rw[aR e];simp[Ne.symm e]
 have Bs:∀t,lk (sh.da.map λt=>(t,gz s0.obj t)) t=if t∈sh.da then some (gz s0.obj t)else none:=by
  intro t
  induction sh.da with
  |nil=>simp[lk]
  |cons q qs ih=>
   simp only[aF,lk,ih,aN];by_cases e:q=t
   ·subst e;simp
   ·rw[aR e];simp[Ne.symm e]
 have q6:∀t,(∃ d,(t,d)∈es/\eM (encS sh s0 v).env t=d)\/(t∈sh.keep/\eM (encS sh s0 v).env t=eM s0.env t)\/eM (encS sh s0 v).env t= .undef:=by
  intro t;have e1:eM (encS sh s0 v).env t=(match lk es t with |some d=>some d |none=>if t∈sh.keep then some (eM s0.env t)else none).getD .undef:=by
   rw[hS];show(lk (es++sh.keep.map (λ t=>(t,eM s0.env t))) t).getD .undef=_;rw[Cv,hkeep t];cases lk es t<;>rfl
  rw[e1];cases he:lk es t with
  |some d=>exact .inl ⟨d,q9 he,rfl⟩
  |none=>
   by_cases ht:t∈sh.keep
   ·simp only[aY ht];exact .inr (.inl ⟨ht,rfl⟩)
   ·simp only[aR ht];exact .inr (.inr rfl)
 have gp:∀j o,gz (encS sh s0 v).obj j=some o->(∃ k' o1,(k',j)∈m.nm/\gz s'.obj k'=some o1/\(bG o).sz=(bG o1).sz/\ie (DN m.nm) f (bG o1).rows (bG o).rows/\(∀ i∈d5 o,SN m.nm i))\/(j∈sh.da/\gz s0.obj j=some o):=by
  intro j o hjo;have e1:gz (encS sh s0 v).obj j=(match lk xs j with |some d=>some d |none=>if j∈sh.da then some (gz s0.obj j)else none).join:=by
   rw[hS];show(lk (xs++sh.da.map (λ k=>(k,gz s0.obj k))) j).join=_;rw[Cv,Bs j];cases lk xs j<;>rfl
  rw[e1]at hjo;cases he:lk xs j with
  |some x=>
   rw[he]at hjo;obtain⟨_,k',o1,o',b1,b2,b3,b4,b5,b6⟩:=pB _ (q9 he);simp only at b1 b2 hjo;subst b1;simp only[Option.join_some,aA]at hjo;subst hjo;exact .inl ⟨k',o1,b2,b3,b4,b5,b6⟩
  |none=>
   rw[he]at hjo;by_cases hj:j∈sh.da
   ·simp only[aY hj,Option.join_some]at hjo;exact .inr ⟨hj,hjo⟩
   ·simp[aR hj]at hjo
 have hnx:s0.nx<=sh.nx:=n8;have hkx:∀j,j∈sh.da\/(j,j)∈m.nm->j<sh.nx:=λj hj=>hj.elim (λ hj=>Nat.lt_of_lt_of_le (hko j hj).1 hnx) (λ h=>hsn j ⟨j,h⟩);have hRW:∀{r q:List AV},mN (DN m.nm) f r q->mN (λ j=>DN m.nm j\/j∈sh.da) f r q:=by
  intro r
  induction r with
  |nil=>intro q h;cases q with
   |nil=>trivial
   |cons=>exact h.elim
  |cons x xs ih=>intro q h;cases q with
   |nil=>exact h.elim
   |cons y ys=>exact⟨⟨λ k hk=> .inl (h.1.1 k hk),h.1.2⟩,ih h.2⟩
 have SZ:∀{r q:List (List AV)},ie (DN m.nm) f r q->ie (λ j=>DN m.nm j\/j∈sh.da) f r q:=by
  intro r
  induction r with
  |nil=>intro q h;cases q with
   |nil=>trivial
   |cons=>exact h.elim
  |cons x xs ih=>intro q h;cases q with
   |nil=>exact h.elim
   |cons y ys=>exact⟨hRW h.1,ih h.2⟩
 refine⟨v,h6,?_,?_,?_⟩
 ·constructor
  ·rw[hS];exact n9
  ·rw[hS];exact Nat.le_trans hl0.ge n8
  ·intro t j hj;have A3:(encS sh s0 v).nx=sh.nx:=(by rw[hS]);rw[A3];rcases q6 t with ⟨d,h1,h2⟩ |⟨h1,h2⟩ |h2
   ·rw[h2]at hj;exact hsn j ((pA _ h1).2.2.2 j hj)
   ·rw[h2]at hj;exact hkx j ((hke t h1).2.2 j hj)
   ·rw[h2]at hj;simp[bk]at hj
  ·intro j o hjo;have A3:(encS sh s0 v).nx=sh.nx:=(by rw[hS]);rw[A3];rcases gp j o hjo with ⟨k',o1,b1,b2,b3,b4,b5⟩ |⟨b1,b2⟩
   ·exact⟨hsn j ⟨k',b1⟩,λi hi=>hsn i (b5 i hi)⟩
   ·have⟨c1,o',c2,c3,c4⟩:=hko j b1;rw[b2]at c2;cases c2;exact⟨hkx j (.inl b1),λi hi=>hkx i (c4 i hi)⟩
 ·refine⟨λ t ht=>?_,⟨(List.range s0.nx).filter (λ k=>!sh.da.contains k),by rw[hS],λj hj hn=>?_⟩,by rw[hS];exact hnx⟩
  ·rcases q6 t with ⟨d,h1,h2⟩ |⟨h1,h2⟩ |h2
   ·exact(ht (hks _ h1)).elim
   ·exact .inl h2
   ·exact .inr h2
  ·have hjk:j∈sh.da:=(by simpa[hj]using hn);cases hjo:gz (encS sh s0 v).obj j with
   |none=>exact .inr rfl
   |some o=>
    rcases gp j o hjo with ⟨k',o1,b1,_⟩ |⟨b1,b2⟩
    ·exact((List.nodup_append.1 n2).2.2 j (mem_map.2 ⟨(k',j),b1,rfl⟩) j hjk rfl).elim
    ·exact .inl b2.symm
 ·intro P w0 O0 N β I a w hr;refine⟨_,Rel.re (f:=f) (g:=g) (D:=λj=>DN m.nm j\/j∈sh.da) hgf hg0 hr (λ _=> .inl rfl) (λ _=>rfl) (λ t=>?_) (λ j o' hj=>?_)⟩
  ·show den (eM (encS sh s0 v).env t)= .undef\/((∀ k∈refs (den (eM s'.env t)),_)/\lh (fX f (den (eM s'.env t))) (den (eM (encS sh s0 v).env t)));rcases q6 t with ⟨d,h1,h2⟩ |⟨h1,h2⟩ |h2
   ·right;rw[h2];obtain⟨_,b1,b2,_⟩:=pA _ h1;exact⟨λ k hk=> .inl (b2 k (by rwa [iP]at hk)),b1⟩
   ·right;have⟨_,b1,b2⟩:=hke t h1;rw[h2,b1];refine⟨λ k hk=>hdp k (b2 k (by rwa [iP]at hk)),?_⟩;rw[<- zW,V9 _ (λ k hk=>hfp k (b2 k hk))];exact lh.refl _
   ·left;rw[h2];rfl
  ·simp only[de.st,dN]at hj;obtain⟨o,hjo,rfl⟩:=hj;rcases gp j o hjo with ⟨k',o1,b1,b2,b3,b4,b5⟩ |⟨b1,b2⟩
   ·exact⟨k',bG o1,by simp[de.st,b2],.inl ⟨j,b1⟩,hf _ b1,b3,SZ b4⟩
   ·have⟨c1,o',c2,c3,c4⟩:=hko j b1;rw[b2]at c2;cases c2;have hid:oR f o=o:=by
     cases o with
     |ea c l=>rfl
     |map kc vc l=>rfl
     |cells sz rows=>
      simp only[oR];congr 1;have:∀q∈rows,JP f q=q:=λq hq=>zY q λi hi=>hfp i (c4 i (by
       simp only[d5,List.mem_flatten,mem_map];exact⟨_,⟨q,hq,rfl⟩,hi⟩))
      rw[map_congr_left this];simp
    obtain⟨r1,r2⟩:=Jo (D:=λj=>DN m.nm j\/j∈sh.da) f o (λ i hi=>hdp i (c4 i hi));rw[hid]at r1 r2;exact⟨j,bG o,by simp[de.st,c3],.inr b1,m8 j b1,r1,r2⟩
theorem Ext.trans{ds:Nat->Prop}{a b c:de X}(h:Ext ds a b)(h':Ext ds b c):Ext ds a c:=by
 refine⟨λ t ht=>?_,?_,Nat.le_trans h.nx h'.nx⟩
 ·rcases h'.env t ht with h1 |h1
  ·rcases h.env t ht with h2 |h2
   ·exact .inl (h1.trans h2)
   ·exact .inr (h1.trans h2)
  ·exact .inr h1
 ·obtain⟨d,h1,h2⟩:=h.obj;obtain⟨d',h3,h4⟩:=h'.obj;refine⟨d'++d,by rw[h3,h1,aK],λk hk hn=>?_⟩;simp only[bf,not_or]at hn;rcases h4 k (Nat.lt_of_lt_of_le hk h.nx) hn.1 with h5 |h5
  ·rcases h2 k hk hn.2 with h6 |h6
   ·exact .inl (h5.trans h6)
   ·exact .inr (h5.trans h6)
  ·exact .inr h5
theorem Ext.refl(ds:Nat->Prop)(s:de X):Ext ds s s:=⟨λ _ _=> .inl rfl,⟨[],by simp,λ_ _ _=> .inl rfl⟩,aC _⟩
def Says(s s':de X):Prop:=∀(P:Program) (w0:World) (O0:j7) (N:Nat) (β:Nat->Option cL) (I:Nat->Prop) (a:Act) (w:World),Rel P w0 O0 N β I s.st a w->∃ β',Rel P w0 O0 N β' I s'.st a w
theorem Low.room{s:de X}{P:Program}{w0:World}{O0:j7}{N:Nat}{β:Nat->Option cL}{I:Nat->Prop}{a:Act}{w:World}(hl:Low s)(hr:Rel P w0 O0 N β I s.st a w):∃ β2,β2 s.nx=none/\Rel P w0 O0 N β2 I s.st a w:=by
 have hr1:=hr.restrict hl.old
 have hr2:=Rel.re (f:=id) (g:=λj=>if j<s.nx then j else 1000000) (D:=(· <s.nx)) (s':=s.st) (λ k hk=>aY hk) (λ j hj=>aY (by have:=hl.ge;omega)) hr1 (λ _=> .inl rfl) (λ _=>rfl)
  (λ q=> .inr ⟨λ k hk=>hl.env q k (by rw[<- iP];exact hk),by
   show lh (fX id (den (eM s.env q))) (den (eM s.env q));rw[<- zW,V9 (f:=id) _ (λ _ _=>rfl)];exact lh.refl _⟩)
  (λ j o' hj=>by
   simp only[de.st,dN]at hj;obtain⟨x,hx,rfl⟩:=hj;have⟨h1,h2⟩:=hl.obj j x hx;have⟨r1,r2⟩:=Jo (D:=(· <s.nx)) id x h2;have hid:oR id x=x:=by
    cases x with
    |ea c l=>rfl
    |map kc vc l=>rfl
    |cells sz rows=>
     simp only[oR];congr 1;have:∀q∈rows,JP id q=q:=λq _=>zY (f:=id) q λ_ _=>rfl;rw[map_congr_left this];simp
   rw[hid]at r1 r2;exact⟨j,bG x,by simp[de.st,hx],h1,rfl,r1,r2⟩)
 exact⟨_,by simp,hr2⟩
theorem amJ(z:Bool)(k:Nat):bk (nz (X:=X) z k)=[k]:=by cases z<;>rfl
theorem Wi{ds:List Nat}{z:Bool}{s:de X}{t:Nat}{c:CT X.ι}(hl:Low s)(ht:t∈ds):Low (zE z s t c)/\Ext (· ∈ds) s (zE z s t c)/\Says s (zE z s t c):=by
 unfold zE;split
 ·rename_i hn;split
  ·rename_i hlt;have he:∀q,eM ((t,nz z s.nx)::s.env) q=if t=q then nz z s.nx else eM s.env q:=λq=>by
    simp only[eM,lk];by_cases e:t=q<;>simp[e]
   have hO:∀q,gz ((s.nx,some (.ea c []))::s.obj) q=if s.nx=q then some (.ea c [])else gz s.obj q:=λq=>by
    simp only[gz,lk];by_cases e:s.nx=q<;>simp[e]
   refine⟨⟨by show s.nx+1<=1000000;omega,by have:=hl.ge;show 1000<=s.nx+1;omega,λq k hk=>?_,λk o ho=>?_⟩,⟨λ q hq=>?_,⟨[s.nx],rfl,λk hk hnk=>?_⟩,by show s.nx<=s.nx+1;omega⟩,λP w0 O0 N β I a w hr=>?_⟩
   ·rw[he]at hk;split at hk
    ·simp only[amJ,aW]at hk;subst hk;show s.nx<s.nx+1;omega
    ·have:=hl.env q k hk;show k<s.nx+1;omega
   ·rw[hO]at ho;split at ho
    ·rename_i e;cases ho;subst e;exact⟨by show s.nx<s.nx+1;omega,by simp[d5]⟩
    ·have⟨h1,h2⟩:=hl.obj k o ho;exact⟨by show k<s.nx+1;omega,λj hj=>by have:=h2 j hj;show j<s.nx+1;omega⟩
   ·left;rw[he,aR];intro e;subst e;exact hq ht
   ·left;rw[hO,aR (by omega)]
   ·have⟨β2,Ek,hr2⟩:=hl.room hr;have⟨hS,hM⟩:=Mem.pp (i:=s.nx) (o:=bG (.ea c []:bm X)) hr2.mem Ek rfl;refine⟨ins β2 s.nx .none,hr2.defers,hr2.size,λq=>?_,?_⟩
    ·have h1:=hr2.env q;show eJ P _ w I (den (eM ((t,nz z s.nx)::s.env) q)) none _;rw[he];by_cases e:t=q
     ·subst e;rw[aY rfl];have h2:VR P _ w I (den (eM s.env t)) (a.tmps.getD t undef):=h1;rw[hn]at h2;simp only[den,VR]at h2;cases z with
      |false=>simp only[eJ,nz,ak,den,VR];exact .inl ⟨by simp[ins],h2,trivial,trivial⟩
      |true=>simp only[eJ,nz,aj,den,VR];exact .inl ⟨trivial,h2⟩
     ·rw[aR e];exact eJ.mono hS.ext hS.same hS.inc h1
    ·have e:(λ k=>(gz ((s.nx,some (.ea c []))::s.obj) k).map bG)=cK s.st.obj [(s.nx,some (bG (.ea c []:bm X)))]:=by
      funext q;simp only[cK,de.st];rw[hO];by_cases e:s.nx=q
      ·simp[e]
      ·rw[aR e,aR (Ne.symm e)]
     show Mem P w0 O0 _ I (λ k=>(gz ((s.nx,some (.ea c []))::s.obj) k).map bG) w;rw[e];exact hM
  ·exact⟨hl,Ext.refl _ s,λ_ _ _ _ β _ _ _ h=>⟨β,h⟩⟩
 ·exact⟨hl,Ext.refl _ s,λ_ _ _ _ β _ _ _ h=>⟨β,h⟩⟩
theorem Wj(y:DV X):∀(l:List (DV X))(j i:Nat),i∈aP (l.set j y)->i∈aP l\/i∈bk y
 |[],_,_,h=> .inl (by simpa using h)
 |x::l,0,i,h=>by
  simp only[List.set,aP,bf]at h ⊢;rcases h with h |h
  ·exact .inr h
  ·exact .inl (.inr h)
 |x::l,j+1,i,h=>by
  simp only[List.set,aP,bf]at h ⊢;rcases h with h |h
  ·exact .inl (.inl h)
  ·rcases Wj y l j i h with h |h
   ·exact .inl (.inr h)
   ·exact .inr h
theorem aE.set{P:Program}{β:Nat->Option cL}{w:World}{I:Nat->Prop}{y:AV}:∀(xs:List AV)(vs:List Value)(j:Nat),(∀ x v,xs[j]? =some x->VR P β w I x v->VR P β w I y v)->aE P β w I xs vs->aE P β w I (xs.set j y) vs
 |[],vs,_,_,h=>by simpa using h
 |x::xs,[],_,_,h=>by simp[aE]at h
 |x::xs,v::vs,0,hy,h=>by simp only[aE,List.set]at h ⊢;exact⟨hy x v rfl h.1,h.2⟩
 |x::xs,v::vs,j+1,hy,h=>by simp only[aE,List.set]at h ⊢;exact⟨h.1,aE.set xs vs j (λ x v e=>hy x v (by simpa using e)) h.2⟩
theorem OR.set1{P:Program}{β:Nat->Option cL}{w:World}{I:Nat->Prop}{sz:Nat}{row:List AV}{j:Nat}{y:AV}{B:cL}(hy:∀x v,row[j]? =some x->VR P β w I x v->VR P β w I y v)(h:OR P β w I ⟨sz,[row]⟩ B):OR P β w I ⟨sz,[row.set j y]⟩ B:=by
 cases B with
 |none=>simp[OR]at h
 | «at» b s n=>
  obtain⟨h1,c,e,h2,h3,h4⟩:=h;refine⟨h1,c,e,h2,h3,?_⟩;simp only[bo,List.length_set]at h4 ⊢;refine⟨h4.1,?_,trivial⟩;rw[jv]at h4 ⊢;intro i x hx;rw[List.getElem?_set]at hx;split at hx
  ·rename_i e;subst e;split at hx
   ·cases hx;rename_i hlt;obtain⟨v,g1,g2,g3⟩:=h4.2.1 j _ (dL hlt);exact⟨v,g1,hy _ v (dL hlt) g2,g3⟩
   ·cases hx
  ·exact h4.2.1 i x hx
 |mp b=>
  obtain⟨es,cl,h1,hle,h2,h3⟩:=h;refine⟨es,cl,h1,hle,λe=>?_,h3⟩;have:=h2 e
  match hes:es.toList,this with
  |[e1],this=>simp only[co]at this ⊢;exact⟨aE.set _ _ j hy this.1,trivial⟩
  |[],this=>simp[co]at this
  |_::_::_,this=>simp[co]at this
theorem ady(y:DV X):∀(l:List (DV X))(j:Nat),bL (l.set j y)=(bL l).set j (den y)
 |[],_=>by simp[bL]
 |x::l,0=>by simp[bL]
 |x::l,j+1=>by simp[bL,ady y l j]
theorem afY{ds:List Nat}{s:de X}{q j:Nat}{c:CT X.ι}(hl:Low s):Low (Fi s q j c)/\Ext (· ∈ds) s (Fi s q j c)/\Says s (Fi s q j c):=by
 unfold Fi;split
 ·rename_i sz row hq;split
  ·rename_i hn;split
   ·rename_i hlt;have hqn:q<s.nx:=(hl.obj q _ hq).1;have hrefs:∀k∈aP row,k<s.nx:=λk hk=>(hl.obj q _ hq).2 k (by simpa[d5]using hk);have hO:∀k,gz ((q,some (.cells sz [row.set j (.own s.nx 0 0)]))::(s.nx,some (.ea c []))::s.obj) k=if q=k then some (.cells sz [row.set j (.own s.nx 0 0)])else if s.nx=k then some (.ea c [])else gz s.obj k:=λk=>by
     simp only[gz,lk];by_cases e:q=k
     ·simp[e]
     ·by_cases e':s.nx=k<;>simp[e,e']
    refine⟨⟨by show s.nx+1<=1000000;omega,by have:=hl.ge;show 1000<=s.nx+1;omega,λk i hk=>by have:=hl.env k i hk;show i<s.nx+1;omega,λk o ho=>?_⟩,⟨λ _ _=> .inl rfl,⟨[q,s.nx],rfl,λk hk hnk=>?_⟩,by show s.nx<=s.nx+1;omega⟩,λP w0 O0 N β I a w hr=>?_⟩
    ·rw[hO]at ho;split at ho
     ·rename_i e;cases ho;subst e;refine⟨by show q<s.nx+1;omega,λi hi=>?_⟩;show i<s.nx+1;simp only[d5,aF,map_nil,flatten_cons,List.flatten_nil,append_nil]at hi;rcases Wj _ _ _ _ hi with h1 |h1
      ·have:=hrefs i h1;omega
      ·simp only[bk,aW]at h1;omega
     ·split at ho
      ·rename_i e;cases ho;subst e;exact⟨by show s.nx<s.nx+1;omega,by simp[d5]⟩
      ·have⟨h1,h2⟩:=hl.obj k o ho;exact⟨by show k<s.nx+1;omega,λi hi=>by have:=h2 i hi;show i<s.nx+1;omega⟩
    ·left;simp only[aN,fu,or_false,not_or]at hnk;rw[hO,aR (Ne.symm hnk.1),aR (Ne.symm hnk.2)]
    ·have⟨β2,Ek,hr2⟩:=hl.room hr;have⟨hS,hM⟩:=Mem.pp (i:=s.nx) (o:=bG (.ea c []:bm X)) hr2.mem Ek rfl;refine⟨ins β2 s.nx .none,hr2.defers,hr2.size,λk=>eJ.mono hS.ext hS.same hS.inc (hr2.env k),?_⟩;refine hM.weak λk o' ho=>?_;simp only[de.st]at ho;rw[hO]at ho;by_cases e:q=k
     ·subst e;rw[aY rfl,Option.map_some]at ho;cases ho;refine⟨bG (.cells sz [row]),by simp only[cK];rw[aR (by omega)];simp[de.st,hq],λB _ hB=>?_⟩;simp only[bG,aF,map_nil,ady]at hB ⊢;refine OR.set1 (λ x v hx hv=>?_) hB;rw[nN,List.getElem?_map,hn]at hx;cases hx;simp only[den,VR]at hv ⊢;exact .inl ⟨by simp[ins],hv,trivial,trivial⟩
     ·rw[aR e]at ho;refine⟨o',?_,λ_ _ h=>h⟩;simp only[cK];by_cases e':s.nx=k
      ·subst e';rw[aY rfl]at ho ⊢;simpa using ho
      ·rw[aR e']at ho;rw[aR (Ne.symm e')];exact ho
   ·exact⟨hl,Ext.refl _ s,λ_ _ _ _ β _ _ _ h=>⟨β,h⟩⟩
  ·exact⟨hl,Ext.refl _ s,λ_ _ _ _ β _ _ _ h=>⟨β,h⟩⟩
 ·exact⟨hl,Ext.refl _ s,λ_ _ _ _ β _ _ _ h=>⟨β,h⟩⟩
theorem MX{ds:List Nat}:∀(l:List (Nat×CT X.ι)){s:de X},Low s->(∀ p∈l,(bif Nat.ble 1000000 p.1 then !Nat.ble 1099511627776 p.1 || ds.contains (p.1 -1099511627776)else ds.contains p.1)=true)->Low (PK l s)/\Ext (· ∈ds) s (PK l s)/\Says s (PK l s)
 |[],s,hl,_=>⟨hl,Ext.refl _ s,λ_ _ _ _ β _ _ _ h=>⟨β,h⟩⟩
 |(t,c)::r,s,hl,hd=>by
  generalize hs:(bif Nat.ble 1000000 t then bif Nat.ble 1099511627776 t then zE true s (t -1099511627776) c else Fi s ((t -1000000)/4096) ((t -1000000)%4096) c else zE false s t c)=s1;have h0:Low s1/\Ext (· ∈ds) s s1/\Says s s1:=by
   have hd0:=hd (t,c) (by simp);simp only at hd0;subst hs;cases hb:Nat.ble 1000000 t with
   |true=>
    rw[hb]at hd0;cases hb2:Nat.ble 1099511627776 t with
    |true=>rw[hb2]at hd0;exact Wi hl (by simpa using hd0)
    |false=>exact afY hl
   |false=>rw[hb]at hd0;exact Wi hl (by simpa using hd0)
  obtain⟨h1,h2,h3⟩:=h0;simp only[PK,hs];obtain⟨g1,g2,g3⟩:=MX r h1 (λ p hp=>hd p (by simp[hp]));refine⟨g1,h2.trans g2,λP w0 O0 N β I a w hr=>?_⟩;have⟨β',hr'⟩:=h3 P w0 O0 N β I a w hr;exact g3 P w0 O0 N β' I a w hr'
theorem kX{A:Type}{sh:Sh X.ι}{ds:List Nat}{s0 s':de X}{k:VT (X:=X) sh.vars->Option A}{r:A}(hl0:Low s0)(hl':Low s')(hx:Ext (· ∈ds) s0 s')(h:qb sh ds s0 s' k=some r):
 ∃v,k v=some r/\Low (encS sh s0 v)/\Ext (· ∈ds) s0 (encS sh s0 v)/\Says s' (encS sh s0 v):=by
 unfold qb at h;have⟨h1,h2⟩:=eu h;obtain⟨g1,g2,g3⟩:=MX (ds:=ds) sh.AK hl' (λ p hp=>all_eq_true.1 h1 p hp);have⟨v,i1,i2,i3,i4⟩:=abo hl0 (hx.trans g2) h2;refine⟨v,i1,i2,i3,λP w0 O0 N β I a w hr=>?_⟩;have⟨β',hr'⟩:=g3 P w0 O0 N β I a w hr;exact i4 P w0 O0 N β' I a w hr'
end
def gH:Code->List Nat
 | .region _ al _=>al.toList.filterMap (·.dst)
 | .seq a b=>gH a++gH b
 | .cond _ a b=>gH a++gH b
 | .block _ b=>gH b
 | .loop b=>gH b
 |_=>[]
section
variable {X:SX}
section
variable {P:Program} {N:Nat}
def Ku{A:Type}(ds:List Nat)(s:de X)(k:Exit->de X->Option A)(r:A)(e:Exit)(σ:St):Prop:=∃s',Low s'/\Ext (· ∈ds) s s'/\σ=s'.st/\k e s'=some r
theorem ahR{c:Code}{Q Q':Exit->St->Prop}{σ:St}(h:Ev P N c Q σ)(ht:∀e σ,Q e σ->∀w0 O0 β I a w,Rel P w0 O0 N β I σ a w->∃ β' σ',Rel P w0 O0 N β' I σ' a w/\tB σ'/\Q' e σ'):Ev P N c Q' σ:=by
 intro w0 O0 β I a w hr ho;refine wp_mono (h w0 O0 β I a w hr ho) ?_;rintro e a' w' ⟨β',I',σ',h1,_,h3⟩;have⟨β2,σ2,g1,g2,g3⟩:=ht e σ' h3 w0 O0 β' I' a' w' h1;exact⟨β2,I',σ2,g1,g2,g3⟩
end
end
inductive Hn(ι:Type) where
 |z
 |f (l:List Nat)
 |s (a b:Hn ι)
 |b (a:Hn ι)
 |j (sh:Sh ι) (a:Hn ι)
 |jx (sh:Sh ι) (a:Hn ι)
 |l (head:Sh ι) (id:Nat) (ab:Sh ι) (a:Hn ι)
 |lx (head:Sh ι) (id:Nat) (ab:Sh ι) (a:Hn ι)
 |rg (head:Sh ι) (a:Hn ι)
 |un (a r:Hn ι)
def Hn.fz{ι:Type}:Hn ι->List Nat
 | .f is=>is
 |_=>[]
def Hn.fst{ι:Type}:Hn ι->Hn ι
 | .s a _=>a
 |_=> .z
def Hn.snd{ι:Type}:Hn ι->Hn ι
 | .s _ y=>y
 |_=> .z
def Hn.sub{ι:Type}:Hn ι->Hn ι
 | .b a=>a
 |_=> .z
def iter{V O:Type}(step:V->Option (V⊕O)):Nat->V->Option O
 | 0,_=>none
 |n+1,v=>(step v).bind λr=>match r with
  | .inl v=>iter step n v
  | .inr o=>some o
def Ln{X:SX}{A:Type}(body:Hn X.ι->de X->(Exit->de X->Option A)->Option A):Hn X.ι->de X->(Exit->de X->Option A)->Option A
 | .un a r,s,k=>body a s λe s'=>match e with
  | .normal=>Ln body r s' k
  |e=>k e s'
 |_,_,_=>none
def dx{W A:Type}(o:Option (W⊕A))(f:W->Option A):Option A:=o.bind λr=>match r with
 | .inl w=>f w
 | .inr a=>some a
noncomputable def both{A:Type}(x y:Option A):Option A:=open Classical in if x=y then x else none
theorem aiY{A:Type}{x y:Option A}{r:A}(h:both x y=some r):x=some r/\y=some r:=by
 unfold both at h;split at h
 ·rename_i e;exact⟨h,e ▸ h⟩
 ·cases h
theorem aiZ{A:Type}(x:Option A):both x x=x:=by simp[both]
section
variable {X:SX}
def Z7(ds:List Nat)(s:de X)(h:Hn X.ι){A:Type}(k:Exit->de X->Option A)(body:(B:Type)->Hn X.ι->(Exit->de X->Option B)->Option B):Option A:=
 match h with
 | .j sh h'=>(body (VT (X:=X) sh.vars) h' λe s'=>match e with
  | .normal=>qb sh ds s s' some
  |_=>none).bind λv=>k .normal (encS sh s v)
 | .jx sh h'=>dx (body (VT (X:=X) sh.vars⊕A) h' λe s'=>match e with
  | .normal=>qb sh ds s s' λv=>some (.inl v)
  |e=>(k e s').map .inr) λv=>k .normal (encS sh s v)
 |h=>body A h k
variable (Γ:FuncId->Option (bx X)) (T:eb) (am:TypeId->Option (CT X.ι)) (N n:Nat)
noncomputable def run:Code->(A:Type)->Hn X.ι->de X->(Exit->de X->Option A)->Option A
 | .skip,_,_,s,k=>k .normal s
 | .region id al d,A,h,s,k=>Z7 (gH (.region id al d)) s h k λ_ h k=>X2 Γ h.fz T am N al d s (k .normal)
 | .seq x y,A,h,s,k=>Z7 (gH (.seq x y)) s h k λB h k=>run x B h.fst s λe s'=>match e with
  | .normal=>run y B h.snd s' k
  |e=>k e s'
 | .cond c x y,A,h,s,k=>Z7 (gH (.cond c x y)) s h k λB h k=>match Yz (eM s.env) c with
  | .c .bool v=>bif v then run x B h.fst s k else run y B h.snd s k
  | .ub=>both (run x B h.fst s k) (run y B h.snd s k)
  |_=>none
 | .block id b,A,h,s,k=>Z7 (gH (.block id b)) s h k λB h k=>run b B h.sub s λe s'=>match e with
  | .exit j=>if j=id then k .normal s' else k (.exit j) s'
  |e=>k e s'
 | .loop b,A,h,s,k=>match h with
  | .l hd id ab h'=>qb hd (gH b) s s λv0=>(iter (λ v=>run b (VT (X:=X) hd.vars⊕VT (X:=X) ab.vars) h' (encS hd s v) λe s'=>match e with
   | .normal=>qb hd (gH b) s s' λv=>some (.inl v)
   | .exit j=>if j=id then qb ab (gH b) s s' λw=>some (.inr w)else none
   |_=>none) n v0).bind λw=>k (.exit id) (encS ab s w)
  | .lx hd id ab h'=>qb hd (gH b) s s λv0=>dx (iter (λ v=>run b (VT (X:=X) hd.vars⊕(VT (X:=X) ab.vars⊕A)) h' (encS hd s v) λe s'=>match e with
   | .normal=>qb hd (gH b) s s' λv=>some (.inl v)
   | .exit j=>if j=id then qb ab (gH b) s s' λw=>some (.inr (.inl w))else(k (.exit j) s').map λa=> .inr (.inr a)
   |e=>(k e s').map λa=> .inr (.inr a)) n v0) λw=>k (.exit id) (encS ab s w)
  | .un a r=>Ln (λ h s k=>run b A h s k) (.un a r) s k
  |_=>none
 | .exit id,_,_,s,k=>k (.exit id) s
 | .ret,_,_,s,k=>k .ret s
 | .label _,_,_,s,k=>k .normal s
 |_,_,_,_,_=>none
section
variable {Γ:FuncId->Option (bx X)} {T:eb} {am:TypeId->Option (CT X.ι)} {N n:Nat} {P:Program}
theorem Ext.wide{ds ds':Nat->Prop}{a b:de X}(h:Ext ds a b)(hd:∀t,ds t->ds' t):Ext ds' a b:=⟨λ t ht=>h.env t λhh=>ht (hd t hh),h.obj,h.nx⟩
theorem map_inr{α β:Type}{o:Option β}{r:α⊕β}(h:o.map Sum.inr=some r):∃b,o=some b/\r= .inr b:=by
 cases o with
 |none=>cases h
 |some b=>injection h with h;exact⟨b,rfl,h.symm⟩
theorem DZ{c:Code}{s:de X}{h:Hn X.ι}{A:Type}{k:Exit->de X->Option A}{r:A}{body:(B:Type)->Hn X.ι->(Exit->de X->Option B)->Option B}(hl:Low s)
 (hb:∀(B:Type)(h:Hn X.ι)(k:Exit->de X->Option B)(r:B),body B h k=some r->Ev P N c (Ku (gH c) s k r) s.st) (hr:Z7 (gH c) s h k body=some r):Ev P N c (Ku (gH c) s k r) s.st:=by
 unfold Z7 at hr;split at hr
 ·rename_i sh h';rw[ai]at hr;obtain⟨v,h1,hr⟩:=hr;refine ahR (hb _ _ _ _ h1) ?_;rintro e σ ⟨s',g1,g2,rfl,g4⟩ w0 O0 β I a w hrel;cases e<;>simp only[reduceCtorEq]at g4;have⟨v',i1,i2,i3,i4⟩:=kX hl g1 g2 g4;cases i1;have⟨β',i5⟩:=i4 P w0 O0 N β I a w hrel;exact⟨β',_,i5,i2.old,_,i2,i3,rfl,hr⟩
 ·rename_i sh h';unfold dx at hr;have⟨v,h1,hr⟩:=ai.1 hr;refine ahR (hb _ _ _ _ h1) ?_;rintro e σ ⟨s',g1,g2,rfl,g4⟩ w0 O0 β I a w hrel;have other:(k e s').map Sum.inr=some v->∃ β' σ',Rel P w0 O0 N β' I σ' a w/\tB σ'/\Ku (gH c) s k r e σ':=by
   intro hm;obtain⟨b,hk,rfl⟩:=map_inr hm;cases hr;exact⟨β,_,hrel,g1.old,s',g1,g2,rfl,hk⟩
  cases e with
  |normal=>
   simp only at g4;have⟨v',i1,i2,i3,i4⟩:=kX hl g1 g2 g4;cases i1;have⟨β',i5⟩:=i4 P w0 O0 N β I a w hrel;exact⟨β',_,i5,i2.old,_,i2,i3,rfl,hr⟩
  |_=>exact other g4
 ·exact hb _ _ _ _ hr
theorem ai0{id:Nat}{al:Array Oper}{d:Bool}{t:Nat}(h:Rt al t):t∈gH (.region id al d):=by
 obtain⟨j,op,h1,h2⟩:=h;simp only[gH,List.mem_filterMap];exact⟨op,by rw[<- Array.getElem?_toList]at h1;exact dh h1,h2⟩
theorem Wl{b:Code}{s:de X}{hd:Sh X.ι}{O:Type}{step:VT (X:=X) hd.vars->Option (VT (X:=X) hd.vars⊕O)}{kb:Exit->de X->Option (VT (X:=X) hd.vars⊕O)}{Q:Exit->St->Prop}(hl:Low s)
 (hkn:∀s',kb .normal s'=qb hd (gH b) s s' λv=>some (.inl v))
 (hstep:∀v r,Low (encS hd s v)->step v=some r->Ev P N b (Ku (gH b) (encS hd s v) kb r) (encS hd s v).st)
 {o:O} (hQ:∀e s',e≠ .normal->Low s'->Ext (· ∈gH b) s s'->kb e s'=some (.inr o)->∀w0 O0 β I a w,Rel P w0 O0 N β I s'.st a w->∃ β' σ',Rel P w0 O0 N β' I σ' a w/\tB σ'/\Q e σ')
 (hno:∀e s' v,e≠ .normal->kb e s'=some (.inl v)->False) (n:Nat) (v0:VT (X:=X) hd.vars) (h:iter step n v0=some o) (hl0:Low (encS hd s v0)) (hx0:Ext (· ∈gH b) s (encS hd s v0)):Ev P N (.loop b) Q (encS hd s v0).st:=by
 intro w0 O0 β I a w hr ho;refine Zy (λ n a w=>∃ β I v,Rel P w0 O0 N β I (encS hd s v).st a w/\iter step n v=some o/\Low (encS hd s v)/\Ext (· ∈gH b) s (encS hd s v)) (λ a w ⟨_,_,v,_,h,_⟩=>by cases h) ?_ n a w ⟨β,I,v0,hr,h,hl0,hx0⟩;rintro n a w ⟨β,I,v,hr,hi,hlv,hxv⟩;simp only[iter]at hi;have⟨r,h1,hi⟩:=ai.1 hi;refine wp_mono (hstep v r hlv h1 w0 O0 β I a w hr hlv.old) ?_;rintro e a' w' ⟨β',I',σ',g1,_,s',g2,g3,rfl,g4⟩;have hxs:=hxv.trans g3;by_cases he:e= .normal
 ·subst he;rw[hkn]at g4;have⟨v',i1,i2,i3,i4⟩:=kX hl g2 hxs g4;cases i1;have⟨β2,i5⟩:=i4 P w0 O0 N β' I' a' w' g1;exact⟨β2,I',v',i5,hi,i2,i3⟩
 ·cases r with
  |inl v'=>exact(hno e s' v' he g4).elim
  |inr o'=>
   cases hi;have⟨β2,σ2,i1,i2,i3⟩:=hQ e s' he g2 hxs g4 w0 O0 β' I' a' w' g1;cases e with
   |normal=>exact(he rfl).elim
   |_=>exact⟨β2,I',σ2,i1,i2,i3⟩
theorem Wm{A:Type}{sh:Sh X.ι}{ds:List Nat}{s0 s':de X}{k:VT (X:=X) sh.vars->Option A}{r:A}(h:qb sh ds s0 s' k=some r):∃v,k v=some r:=by
 unfold qb at h;have⟨_,h⟩:=eu h;unfold On at h;have⟨m1,h1,h⟩:=ai.1 h;have⟨m,h2,h⟩:=ai.1 h;have⟨h3,h⟩:=eu h;have⟨v,h4,h⟩:=ai.1 h;exact⟨v,(pq h).2⟩
theorem adz{α β γ:Type}{o:Option γ}{r:α⊕(β⊕γ)}(h:o.map (λ a=>Sum.inr (Sum.inr a))=some r):∃b,o=some b/\r= .inr (.inr b):=by
 cases o with
 |none=>cases h
 |some b=>injection h with h;exact⟨b,rfl,h.symm⟩
def Hn.len{ι:Type}:Hn ι->Nat
 | .un _ r=>r.len+1
 |_=>0
theorem ai1{b:Code}{A:Type}{body:Hn X.ι->de X->(Exit->de X->Option A)->Option A}{s0:de X}{k:Exit->de X->Option A}{r:A}
 (hb:∀(h:Hn X.ι)(s:de X)(k:Exit->de X->Option A)(r:A),Low s->body h s k=some r->Ev P N b (Ku (gH b) s k r) s.st)
 {h:Hn X.ι} (hl:Low s0) (hr:Ln body h s0 k=some r):Ev P N (.loop b) (Ku (gH (.loop b)) s0 k r) s0.st:=by
 refine amt (λ n σ=>∃(h:Hn X.ι)(s:de X),σ=s.st/\h.len=n/\Low s/\Ext (· ∈gH b) s0 s/\Ln body h s k=some r) ?_ ?_ h.len ⟨h,s0,rfl,rfl,hl,Ext.refl _ s0,hr⟩
 ·rintro σ ⟨h,s,_,h1,_,_,h2⟩;cases h<;>first |cases h2 |cases h1
 ·rintro n σ ⟨h,s,rfl,h1,h2,h3,h4⟩;cases h<;>try cases h4
  rename_i a q;simp only[Hn.len,Nat.add_right_cancel_iff]at h1;refine(hb a s _ r h2 h4).mono ?_;rintro e σ ⟨s',g1,g2,rfl,g4⟩;have hx:=h3.trans g2;cases e with
  |normal=>exact⟨q,s',rfl,h1,g1,hx,g4⟩
  |_=>exact⟨s',g1,hx,rfl,g4⟩
theorem kL(hT:eZ P T)(hm:P.follows .mixedOrders=true)(hΓ:sC P Γ):∀(c:Code)(A:Type)(h:Hn X.ι)(s:de X)(k:Exit->de X->Option A)(r:A),Low s->run Γ T am N n c A h s k=some r->Ev P N c (Ku (gH c) s k r) s.st
 | .skip,A,h,s,k,r,hl,hr=>amq ⟨s,hl,Ext.refl _ s,rfl,hr⟩
 | .exit id,A,h,s,k,r,hl,hr=>amr ⟨s,hl,Ext.refl _ s,rfl,hr⟩
 | .ret,A,h,s,k,r,hl,hr=>an4 ⟨s,hl,Ext.refl _ s,rfl,hr⟩
 | .label l,A,h,s,k,r,hl,hr=>aki ⟨s,hl,Ext.refl _ s,rfl,hr⟩
 | .region id al d,A,h,s,k,r,hl,hr=>by
  refine DZ hl (λ B h k r hb=>?_) hr;have⟨s',g1,g2,g3,g4⟩:=abm (id:=id) hT hm hΓ hl hb;exact g4.mono λe σ ⟨he,hσ⟩=>⟨s',g2,g3.wide λt ht=>ai0 ht,hσ,by rw[he];exact g1⟩
 | .seq x y,A,h,s,k,r,hl,hr=>by
  refine DZ hl (λ B h k r hb=>?_) hr;refine an5 ((kL hT hm hΓ x B _ s _ r hl hb).mono ?_);rintro e σ ⟨s',g1,g2,rfl,g4⟩;have wide:Ext (· ∈gH (.seq x y)) s s':=g2.wide λt ht=>by simp[gH,ht]
  cases e with
  |normal=>
   exact(kL hT hm hΓ y B _ s' k r g1 g4).mono λe σ ⟨s2,i1,i2,i3,i4⟩=>⟨s2,i1,wide.trans (i2.wide λt ht=>by simp[gH,ht]),i3,i4⟩
  |_=>exact⟨s',g1,wide,rfl,g4⟩
 | .cond c x y,A,h,s,k,r,hl,hr=>by
  refine DZ hl (λ B h k r hb=>?_) hr;split at hb
  ·rename_i v hv;refine ams v (λ _ _=>rfl) ?_ ?_
   ·have:=Vm (eM s.env) c;rw[hv]at this;exact this.symm
   ·cases v with
    |true=>exact(kL hT hm hΓ x B _ s k r hl hb).mono λe σ ⟨s2,i1,i2,i3,i4⟩=>⟨s2,i1,i2.wide λt ht=>by simp[gH,ht],i3,i4⟩
    |false=>exact(kL hT hm hΓ y B _ s k r hl hb).mono λe σ ⟨s2,i1,i2,i3,i4⟩=>⟨s2,i1,i2.wide λt ht=>by simp[gH,ht],i3,i4⟩
  ·rename_i hv;have⟨hb1,hb2⟩:=aiY hb;refine afv (λ _ _=>rfl) ?_ ?_ ?_
   ·have:=Vm (eM s.env) c;rw[hv]at this;exact this.symm
   ·exact(kL hT hm hΓ x B _ s k r hl hb1).mono λe σ ⟨s2,i1,i2,i3,i4⟩=>⟨s2,i1,i2.wide λt ht=>by simp[gH,ht],i3,i4⟩
   ·exact(kL hT hm hΓ y B _ s k r hl hb2).mono λe σ ⟨s2,i1,i2,i3,i4⟩=>⟨s2,i1,i2.wide λt ht=>by simp[gH,ht],i3,i4⟩
  ·cases hb
 | .block id b,A,h,s,k,r,hl,hr=>by
  refine DZ hl (λ B h k r hb=>?_) hr;refine akj ((kL hT hm hΓ b B _ s _ r hl hb).mono ?_);rintro e σ ⟨s',g1,g2,rfl,g4⟩;cases e with
  |exit j=>
   simp only[XS];simp only at g4;split
   ·rw[aY ‹_›]at g4;exact⟨s',g1,g2,rfl,g4⟩
   ·rw[aR ‹_›]at g4;exact⟨s',g1,g2,rfl,g4⟩
  |_=>exact⟨s',g1,g2,rfl,g4⟩
 | .loop b,A,h,s,k,r,hl,hr=>by
  simp only[run]at hr;split at hr
  ·rename_i hd id ab h';obtain⟨v0,h1,h2,h3,h4⟩:=kX hl hl (Ext.refl _ s) hr;rw[ai]at h1;obtain⟨w,h5,h6⟩:=h1;intro w0 O0 β I a ww hrel ho;have⟨β',hrel'⟩:=h4 P w0 O0 N β I a ww hrel;refine Wl (Q:=Ku (gH (.loop b)) s k r) hl (λ s'=>rfl) (λ v r hlv hs=>kL hT hm hΓ b _ h' (encS hd s v) _ r hlv hs) (λ e s' he hls hxs hk=>?_) (λ e s' v he hk=>?_) n v0 h5 h2 h3 w0 O0 β' I a ww hrel' h2.old
   ·cases e with
    |exit j=>
     simp only at hk;split at hk
     ·rename_i hj;subst hj;have⟨w',i1,i2,i3,i4⟩:=kX hl hls hxs hk;injection i1 with i1;cases i1;intro w0 O0 β I a ww hrel;have⟨β',hrel'⟩:=i4 P w0 O0 N β I a ww hrel;exact⟨β',_,hrel',i2.old,_,i2,i3,rfl,h6⟩
     ·cases hk
    |normal=>exact(he rfl).elim
    |_=>cases hk
   ·cases e with
    |exit j=>
     simp only at hk;split at hk
     ·have⟨w',i1⟩:=Wm hk;injection i1 with i1;cases i1
     ·cases hk
    |normal=>exact he rfl
    |_=>cases hk
  ·rename_i hd id ab h';obtain⟨v0,h1,h2,h3,h4⟩:=kX hl hl (Ext.refl _ s) hr;unfold dx at h1;rw[ai]at h1;obtain⟨w,h5,h6⟩:=h1;intro w0 O0 β I a ww hrel ho;have⟨β',hrel'⟩:=h4 P w0 O0 N β I a ww hrel;refine Wl (Q:=Ku (gH (.loop b)) s k r) hl (λ s'=>rfl) (λ v r hlv hs=>kL hT hm hΓ b _ h' (encS hd s v) _ r hlv hs) (λ e s' he hls hxs hk=>?_) (λ e s' v he hk=>?_) n v0 h5 h2 h3 w0 O0 β' I a ww hrel' h2.old
   ·intro w0 O0 β I a ww hrel;have other:(k e s').map (λ a=>Sum.inr (Sum.inr a))=some (Sum.inr w:VT (X:=X) hd.vars⊕(VT (X:=X) ab.vars⊕A))->∃ β' σ',Rel P w0 O0 N β' I σ' a ww/\tB σ'/\Ku (gH (.loop b)) s k r e σ':=by
     intro hm;have⟨q,hq,hr⟩:=adz hm;cases hr;cases h6;exact⟨β,_,hrel,hls.old,s',hls,hxs,rfl,hq⟩
    cases e with
    |exit j=>
     simp only at hk;split at hk
     ·rename_i hj;subst hj;have⟨w',i1,i2,i3,i4⟩:=kX hl hls hxs hk;injection i1 with i1;cases i1;have⟨β',hrel'⟩:=i4 P w0 O0 N β I a ww hrel;exact⟨β',_,hrel',i2.old,_,i2,i3,rfl,h6⟩
     ·exact other hk
    |normal=>exact(he rfl).elim
    |_=>exact other hk
   ·have other:(k e s').map (λ a=>Sum.inr (Sum.inr a))=some (Sum.inl v:VT (X:=X) hd.vars⊕(VT (X:=X) ab.vars⊕A))->False:=by
     intro hm;have⟨q,hq,hr⟩:=adz hm;cases hr
    cases e with
    |exit j=>
     simp only at hk;split at hk
     ·have⟨w',i1⟩:=Wm hk;injection i1 with i1;cases i1
     ·exact other hk
    |normal=>exact he rfl
    |_=>exact other hk
  ·exact ai1 (body:=λh s k=>run Γ T am N n b A h s k) (λ h s k r hl h1=>kL hT hm hΓ b A h s k r hl h1) hl hr
  ·cases hr
 | .rangeFunc ..,_,_,_,_,_,_,hr=>by cases hr
 | .scope _,_,_,_,_,_,_,hr=>by cases hr
 | .goto _,_,_,_,_,_,_,hr=>by cases hr
 | .refuse _,_,_,_,_,_,_,hr=>by cases hr
end
end
section
variable {X:SX}
def jE:Nat->(l:List (AT X.ι))->iJ X l->List (DV X)
 |_,[],_=>[]
 |n,.d c::l,a=> .c c a.1::jE n l a.2
 |n,.ref c::l,a=> .rp c a.1 0::jE n l a.2
 |n,.d8 as r::l,a=> .d8 as r a.1::jE n l a.2
 |n,.mut _::l,a=> .own n 0 (List.length a.1)::jE (n+1) l a.2
 |n,.ju _::l,a=> .ptr n 0 0::jE (n+1) l a.2
 |n,.nil::l,a=> .nil::jE n l a.2
def AY:(l:List (AT X.ι))->iJ X l->List (bm X)
 |[],_=>[]
 | .mut c::l,a=> .ea c a.1::AY l a.2
 | .ju c::l,a=> .cells (CT.sz X c) [uT c a.1]::AY l a.2
 | .d _::l,a=>AY l a.2
 | .ref _::l,a=>AY l a.2
 | .d8 _ _::l,a=>AY l a.2
 | .nil::l,a=>AY l a.2
theorem rT:∀(n:Nat)(l:List (AT X.ι))(a:iJ X l),bL (jE n l a)=dP n l a
 |_,[],_=>rfl
 |n,.d c::l,a=>by simp only[jE,bL,den,dP,rT n l a.2]
 |n,.ref c::l,a=>by simp only[jE,bL,den,dP,rT n l a.2]
 |n,.d8 as r::l,a=>by simp only[jE,bL,dP,rT n l a.2]
 |n,.mut c::l,a=>by simp only[jE,bL,den,dP,rT (n+1) l a.2]
 |n,.ju c::l,a=>by simp only[jE,bL,den,dP,rT (n+1) l a.2]
 |n,.nil::l,a=>by simp only[jE,bL,den,dP,rT n l a.2]
theorem wm:∀(l:List (AT X.ι))(a:iJ X l),(AY l a).map bG=(p8 l a).map gA
 |[],_=>rfl
 | .d _::l,a=>wm l a.2
 | .ref _::l,a=>wm l a.2
 | .d8 _ _::l,a=>wm l a.2
 | .nil::l,a=>wm l a.2
 | .mut c::l,a=>by simp only[AY,p8,aF,wm l a.2];rfl
 | .ju c::l,a=>by simp only[AY,p8,aF,wm l a.2,bG,gA,rq,aI,map_nil,oK]
theorem oM:∀(n:Nat)(l:List (AT X.ι))(a:iJ X l),∀k∈aP (jE n l a),k<n+qa l
 |_,[],_,k,hk=>by simp[jE,aP]at hk
 |n,.d c::l,a,k,hk=>by
  have:=oM n l a.2 k (by simpa[jE,aP,bk]using hk);simpa[qa,AT.im]using this
 |n,.ref c::l,a,k,hk=>by
  have:=oM n l a.2 k (by simpa[jE,aP,bk]using hk);simpa[qa,AT.im]using this
 |n,.d8 as r::l,a,k,hk=>by
  have:=oM n l a.2 k (by simpa[jE,aP,bk]using hk);simpa[qa,AT.im]using this
 |n,.nil::l,a,k,hk=>by
  have:=oM n l a.2 k (by simpa[jE,aP,bk]using hk);simpa[qa,AT.im]using this
 |n,.mut c::l,a,k,hk=>by
  simp only[jE,aP,bk,List.singleton_append,aN]at hk;simp only[qa,AT.im,if_true];rcases hk with rfl |hk
  ·omega
  ·have:=oM (n+1) l a.2 k hk;omega
 |n,.ju c::l,a,k,hk=>by
  simp only[jE,aP,bk,List.singleton_append,aN]at hk;simp only[qa,AT.im,if_true];rcases hk with rfl |hk
  ·omega
  ·have:=oM (n+1) l a.2 k hk;omega
theorem kY:∀(n:Nat)(l:List (AT X.ι))(a:iJ X l),(dP n l a).length=l.length
 |_,[],_=>rfl
 |n,.d c::l,a=>by simp only[dP,bI,kY n l a.2]
 |n,.ref c::l,a=>by simp only[dP,bI,kY n l a.2]
 |n,.d8 as r::l,a=>by simp only[dP,bI,kY n l a.2]
 |n,.mut c::l,a=>by simp only[dP,bI,kY (n+1) l a.2]
 |n,.ju c::l,a=>by simp only[dP,bI,kY (n+1) l a.2]
 |n,.nil::l,a=>by simp only[dP,bI,kY n l a.2]
theorem kZ:∀(l:List (AT X.ι))(a:iJ X l),(p8 l a).length=qa l
 |[],_=>rfl
 | .d _::l,a=>by simpa[qa,AT.im,p8]using kZ l a.2
 | .ref _::l,a=>by simpa[qa,AT.im,p8]using kZ l a.2
 | .d8 _ _::l,a=>by simpa[qa,AT.im,p8]using kZ l a.2
 | .nil::l,a=>by simpa[qa,AT.im,p8]using kZ l a.2
 | .mut _::l,a=>by simp only[p8,bI,kZ l a.2,qa,AT.im,if_true];omega
 | .ju _::l,a=>by simp only[p8,bI,kZ l a.2,qa,AT.im,if_true];omega
def wA(l:List (AT X.ι))(a:iJ X l):de X:=⟨(List.range l.length).zip (jE 0 l a),(List.range (AY l a).length).zip ((AY l a).map some),1000,[]⟩
theorem ahS(l:List (AT X.ι))(a:iJ X l)(k:Nat):gz (wA l a).obj k=(AY l a)[k]? :=by
 have h:(List.range (AY l a).length).zip ((AY l a).map some)=(List.range ((AY l a).map some).length).zip ((AY l a).map some):=by rw[length_map]
 simp only[wA,gz];rw[h,AO,List.getElem?_map];cases (AY l a)[k]?<;>rfl
theorem aoj(l:List (AT X.ι))(a:iJ X l):(wA l a).st=ro.st ⟨(List.range (vY l a).length).zip (vY l a),(List.range ((p8 l a).map gA).length).zip ((p8 l a).map gA)⟩:=by
 have ho:∀k,((gz (wA l a).obj k).map bG)=lk ((List.range ((p8 l a).map gA).length).zip ((p8 l a).map gA)) k:=by
  intro k;rw[AO,ahS,<- wm,List.getElem?_map]
 simp only[de.st,ro.st,St.mk.injEq,and_true];refine⟨?_,funext ho⟩;funext t;simp only[wA];rw[kY,vY,<- rT];generalize jE 0 l a=ds;have:∀(ks:List Nat)(ds:List (DV X)),den (eM (ks.zip ds) t)=(lk (ks.zip (bL ds)) t).getD .undef:=by
  intro ks
  induction ks with
  |nil=>intro ds;rfl
  |cons k ks ih=>
   intro ds;cases ds with
   |nil=>rfl
   |cons d ds=>
    simp only[List.zip_cons_cons,eM,lk,bL];by_cases h:k=t
    ·simp[h]
    ·simp only[aR h];exact ih ds
 exact this _ _
theorem amK(l:List (AT X.ι))(a:iJ X l)(hm:qa l<=1000):Low (wA l a):=by
 refine⟨by show 1000<=1000000;decide,aC _,λt k hk=>?_,λk o ho=>?_⟩
 ·have h0:=oM 0 l a;simp only[wA]at hk;generalize jE 0 l a=ds at hk h0;have:∀(ks:List Nat)(ds:List (DV X)),(∀ k∈aP ds,k<0+qa l)->∀k∈bk (eM (ks.zip ds) t),k<1000:=by
   intro ks
   induction ks with
   |nil=>intro ds _ k hk;simp[eM,lk,bk]at hk
   |cons k ks ih=>
    intro ds h j hj;cases ds with
    |nil=>simp[eM,lk,bk]at hj
    |cons d ds=>
     simp only[List.zip_cons_cons,eM,lk]at hj;by_cases e:k=t
     ·simp only[aY e,Option.getD_some]at hj;have:=h j (by simp[aP,hj]);omega
     ·simp only[aR e]at hj;exact ih ds (λ k hk=>h k (by simp[aP,hk])) j hj
  exact this _ _ h0 k hk
 ·rw[ahS]at ho;have hl:(AY l a).length=qa l:=by rw[<- kZ l a];simpa using congrArg List.length (wm l a)
  refine⟨by have:=(dF.1 ho).1;show k<1000;omega,λj hj=>?_⟩;have hz:∀(l:List (AT X.ι))(a:iJ X l),∀o∈AY l a,d5 o=[]:=by
   intro l
   induction l with
   |nil=>intro a o ho;simp[AY]at ho
   |cons q l ih=>
    intro a o ho;cases q<;>simp only[AY,aN]at ho
    case «mut» c=>rcases ho with rfl |ho;rfl;exact ih _ o ho
    case ju c=>
     rcases ho with rfl |ho
     ·have h1:aP (uT c a.1)=[]:=by
       rw[<- ic,oK];generalize CT.row X.toSE c a.1=r
       induction r with
       |nil=>rfl
       |cons y ys ih=>simp only[aF,eU,refs,ih,bQ]
      simp[d5,h1]
     ·exact ih _ o ho
    all_goals exact ih _ o ho
  rw[hz l a o (dh ho)]at hj;cases hj
variable (T:eb)
def F0(s:de X):ResultVar->Option (DV X)
 | .tmp t=>some (eM s.env t)
 | .cell a t=>(T t).bind λti=>match eM s.env a with
  | .ptr kk row aa=>(gz s.obj kk).bind λo=>match o with
   | .cells _ rows=>(rows[row]?).bind λr=>GV ti.agg ti.size ((r.drop aa).take ti.size)
   |_=>none
  |_=>none
def Wn(s:de X):List ResultVar->Option (List (DV X))
 |[]=>some []
 |r::rs=>(F0 T s r).bind λv=>(Wn s rs).bind λvs=>some (v::vs)
theorem akI{s:de X}{r:ResultVar}{d:DV X}(h:F0 T s r=some d):Pm T s.st r=some (den d):=by
 cases r with
 |tmp t=>simp only[F0,aA]at h;subst h;rfl
 |cell a t=>
  simp only[F0]at h;rw[ai]at h;obtain⟨ti,h1,h⟩:=h;split at h
  ·rename_i kk row aa hp;rw[ai]at h;obtain⟨o,h2,h⟩:=h;split at h
   ·rename_i sz rows;have⟨q,h3,h⟩:=ai.1 h;have h4:=Ck h;rw[j5]at h4
    show(match Uj T t (den (eM s.env a)) (λ k=>(gz s.obj k).map bG)with
     |some ⟨v,[],[]⟩=>some v
     |_=>none)=some (den d)
    simp only[Uj,Ki,h1,af,hp,den,h2,Option.map_some,bG,List.getElem?_map,h3,h4,pv]
   ·cases h
  ·cases h
def YH{A:Type}(s:de X):List ResultVar->(List (DV X)->Option A)->Option A
 |[],k=>k []
 | .tmp t::rs,k=>YH s rs λvs=>k (eM s.env t::vs)
 | .cell a t::rs,k=>(T t).bind λti=>match eM s.env a with
  | .ptr kk row aa=>(gz s.obj kk).bind λo=>match o with
   | .cells _ rows=>(rows[row]?).bind λr=>(GV ti.agg ti.size ((r.drop aa).take ti.size)).bind λv=>YH s rs λvs=>k (v::vs)
   |_=>none
  |_=>none
theorem Jq{A:Type}{s:de X}:∀{rs:List ResultVar}{k:List (DV X)->Option A}{r:A},YH T s rs k=some r->∃ds,Wn T s rs=some ds/\k ds=some r
 |[],k,r,h=>⟨[],rfl,h⟩
 | .tmp t::rs,k,r,h=>by
  have⟨ds,h1,h2⟩:=Jq (rs:=rs) h;exact⟨_,by simp only[Wn,F0,h1,af],h2⟩
 | .cell a t::rs,k,r,h=>by
  simp only[YH]at h;rw[ai]at h;obtain⟨ti,h1,h⟩:=h;split at h
  ·rename_i kk row aa hp;have⟨o,h2,h⟩:=ai.1 h;split at h
   ·have⟨q,h3,h⟩:=ai.1 h;have⟨v,h4,h⟩:=ai.1 h;have⟨ds,h5,h6⟩:=Jq (rs:=rs) h;exact⟨_,by simp only[Wn,F0,h1,hp,h2,h3,h4,h5,af],h6⟩
   ·cases h
  ·cases h
theorem PL{s:de X}:∀{rs:List ResultVar}{ds:List (DV X)},Wn T s rs=some ds->ni T s.st rs=some (bL ds)
 |[],ds,h=>by simp only[Wn,aA]at h;subst h;rfl
 |r::rs,ds,h=>by
  simp only[Wn]at h;have⟨d,h1,h⟩:=ai.1 h;have⟨ds',h2,h⟩:=ai.1 h;cases h;simp only[ni,akI T h1,PL h2,af,bL]
def PN:List (RT X.ι)->List (DV X)->Option Nat
 | .mu _::l,ds=>PN l ds
 | .mr _::l,ds=>PN l ds
 | .mv::l,ds=>PN l ds
 | .fresh _::l,d::ds=>match d with
  | .own k _ _=>some k
  |_=>PN l ds
 | .d _::l,_::ds=>PN l ds
 | .whole _::l,_::ds=>PN l ds
 |_,_=>none
def yf:List (RT X.ι)->List (DV X)->List (Nat×Nat)
 | .mu _::l,ds=>yf l ds
 | .mr _::l,ds=>yf l ds
 | .mv::l,ds=>yf l ds
 | .whole j::l,d::ds=>match d with
  | .own _ _ len=>(j,len)::yf l ds
  |_=>yf l ds
 | .d _::l,_::ds=>yf l ds
 | .fresh _::l,_::ds=>yf l ds
 |_,_=>[]
def wo:Nat->List (RT X.ι)->List Nat
 |_,[]=>[]
 |n,.mu _::l=>n::wo (n+1) l
 |n,.mr _::l=>n::wo (n+1) l
 |n,.mv::l=>wo (n+1) l
 |n,_::l=>wo n l
def rS:Nat->List (RT X.ι)->List Nat
 |_,[]=>[]
 |n,.mu _::l=>n::rS (n+1) l
 |n,.mr _::l=>rS (n+1) l
 |n,.mv::l=>rS (n+1) l
 |n,_::l=>rS n l
def Kf(bad:List Nat)(ks:List Nat):Bool:=ks.all λk=>!bad.contains k
def abp(get:Nat->Option (bm X))(row:List (DV X))(c:CT X.ι):Option (CT.T X.toSE c×List Bool):=
 match c with
 | .st i=>(wQ get row (X.cQ i)).bind λh=>some (X.make i h.1,h.2)
 |c=>match row with
  |[d]=>Rm get d c
  |_=>none
def Hg(get:Nat->Option (bm X))(c:CT X.ι):List (List (DV X))->Option (List (CT.T X.toSE c)×List Bool)
 |[]=>some ([],[])
 |r::rs=>(abp get r c).bind λx=>(Hg get c rs).bind λy=>some (x.1::y.1,x.2++y.2)
def MZ(get:Nat->Option (bm X))(bad ri:List Nat)(fk:Option Nat)(wl:List (Nat×Nat))(n:Nat):(q:RT X.ι)->List (DV X)->Option ((RT.T X q×List Bool)×List (DV X))
 | .d c,d::ds=>if Kf bad (bk d)then(Fh get d c).bind λx=>some (x,ds)else none
 | .fresh e,d::ds=>match d with
  | .nil=>some (([],[]),ds)
  | .own k 0 len=>if fk=some k then(get k).bind λo=>match o with
   | .ea b l=>(jy (.sl b) (.sl e) l).bind λ(l:List (CT.T X.toSE e))=>some ((sub l 0 len,[az (sub l 0 len).length len]),ds)
   | .cells sz rows=>if sz=CT.sz X e/\Kf bad (rows.map aP).flatten=true then(Hg get e rows).bind λx=>some ((x.1,az len (List.length x.1)::x.2),ds)else none
   | .map _ _ _=>none
   else none
  |_=>none
 | .whole j,d::ds=>match d with
  | .own k 0 len=>if k=j/\ri.contains j=true then(lk wl j).bind λej=>some (((),[az len ej]),ds)else none
  |_=>none
 | .mu c,ds=>(get n).bind λo=>match o with
  | .ea b l=>(jy (.sl b) (.sl c) l).bind λ(l:List (CT.T X.toSE c))=>match lk wl n with
   |some len=>some ((sub l 0 len,[az (sub l 0 len).length len]),ds)
   |none=>some ((l,[]),ds)
  |_=>none
 | .mr c,ds=>(get n).bind λo=>match o with
  | .cells sz [row]=>if sz=CT.sz X c/\Kf bad (aP row)=true then(abp get row c).bind λx=>some (x,ds)else none
  |_=>none
 | .mv,ds=>some (((),[]),ds)
 |_,[]=>none
def M0(get:Nat->Option (bm X))(bad ri:List Nat)(fk:Option Nat)(wl:List (Nat×Nat)):Nat->(l:List (RT X.ι))->(ds:List (DV X))->Option (sH X l×List Bool)
 |_,[],ds=>match ds with
  |[]=>some ((),[])
  |_=>none
 |n,[q],ds=>(MZ get bad ri fk wl n q ds).bind λp=>match p.2 with
  |[]=>some p.1
  |_=>none
 |n,q::q'::l,ds=>(MZ get bad ri fk wl n q ds).bind λp=>(M0 get bad ri fk wl (if q.out then n+1 else n) (q'::l) p.2).bind λy=>some ((p.1.1,y.1),p.1.2++y.2)
def Ok(s:de X)(l:List (RT X.ι))(ds:List (DV X)):Option (sH X l×List Bool):=
 if Kf (wo 0 l) (PN l ds).toList then M0 (gz s.obj) (wo 0 l++(PN l ds).toList) (rS 0 l) (PN l ds) (yf l ds) 0 l ds else none
def aoR(rs:List ResultVar)(l:List (RT X.ι)):Exit->de X->Option (sH X l)
 | .normal,s=>YH T s rs λds=>(Ok s l ds).bind λx=>Vp x.2 (some x.1)
 | .ret,s=>YH T s rs λds=>(Ok s l ds).bind λx=>Vp x.2 (some x.1)
 |_,_=>none
def exit(A:Type)(k:de X->Option A):Exit->de X->Option A
 | .normal,s=>k s
 | .ret,s=>k s
 |_,_=>none
variable {T}
section
variable {get:Nat->Option (bm X)} {fk:Option Nat} {os':List (Option fe)} {bad:List Nat}
theorem D5{ks:List Nat}(h:Kf bad ks=true):∀j∈ks,j∉bad:=λj hj=>by simpa using all_eq_true.1 h j hj
theorem PO(hbad:∀j,j∉bad->fk≠some j/\¬kept os' j){d:DV X}{c:CT X.ι}{x:CT.T X.toSE c×List Bool}(hc:c.one=true)(h:Rm get d c=some x)(hb:∀b∈x.2,b=true)(m8:∀j∈bk d,j∉bad):∃t,CT.tv X.toSE c x.1= .s t/\Pk (fw get) fk os' (den d) t:=by
 obtain⟨t,h1,h2⟩:=row_one hc x.1;refine⟨t,h2,?_⟩;have hbase:∀y,JO d c=some y->y=x.1->Pk (fw get) fk os' (den d) t:=by
  intro y hy he;subst he;have h3:=vU hy;rw[h2]at h3;have h4:=aa6 hc hy;unfold JO at hy;split at hy
  ·rw[(nZ hy).1];simp only[den,h2,TV.av,Pk]
  ·simp only[den,Gb.wk,TV.av,AV.t.injEq]at h3;simp only[den,Pk];exact h3.symm
  ·simp only[den,Gb.wk,TV.av,AV.t.injEq]at h3;simp only[den,Pk];exact h3.symm
  ·cases hy
 unfold Rm at h;split at h
 ·rename_i kk aa len e;rw[ai]at h;obtain⟨o,h3,h⟩:=h;split at h
  ·rename_i b l0;rw[ai]at h;obtain⟨l,h4,h⟩:=h;cases h;have h5:(sub l aa len).length=len:=(by simpa[az]using hb (az (sub l aa len).length len) (by simp));have⟨h6,h7⟩:=jf h4;obtain⟨hf1,hf2⟩:=hbad kk (m8 kk (by simp[bk]));simp only[den,Pk];refine⟨hf1,hf2,bG (.ea b l0),(sub l aa len).map (CT.row X.toSE e),by simp[fw,h3],?_,by simpa using h5,?_⟩
   ·simp only[bG,h7];simp[aI,sub,map_take,map_drop]
   ·simpa[CT.row]using h1.symm
  ·cases h
 ·rename_i kk aa len;rw[ai]at h;obtain⟨o,h3,h⟩:=h;split at h
  ·rename_i b l0;cases h;have h5:(sub l0 aa len).length=len:=(by simpa[az]using hb (az (sub l0 aa len).length len) (by simp));obtain⟨hf1,hf2⟩:=hbad kk (m8 kk (by simp[bk]));simp only[den,Pk];refine⟨hf1,hf2,bG (.ea b l0),(sub l0 aa len).map (CT.row X.toSE b),by simp[fw,h3],?_,by simpa using h5,?_⟩
   ·simp only[bG];simp[aI,sub,map_take,map_drop]
   ·simpa[CT.row]using h1.symm
  ·cases h
 ·rename_i kk len e;rw[ai]at h;obtain⟨o,h3,h⟩:=h;split at h
  ·rename_i b l0;have⟨l,h4,h⟩:=ai.1 h;cases h;have h5:(sub l 0 len).length=len:=(by simpa[az]using hb (az (sub l 0 len).length len) (by simp));have⟨h6,h7⟩:=jf h4;obtain⟨hf1,hf2⟩:=hbad kk (m8 kk (by simp[bk]));simp only[den,Pk];refine⟨hf1,hf2,bG (.ea b l0),(sub l 0 len).map (CT.row X.toSE e),by simp[fw,h3],?_,by simpa using h5,?_⟩
   ·simp only[bG,h7];simp[aI,sub,map_take,map_drop]
   ·simpa[CT.row]using h1.symm
  ·cases h
 ·have⟨y,h3,h⟩:=ai.1 h;injection h with h;exact hbase y h3 (by rw[<- h])
theorem KR(hbad:∀j,j∉bad->fk≠some j/\¬kept os' j):∀{ds:List (DV X)}{l:List (CT X.ι)}{h:HL X.toSE l×List Bool},wQ get ds l=some h->(∀ b∈h.2,b=true)->l.all CT.one=true->(∀ j∈aP ds,j∉bad)->k8 (fw get) fk os' (bL ds) (HL.row X.toSE l h.1)
 |[],[],h,_,_,_,_=>trivial
 |d::ds,c::l,h,hr,hb,ha,m8=>by
  simp only[wQ]at hr;have⟨x,h1,hr⟩:=ai.1 hr;have⟨g,h2,hr⟩:=ai.1 hr;cases hr;simp only[all_cons,aL]at ha;obtain⟨t,i1,i2⟩:=PO hbad ha.1 h1 (λ b hb'=>hb b (by simp[hb'])) (λ j hj=>m8 j (by simp[aP,hj]));have i3:=KR hbad h2 (λ b hb'=>hb b (by simp[hb'])) ha.2 (λ j hj=>m8 j (by simp[aP,hj]));obtain⟨t',j1,j2⟩:=row_one ha.1 x.1;rw[i1]at j2;cases j2;show k8 (fw get) fk os' (den d::bL ds) (CT.row X.toSE c x.1++HL.row X.toSE l g.1);rw[j1];exact⟨i2,i3⟩
 |[],_::_,_,hr,_,_,_=>by simp[wQ]at hr
 |_::_,[],_,hr,_,_,_=>by simp[wQ]at hr
theorem Rw(hbad:∀j,j∉bad->fk≠some j/\¬kept os' j){row:List (DV X)}{c:CT X.ι}{x:CT.T X.toSE c×List Bool}(h:abp get row c=some x)(hb:∀b∈x.2,b=true)(m8:∀j∈aP row,j∉bad):k8 (fw get) fk os' (bL row) (CT.row X.toSE c x.1):=by
 cases c
 case st i=>
  replace h:(wQ get row (X.cQ i)).bind (λ h=>some (X.make i h.1,h.2))=some x:=h
  have⟨g,h1,h⟩:=ai.1 h;cases h;have:=KR hbad h1 hb (X.flat i) m8;show k8 (fw get) fk os' (bL row) (X.row i (X.make i g.1));rw[X.gd];exact this
 all_goals
  match row,h,m8 with
  |[d],h,m8=>
   obtain⟨t,i1,i2⟩:=PO (fk:=fk) hbad rfl h hb (λ j hj=>m8 j (by simp[aP,hj]));obtain⟨t',j1,j2⟩:=row_one rfl x.1;rw[i1]at j2;cases j2;rw[j1];exact⟨i2,trivial⟩
  |[],h,_=>cases h
  |_::_::_,h,_=>cases h
theorem M4(hbad:∀j,j∉bad->fk≠some j/\¬kept os' j){c:CT X.ι}:∀{rows:List (List (DV X))}{x:List (CT.T X.toSE c)×List Bool},Hg get c rows=some x->(∀ b∈x.2,b=true)->(∀ j∈(rows.map aP).flatten,j∉bad)->en (fw get) fk os' (rows.map bL) (x.1.map (CT.row X.toSE c))/\rows.length=List.length x.1
 |[],x,h,_,_=>by simp only[Hg,aA]at h;subst h;exact⟨trivial,rfl⟩
 |r::rs,x,h,hb,m8=>by
  simp only[Hg]at h;have⟨y,h1,h⟩:=ai.1 h;have⟨z,h2,h⟩:=ai.1 h;cases h;have i1:=Rw hbad h1 (λ b hb'=>hb b (by simp[hb'])) (λ j hj=>m8 j (by simp[hj]));obtain⟨i2,i3⟩:=M4 hbad h2 (λ b hb'=>hb b (by simp[hb'])) (λ j hj=>m8 j (by simp only[aF,flatten_cons,bf];exact .inr hj));exact⟨⟨i1,i2⟩,by simp[i3]⟩
theorem akJ{x:AV}{t:Tree}(h:Pk (fw get) fk os' x t):E7 (fw get) fk os' x (.d (.s t)):=by cases x<;>first |exact h |exact h.elim
theorem D6(sz:CT X.ι)(l:List (CT.T X.toSE sz)):en (fw get) fk os' (aI (l.map (CT.row X.toSE sz))) (l.map (CT.row X.toSE sz)):=by
 generalize l.map (CT.row X.toSE sz)=rows
 induction rows with
 |nil=>trivial
 |cons r rs ih=>
  refine⟨?_,ih⟩;show k8 (fw get) fk os' (r.map AV.t) r
  induction r with
  |nil=>trivial
  |cons y ys ih2=>exact⟨rfl,ih2⟩
theorem akK(hbad:∀j,j∉bad->fk≠some j/\¬kept os' j){c:CT X.ι}{d:DV X}{x:CT.T X.toSE c×List Bool}(h:Fh get d c=some x)(m8:∀j∈bk d,j∉bad)(hb:∀b∈x.2,b=true):E7 (fw get) fk os' (den d) (.d (CT.tv X.toSE c x.1)):=by
 cases c
 case st i=>
  replace h:ZI get d i=some x:=h
  cases d
  case agg cs=>
   simp only[ZI]at h;have⟨g,h1,h⟩:=ai.1 h;cases h;have:=KR (fk:=fk) hbad h1 hb (X.flat i) (by simpa[bk]using m8);show k8 (fw get) fk os' (bL cs) (X.row i (X.make i g.1));rw[X.gd];exact this
  case c a y=>
   simp only[ZI]at h;have⟨z,h1,h⟩:=ai.1 h;cases h;rw[(nZ h1).1];show k8 (fw get) fk os' ((X.row i z).map AV.t) (X.row i z);generalize X.row i z=l
   induction l with
   |nil=>trivial
   |cons y ys ih=>exact⟨rfl,ih⟩
  all_goals cases h
 all_goals
  have⟨t,i1,i2⟩:=PO (fk:=fk) hbad rfl h hb m8;rw[i1];exact akJ i2
theorem Wo{ri:List Nat}{wl:List (Nat×Nat)}{ns:List Nat}{n:Nat}(hbad:∀j,j∉bad->fk≠some j/\¬kept os' j)(qT:∀k,fk=some k->¬kept os' k)(hns:∀j ej,j∈ri->lk wl j=some ej->ns.getD j 0=ej)(hmu:∀j∈ri,kept os' j){q:RT X.ι}{ds:List (DV X)}{p:(RT.T X q×List Bool)×List (DV X)}(h:MZ get bad ri fk wl n q ds=some p)(hb:∀b∈p.1.2,b=true):
 (∀ cs,nh (fw get) fk os' (bL p.2) cs->nh (fw get) fk os' (bL ds) (VD ns q p.1.1++cs))/\
 (∀ t,p9 q p.1.1=[some t]->∃o,get n=some o/\(bG o).sz=t.1/\en (fw get) fk os' ((bG o).rows.take t.2.length) t.2)/\
 (∀ ej c,q= .mu c->lk wl n=some ej->YC q p.1.1=[ej]):=by
 cases q
 case d c=>
  cases ds with
  |nil=>simp[MZ]at h
  |cons d ds=>
   simp only[MZ]at h;split at h
   ·rename_i hnb;rw[ai]at h;obtain⟨x,h1,h⟩:=h;cases h;exact⟨λ cs hcs=>⟨akK hbad h1 (D5 hnb) hb,hcs⟩,λt ht=>by simp[p9]at ht,λ_ _ h=>by cases h⟩
   ·cases h
 case fresh e=>
  cases ds with
  |nil=>simp[MZ]at h
  |cons d ds=>
   refine⟨λ cs hcs=>?_,λt ht=>by simp[p9]at ht,λ_ _ h=>by cases h⟩;simp only[MZ]at h;split at h
   ·cases h;exact⟨rfl,hcs⟩
   ·rename_i k len;split at h
    ·rename_i m8;rw[ai]at h;obtain⟨o,h1,h⟩:=h;split at h
     ·rename_i b l0;rw[ai]at h;obtain⟨l,h2,h⟩:=h;cases h;have⟨h3,h4⟩:=jf h2;have h5:(sub l 0 len).length=len:=(by simpa[az]using hb (az (sub l 0 len).length len) (by simp));refine⟨⟨m8,qT k m8,rfl,bG (.ea b l0),by simp[fw,h1],by simp only[bG];exact h3,?_,by simpa using h5⟩,hcs⟩;have e1:(bG (.ea b l0)).rows.take len=aI ((sub l 0 len).map (CT.row X.toSE e)):=by
       simp only[bG,h4];simp[aI,sub,map_take]
      rw[e1];exact D6 e _
     ·rename_i sz rows;split at h
      ·rename_i hc;rw[ai]at h;obtain⟨x,h2,h⟩:=h;cases h;obtain⟨i1,i2⟩:=M4 (fk:=fk) hbad h2 (λ b hb'=>hb b (by simp[hb'])) (D5 hc.2);have h5:len=List.length x.1:=(by simpa[az]using hb (az len (List.length x.1)) (by simp));refine⟨⟨m8,qT k m8,rfl,bG (.cells sz rows),by simp[fw,h1],hc.1,?_,by simpa using h5.symm⟩,hcs⟩;simp only[bG];rw[List.take_of_length_le (by simp;omega)];exact i1
      ·cases h
     ·cases h
    ·cases h
   ·cases h
 case whole j=>
  cases ds with
  |nil=>simp[MZ]at h
  |cons d ds=>
   refine⟨λ cs hcs=>?_,λt ht=>by simp[p9]at ht,λ_ _ h=>by cases h⟩;simp only[MZ]at h;split at h
   ·rename_i k len;split at h
    ·rename_i hc;obtain⟨rfl,hm⟩:=hc;rw[ai]at h;obtain⟨ej,h1,h⟩:=h;cases h;have h5:len=ej:=(by simpa[az]using hb (az len ej) (by simp));have hm:k∈ri:=(by simpa using hm);refine⟨⟨rfl,rfl,?_,hmu k hm⟩,hcs⟩;rw[h5];exact hns k ej hm h1
    ·cases h
   ·cases h
 case mu c=>
  simp only[MZ]at h;rw[ai]at h;obtain⟨o,h1,h⟩:=h;split at h
  ·rename_i b l0;rw[ai]at h;obtain⟨l,h2,h⟩:=h;have⟨h3,h4⟩:=jf h2;split at h
   ·rename_i len hl;cases h;have h5:(sub l 0 len).length=len:=(by simpa[az]using hb (az (sub l 0 len).length len) (by simp));refine⟨λ cs hcs=>hcs,λt ht=>?_,λej c' _ hl'=>?_⟩
    ·simp only[p9,List.cons.injEq,aA,and_true]at ht;subst ht;refine⟨_,h1,by simp only[bG,rq];exact h3,?_⟩;have e1:(bG (.ea b l0)).rows.take (rq c (sub l 0 len)).2.length=aI (rq c (sub l 0 len)).2:=by
      simp only[bG,h4,rq,length_map,h5];simp[aI,sub,map_take]
     rw[e1];exact D6 c _
    ·rw[hl]at hl';injection hl' with hl';subst hl';simp only[YC,h5]
   ·rename_i hl;cases h;refine⟨λ cs hcs=>hcs,λt ht=>?_,λej c' _ hl'=>by rw[hl]at hl';cases hl'⟩;simp only[p9,List.cons.injEq,aA,and_true]at ht;subst ht;refine⟨_,h1,by simp only[bG,rq];exact h3,?_⟩;have e1:(bG (.ea b l0)).rows.take (rq c l).2.length=aI (rq c l).2:=by
     simp only[bG,h4,rq];rw[List.take_of_length_le (by simp[aI])]
    rw[e1];exact D6 c _
  ·cases h
 case mr c=>
  simp only[MZ]at h;rw[ai]at h;obtain⟨o,h1,h⟩:=h;split at h
  ·rename_i sz row;split at h
   ·rename_i hc;have⟨x,h2,h⟩:=ai.1 h;cases h;refine⟨λ cs hcs=>hcs,λt ht=>?_,λ_ _ h=>by cases h⟩;simp only[p9,List.cons.injEq,aA,and_true]at ht;subst ht;refine⟨_,h1,by simp only[bG,rq];exact hc.1,?_⟩;exact⟨Rw hbad h2 hb (D5 hc.2),trivial⟩
   ·cases h
  ·cases h
 case mv=>
  simp only[MZ,aA]at h;subst h;exact⟨λ cs hcs=>hcs,λt ht=>by simp[p9]at ht,λ_ _ h=>by cases h⟩
theorem Hl{q:RT X.ι}{x:RT.T X q}:(p9 q x).length=(if q.out then 1 else 0)/\(YC q x).length=(if q.out then 1 else 0):=by cases q<;>exact⟨rfl,rfl⟩
theorem Ho{n j:Nat}{q:RT X.ι}{l:List (RT X.ι)}:j∈rS n (q::l)->(j=n/\∃c,q= .mu c)\/j∈rS (if q.out then n+1 else n) l:=by
 cases q<;>simp only[rS,RT.out,if_true,Bool.false_eq_true,if_false,aN]
 case mu c=>exact λh=>h.imp (λ h=>⟨h,c,rfl⟩) id
 all_goals exact .inr
theorem X1{j:Nat}:∀{l:List (RT X.ι)}{n:Nat},j∈rS n l->n<=j
 |[],n,h=>by simp[rS]at h
 |q::l,n,h=>by
  rcases Ho h with ⟨rfl,_⟩ |h
  ·exact aC _
  ·have:=X1 h;split at this<;>omega
theorem adB:∀{l:List (RT X.ι)}{x:sH X l}{n j:Nat},j∈rS n l->∃p,(nO l x)[j -n]? =some (some p)
 |[],x,n,j,h=>by simp[rS]at h
 |[q],x,n,j,h=>by
  rcases Ho h with ⟨rfl,c,rfl⟩ |h
  ·exact⟨_,by simp only[Nat.sub_self];rfl⟩
  ·simp[rS]at h
 |q::q'::l,x,n,j,h=>by
  rcases Ho h with ⟨rfl,c,rfl⟩ |h
  ·exact⟨_,by simp only[Nat.sub_self];rfl⟩
  ·have⟨p,hp⟩:=adB (l:=q'::l) (x:=x.2) h;have hge:=X1 h;refine⟨p,?_⟩;show(p9 q x.1++nO (q'::l) x.2)[j -n]? =_;have hl:=(Hl (q:=q) (x:=x.1)).1;split at hl
   ·rename_i e;rw[aY e]at hp hge;rw[jC (by omega),hl,show j -n -1=j -(n+1)by omega];exact hp
   ·rename_i e;rw[aR e]at hp hge;rw[jC (by omega),hl,Nat.sub_zero];exact hp
theorem Cx:∀{l:List (RT X.ι)}{x:sH X l}{n j:Nat}{p:fe},(nO l x)[j]? =some (some p)->n+j∈wo n l
 |[],x,n,j,p,h=>by simp[nO]at h
 |[q],x,n,j,p,h=>by
  have h:(p9 q x)[j]? =some (some p):=h;cases q<;>simp only[p9,List.getElem?_nil,reduceCtorEq]at h
  case mu c=>cases j<;>simp at h<;>simp[wo]
  case mr c=>cases j<;>simp at h<;>simp[wo]
  case mv=>cases j<;>simp at h
 |q::q'::l,x,n,j,p,h=>by
  have h:(p9 q x.1++nO (q'::l) x.2)[j]? =some (some p):=h;cases q
  case mu c=>
   cases j with
   |zero=>simp[wo]
   |succ j=>
    have:=Cx (l:=q'::l) (x:=x.2) (n:=n+1) (by simpa[p9]using h);simp only[wo,aN];right;rw[show n+(j+1)=n+1+j by omega];exact this
  case mr c=>
   cases j with
   |zero=>simp[wo]
   |succ j=>
    have:=Cx (l:=q'::l) (x:=x.2) (n:=n+1) (by simpa[p9]using h);simp only[wo,aN];right;rw[show n+(j+1)=n+1+j by omega];exact this
  case mv=>
   cases j with
   |zero=>simp[p9]at h
   |succ j=>
    have:=Cx (l:=q'::l) (x:=x.2) (n:=n+1) (by simpa[p9]using h);simp only[wo];rw[show n+(j+1)=n+1+j by omega];exact this
  all_goals
   simp only[wo];exact Cx (l:=q'::l) (x:=x.2) (by simpa[p9]using h)
theorem adC{ri:List Nat}{wl:List (Nat×Nat)}{n:Nat}{q:RT X.ι}{ds:List (DV X)}{p:(RT.T X q×List Bool)×List (DV X)}(h:MZ get bad ri fk wl n q ds=some p)(hb:∀b∈p.1.2,b=true):∀ej c,q= .mu c->lk wl n=some ej->YC q p.1.1=[ej]:=by
 rintro ej c rfl hl;simp only[MZ]at h;rw[ai]at h;obtain⟨o,h1,h⟩:=h;split at h
 ·rename_i b l0;have⟨l,h2,h⟩:=ai.1 h;rw[hl]at h;cases h;have h5:(sub l 0 ej).length=ej:=by simpa[az]using hb (az (sub l 0 ej).length ej) (by simp)
  simp only[YC,h5]
 ·cases h
theorem KS{ri:List Nat}{wl:List (Nat×Nat)}:∀{n:Nat}{l:List (RT X.ι)}{ds:List (DV X)}{x:sH X l×List Bool},M0 get bad ri fk wl n l ds=some x->(∀ b∈x.2,b=true)->∀j ej,n+j∈rS n l->lk wl (n+j)=some ej->(xp l x.1).getD j 0=ej
 |n,[],ds,x,h,hb,j,ej,hm,_=>by simp[rS]at hm
 |n,[q],ds,x,h,hb,j,ej,hm,hl=>by
  simp only[M0]at h;have⟨p,h1,h⟩:=ai.1 h;split at h
  ·cases h;rcases Ho hm with ⟨e,c,rfl⟩ |hm
   ·have e:j=0:=(by omega);subst e;have:=(adC h1 hb) ej c rfl hl;show(YC _ p.1.1).getD 0 0=ej;rw[this];rfl
   ·simp[rS]at hm
  ·cases h
 |n,q::q'::l,ds,x,h,hb,j,ej,hm,hl=>by
  simp only[M0]at h;have⟨p,h1,h⟩:=ai.1 h;have⟨y,h2,h⟩:=ai.1 h;cases h;have hlen:=(Hl (q:=q) (x:=p.1.1)).2;rcases Ho hm with ⟨e,c,rfl⟩ |hm
  ·have e:j=0:=(by omega);subst e;have:=(adC h1 (λ b hb'=>hb b (by simp[hb']))) ej c rfl hl;show(YC _ p.1.1++xp (q'::l) y.1).getD 0 0=ej;rw[this];rfl
  ·have hge:=X1 hm;show(YC _ p.1.1++xp (q'::l) y.1).getD j 0=ej;by_cases hq:q.out=true
   ·rw[aY hq]at h2 hm hge hlen;have:=KS h2 (λ b hb'=>hb b (by simp[hb'])) (j -1) ej (by rw[show n+1+(j -1)=n+j by omega];exact hm) (by rw[show n+1+(j -1)=n+j by omega];exact hl);rw[List.getD_eq_getElem?_getD,jC (by omega),hlen,<- List.getD_eq_getElem?_getD];exact this
   ·rw[aR hq]at h2 hm hge hlen;have:=KS h2 (λ b hb'=>hb b (by simp[hb'])) j ej hm hl;rw[List.getD_eq_getElem?_getD,jC (by omega),hlen,Nat.sub_zero,<- List.getD_eq_getElem?_getD];exact this
theorem Z8{ri:List Nat}{wl:List (Nat×Nat)}{ns:List Nat}(hbad:∀j,j∉bad->fk≠some j/\¬kept os' j)(qT:∀k,fk=some k->¬kept os' k)(hns:∀j ej,j∈ri->lk wl j=some ej->ns.getD j 0=ej)(hmu:∀j∈ri,kept os' j):∀{n:Nat}{l:List (RT X.ι)}{ds:List (DV X)}{x:sH X l×List Bool},M0 get bad ri fk wl n l ds=some x->(∀ b∈x.2,b=true)->
 nh (fw get) fk os' (bL ds) (AU ns l x.1)/\∀j t,(nO l x.1)[j]? =some (some t)->∃o,get (n+j)=some o/\(bG o).sz=t.1/\en (fw get) fk os' ((bG o).rows.take t.2.length) t.2
 |n,[],ds,x,h,_=>by
  simp only[M0]at h;split at h
  ·exact⟨trivial,λj t ht=>by simp[nO]at ht⟩
  ·cases h
 |n,[q],ds,x,h,hb=>by
  simp only[M0]at h;rw[ai]at h;obtain⟨p,h1,h⟩:=h;split at h
  ·rename_i hp;cases h;have⟨i1,i2,_⟩:=Wo (ns:=ns) hbad qT hns hmu h1 hb;rw[hp]at i1;have:=i1 [] trivial;rw[append_nil]at this;refine⟨this,λj t ht=>?_⟩;have ht:(p9 q p.1.1)[j]? =some (some t):=ht;have hl:=(Hl (q:=q) (x:=p.1.1)).1;have hj:=(dF.1 ht).1;have hj0:j=0:=(by split at hl<;>omega);subst hj0;refine i2 t ?_
   match ho:p9 q p.1.1,ht,hl with
   |[z],ht,_=>simpa using ht
   |[],ht,_=>simp at ht
   |_::_::_,_,hl=>simp only[bI]at hl;split at hl<;>omega
  ·cases h
 |n,q::q'::l,ds,x,h,hb=>by
  simp only[M0]at h;have⟨p,h1,h⟩:=ai.1 h;have⟨y,h2,h⟩:=ai.1 h;cases h;obtain⟨i1,i2,_⟩:=Wo (ns:=ns) hbad qT hns hmu h1 (λ b hb'=>hb b (by simp[hb']));obtain⟨k1,k2⟩:=Z8 (ns:=ns) hbad qT hns hmu h2 (λ b hb'=>hb b (by simp[hb']));refine⟨i1 _ k1,λj t ht=>?_⟩;have ht:(p9 q p.1.1++nO (q'::l) y.1)[j]? =some (some t):=ht;have hl:=(Hl (q:=q) (x:=p.1.1)).1;by_cases hq:q.out=true
  ·rw[aY hq]at k2 hl;cases j with
   |zero=>
    refine i2 t ?_
    match ho:p9 q p.1.1,ht,hl with
    |[z],ht,_=>simpa using ht
    |[],_,hl=>simp at hl
    |_::_::_,_,hl=>simp at hl
   |succ j=>
    rw[jC (by omega),hl,Nat.add_sub_cancel]at ht;rw[show n+(j+1)=n+1+j by omega];exact k2 j t ht
  ·rw[aR hq]at k2 hl;rw[jC (by omega),hl,Nat.sub_zero]at ht;exact k2 j t ht
end
theorem nh.R{get:Nat->Option aS}{fk:Option Nat}{os':List (Option fe)}:∀{xs:List AV}{cs:List RC},nh get fk os' xs cs->E6 get fk os' xs (match cs with |[c]=> .one c |cs=> .eC cs)
 |[],[],_=>rfl
 |[_],[_],h=>h.1
 |_::_::_,_::_::_,h=>h
 |[],_::_,h=>h.elim
 |_::_,[],h=>h.elim
 |[_],_::_::_,h=>h.2.elim
 |_::_::_,[_],h=>h.2.elim
theorem akL{s:de X}{rs:List ResultVar}{l:List (RT X.ι)}{r:sH X l}(h:(YH T s rs λds=>(Ok s l ds).bind λx=>Vp x.2 (some x.1))=some r):∃xs fk,ni T s.st rs=some xs/\E6 s.st.obj fk (nO l r) xs (sO l r)/\L5 s.st.obj fk (nO l r):=by
 have⟨ds,h1,h⟩:=Jq T h;rw[ai]at h;obtain⟨x,h2,h⟩:=h;have⟨h3,h⟩:=pq h;cases h;unfold Ok at h2;split at h2
 ·rename_i hnb;have hkn:∀j,kept (nO l x.1) j->j∈wo 0 l:=λj ⟨p,hp⟩=>by
   have:=Cx (n:=0) hp;simpa using this
  have hbad:∀j,j∉wo 0 l++(PN l ds).toList->PN l ds≠some j/\¬kept (nO l x.1) j:=by
   intro j hj;simp only[bf,Option.mem_toList,not_or]at hj;exact⟨hj.2,λh=>hj.1 (hkn j h)⟩
  have qT:∀k,PN l ds=some k->¬kept (nO l x.1) k:=λk hk hkk=>D5 hnb k (by simp[hk]) (hkn k hkk);have hmu:∀j∈rS 0 l,kept (nO l x.1) j:=λj hj=>by
   have⟨p,hp⟩:=adB (x:=x.1) hj;exact⟨p,by simpa using hp⟩
  obtain⟨i1,i2⟩:=Z8 (ns:=xp l x.1) hbad qT (λ j ej hj hl=>KS h2 h3 j ej (by simpa using hj) (by simpa using hl)) hmu h2 h3;have gp:s.st.obj=fw (gz s.obj):=rfl;refine⟨bL ds,PN l ds,PL T h1,?_,λj p hp=>?_⟩
  ·rw[gp];exact i1.R
  ·have⟨o,g1,g2,g3⟩:=i2 j p hp;rw[Nat.zero_add]at g1;exact⟨λ e=>qT j e ⟨p,hp⟩,bG o,by rw[gp];simp[fw,g1],g2,by rw[gp];exact g3⟩
 ·cases h2
variable {Γ:FuncId->Option (bx X)} {am:TypeId->Option (CT X.ι)} {P:Program}
theorem aoS(hT : eZ P T)(hm : P.follows .mixedOrders = true)(hΓ : sC P Γ){f : FuncId}{fn : Func}{c : Code}(hfn : P.funcs[f]? = some fn)(hb : fn.body = some c)(hname : (fn.name == "runtime.NumGoroutine") = false)(sa : List (AT X.ι))(sr : List (RT X.ι))(hN : sa.length <= fn.ntmps /\ qa sa <= 1000 /\ (sr.filter RT.out).length = qa sa)
 (h:Hn X.ι) (n:Nat) {a:iJ X sa} {r:sH X sr} (hr:run Γ T am fn.ntmps n c (sH X sr) h (wA sa a) (aoR T fn.results.toList sr)=some r):qn P f (vY sa a) (p8 sa a) (nO sr r) (sO sr r):=by
 have hl:(nO sr r).length=(p8 sa a).length:=by
  rw[kZ,<- hN.2.2];have:∀(sr:List (RT X.ι))(r:sH X sr),(nO sr r).length=(sr.filter RT.out).length:=by
   intro sr
   induction sr with
   |nil=>intro r;rfl
   |cons q l ih=>
    intro r;have hq:∀x:RT.T X q,(p9 q x).length=(if q.out then 1 else 0):=λx=>Hl.1;cases l with
    |nil=>
     show(p9 q r).length=_;rw[hq];by_cases e:q.out=true<;>simp[e]
    |cons q' l=>
     show(p9 q r.1++nO (q'::l) r.2).length=_;rw[dM,hq,ih r.2];by_cases e:q.out=true<;>simp[List.filter_cons,e];omega
  exact this sr r
 refine aiA hT hfn hb hname (by rw[kY];exact hN.1) (λ k hk=>?_) (by rw[kZ];exact hN.2.1) hl ?_
 ·rw[vY,<- rT,ic]at hk;have:=oM 0 sa a k hk;have:=hN.2.1;omega
 ·rw[<- aoj];refine(kL hT hm hΓ c _ h _ _ r (amK sa a hN.2.1) hr).mono ?_;rintro e σ ⟨s',_,_,rfl,g4⟩;cases e<;>first |exact akL g4 |cases g4
theorem mW{f : FuncId}{fn : Func}{c : Code}(hfn : P.funcs[f]? = some fn)(hb : fn.body = some c)(hname : (fn.name == "runtime.NumGoroutine") = false): eT P f := ⟨fn, hfn, by rw [hb]; rfl, hname⟩
abbrev AE(P:Program)(f:FuncId)(s:bx X):Prop:=eT P f/\(∀ a r,s.fn a=some r->qn P f (vY s.args a) (p8 s.args a) (nO s.res r) (sO s.res r))/\∀g,s.gen=some g->Fo P f g
theorem zp{P:Program}{f:FuncId}{s:bx X}(h:eT P f)(h1:∀a r,s.fn a=some r->qn P f (vY s.args a) (p8 s.args a) (nO s.res r) (sO s.res r))(hg:s.gen=none):AE P f s:=⟨h,h1,λg e=>by rw[hg]at e;cases e⟩
theorem Mn{P:Program}{f:FuncId}{g:cX X}(h:eT P f)(hg:Fo P f g):AE P f ⟨[],[.d .bool],λ_=>none,some g⟩:=⟨h,λ_ _ e=>(by cases e),λ_ e=>(by cases e;exact hg)⟩
def oX(s t:bx X):bx X:=⟨s.args,s.res,s.fn,t.gen⟩
def xj(l:List (FuncId×bx X)):FuncId->Option (bx X):=λf=>lk l f
theorem aB:sC P (xj ([]:List (FuncId×bx X))):=λ_ _ h=>by cases h
theorem au{f:FuncId}{s:bx X}{l:List (FuncId×bx X)}(h:AE P f s)(hl:sC P (xj l)):sC P (xj ((f,s)::l)):=by
 intro g q hg;simp only[xj,lk]at hg;split at hg
 ·rename_i e;cases hg;subst e;exact h
 ·exact hl g q hg
end
end Go.Gb
