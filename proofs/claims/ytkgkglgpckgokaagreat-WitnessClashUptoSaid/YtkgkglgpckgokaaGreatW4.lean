import Derived.Test.YtkgkglgpckgokaaGreatW3
open List (mem_map all_eq_true cons_append length_map append_nil map_map map_congr_left flatten_cons map_nil all_cons map_take map_drop map_append mem_append_right)
namespace Go.Gb
open Go.RowKit
section
variable {X:SX} {A:Type}
theorem Z3:∀(l:List (CT X.ι))(v:VT (X:=X) l),(vT l v).map (·.c)=l
 |[],_=>rfl
 |[_],_=>rfl
 |c::c'::l,v=>by simp only[vT,aF,Z3 (c'::l) v.2]
theorem Pv:∀{l:List Tree},(∀ t∈l,t.flat)->o7 (l.map AV.t)
 |[],_=>trivial
 |t::l,h=>⟨h t (by simp),Pv (λ u hu=>h u (by simp[hu]))⟩
theorem abb{c:CT X.ι}(h:wZ c=true)(x:CT.T X.toSE c):uN (CT.tv X.toSE c x).av:=by
 have hf:=uR h x;cases c
 case st i=>exact Pv hf
 all_goals first |exact hf _ (aW.2 rfl) |cases h
section
variable {ol:Nat->Nat}
mutual
theorem amA:∀(p:Pt X.ι)(L:List (DC X))(cs:List (CT X.ι)),L.map (·.c)=p.vars++cs->p.vars.all wZ=true->uN (den (eP ol p L).1)/\(eP ol p L).2.map (·.c)=cs
 | .v c,L,cs,h,hs=>by
  match L,h with
  |d::r,h=>
   simp only[Pt.vars,aF,List.singleton_append,List.cons.injEq]at h;simp only[Pt.vars,all_cons,List.all_nil,Bool.and_true]at hs;exact⟨abb (h.1 ▸ hs) d.x,h.2⟩
  |[],h=>simp[Pt.vars]at h
 | .o k,L,cs,h,_=>⟨trivial,by simpa[Pt.vars,eP]using h⟩
 | .p k,L,cs,h,_=>⟨trivial,by simpa[Pt.vars,eP]using h⟩
 | .mp k,L,cs,h,_=>⟨trivial,by simpa[Pt.vars,eP]using h⟩
 | .oz k,L,cs,h,_=>⟨trivial,by simpa[Pt.vars,eP]using h⟩
 | .nil,L,cs,h,_=>⟨trivial,by simpa[Pt.vars,eP]using h⟩
 | .od k,L,cs,h,_=>by
  match L,h with
  |d::r,h=>
   simp only[Pt.vars,aF,List.singleton_append,List.cons.injEq]at h;exact⟨trivial,h.2⟩
  |[],h=>simp[Pt.vars]at h
 | .f F fs ps,L,cs,h,hs=>by
  simp only[Pt.vars,List.all_append,aL]at hs;simp only[Pt.vars,aK]at h;obtain⟨a1,a2⟩:=Co fs L _ h hs.1;obtain⟨b1,b2⟩:=Co ps _ _ a2 hs.2;exact⟨⟨a1,b1⟩,b2⟩
 | .a ps,L,cs,h,hs=>by
  simp only[Pt.vars]at h hs;exact Co ps L cs h hs
theorem Co:∀(ps:List (Pt X.ι))(L:List (DC X))(cs:List (CT X.ι)),L.map (·.c)=cP ps++cs->(cP ps).all wZ=true->o7 (bL (lh ol ps L).1)/\(lh ol ps L).2.map (·.c)=cs
 |[],L,cs,h,_=>⟨trivial,by simpa[cP,lh]using h⟩
 |p::ps,L,cs,h,hs=>by
  simp only[cP,List.all_append,aL]at hs;simp only[cP,aK]at h;obtain⟨a1,a2⟩:=amA p L _ h hs.1;obtain⟨b1,b2⟩:=Co ps _ _ a2 hs.2;exact⟨⟨a1,b1⟩,b2⟩
end
mutual
theorem amB:∀(p:Pt X.ι)(L:List (DC X)),∀j∈bk (eP ol p L).1,j∈p.refs
 | .v c,L,j,h=>by cases L<;>simp[eP,bk]at h
 | .o k,L,j,h=>by simpa[eP,bk,Pt.refs]using h
 | .p k,L,j,h=>by simpa[eP,bk,Pt.refs]using h
 | .mp k,L,j,h=>by simpa[eP,bk,Pt.refs]using h
 | .oz k,L,j,h=>by simpa[eP,bk,Pt.refs]using h
 | .nil,L,j,h=>by simp[eP,bk]at h
 | .od k,L,j,h=>by cases L<;>simp[eP,bk]at h<;>simp[Pt.refs,h]
 | .f F fs ps,L,j,h=>by
  simp only[eP,bk,bf]at h;simp only[Pt.refs,bf];exact h.imp (yF fs _ j) (yF ps _ j)
 | .a ps,L,j,h=>by
  simp only[eP,bk]at h;simp only[Pt.refs];exact yF ps _ j h
theorem yF:∀(ps:List (Pt X.ι))(L:List (DC X)),∀j∈aP (lh ol ps L).1,j∈AP ps
 |[],L,j,h=>by simp[lh,aP]at h
 |p::ps,L,j,h=>by
  simp only[lh,aP,bf]at h;simp only[AP,bf];exact h.imp (amB p _ j) (yF ps _ j)
end
theorem KL:∀(rs:List (List (Pt X.ι)))(L:List (DC X))(cs:List (CT X.ι)),L.map (·.c)=vS rs++cs->(vU ol rs L).2.map (·.c)=cs/\((vS rs).all wZ=true->∀r∈(vU ol rs L).1,o7 (bL r))
 |[],L,cs,h=>⟨by simpa[vS,vU]using h,by simp[vU]⟩
 |r::rs,L,cs,h=>by
  simp only[vS,aK]at h;have step:(lh ol r L).2.map (·.c)=vS rs++cs:=tU r L _ h;obtain⟨b1,b2⟩:=KL rs _ _ step;refine⟨b1,λhs q hq=>?_⟩;simp only[vS,List.all_append,aL]at hs;simp only[vU,aN]at hq;rcases hq with rfl |hq
  ·exact(Co r L _ h hs.1).1
  ·exact b2 hs.2 q hq
where
 tU (ps:List (Pt X.ι)) (L:List (DC X)) (cs:List (CT X.ι)) (h:L.map (·.c)=cP ps++cs):(lh ol ps L).2.map (·.c)=cs:=pm ps L cs h
 C4:∀(p:Pt X.ι)(L:List (DC X))(cs:List (CT X.ι)),L.map (·.c)=p.vars++cs->(eP ol p L).2.map (·.c)=cs
  | .v c,L,cs,h=>by
   match L,h with
   |d::r,h=>simp only[Pt.vars,aF,List.singleton_append,List.cons.injEq]at h;exact h.2
   |[],h=>simp[Pt.vars]at h
  | .o k,L,cs,h=>by simpa[Pt.vars,eP]using h
  | .p k,L,cs,h=>by simpa[Pt.vars,eP]using h
  | .mp k,L,cs,h=>by simpa[Pt.vars,eP]using h
  | .oz k,L,cs,h=>by simpa[Pt.vars,eP]using h
  | .nil,L,cs,h=>by simpa[Pt.vars,eP]using h
  | .od k,L,cs,h=>by
   match L,h with
   |d::r,h=>simp only[Pt.vars,aF,List.singleton_append,List.cons.injEq]at h;exact h.2
   |[],h=>simp[Pt.vars]at h
  | .f F fs ps,L,cs,h=>by
   simp only[Pt.vars,aK]at h;exact pm ps _ _ (pm fs L _ h)
  | .a ps,L,cs,h=>by
   simp only[Pt.vars]at h;exact pm ps L cs h
 pm:∀(ps:List (Pt X.ι))(L:List (DC X))(cs:List (CT X.ι)),L.map (·.c)=cP ps++cs->(lh ol ps L).2.map (·.c)=cs
  |[],L,cs,h=>by simpa[cP,lh]using h
  |p::ps,L,cs,h=>by
   simp only[cP,aK]at h;exact pm ps _ _ (C4 p L _ h)
theorem VK:∀(rs:List (List (Pt X.ι)))(L:List (DC X)),∀j∈((vU ol rs L).1.map aP).flatten,j∈rs.flatMap AP
 |[],L,j,h=>by simp[vU]at h
 |r::rs,L,j,h=>by
  simp only[vU,aF,flatten_cons,bf]at h;simp only[List.flatMap_cons,bf];exact h.imp (yF r _ j) (VK rs _ j)
theorem yG:∀(O:List (Nat×OP X.ι))(L:List (DC X)),((dG (dn ol O L)).map (·.1)).Sublist (O.map (·.1))/\(∀ p∈dG (dn ol O L),∃op,(p.1,op)∈O/\∀j∈d5 p.2,j∈op.refs)/\
 (L.map (·.c)=cH O->(O.all λq=>match q.2 with | .l c=>wZ c | .m _ _=>false | .c _ rows=>(vS rows).all wZ)=true->∀p∈dG (dn ol O L),∀r∈(bG p.2).rows,o7 r)
 |[],L=>⟨by simp[dn,dG],by simp[dn,dG],by simp[dn,dG]⟩
 |(k,.l c)::O,L=>by
  match L with
  |[]=>exact⟨by simp[dn,dG],by simp[dn,dG],by simp[dn,dG]⟩
  |⟨.sl c',x⟩::L=>
   have⟨h1,h2,h3⟩:=yG O L;refine⟨?_,?_,?_⟩
   ·simp only[dn,dG,aF];exact h1.cons_cons _
   ·intro p hp;simp only[dn,dG,aN]at hp;rcases hp with rfl |hp
    ·exact⟨.l c,by simp,by simp[d5]⟩
    ·have⟨op,g1,g2⟩:=h2 p hp;exact⟨op,eG _ g1,g2⟩
   ·intro hL hs p hp r hr;simp only[aF,cH,List.cons.injEq]at hL;simp only[all_cons,aL]at hs;simp only[dn,dG,aN]at hp;rcases hp with rfl |hp
    ·obtain⟨e,_⟩:=hL;injection e with e;simp only[bG,aI,mem_map]at hr;obtain⟨q,⟨y,hy,rfl⟩,rfl⟩:=hr;exact Pv (uR (e ▸ hs.1) y)
    ·exact h3 hL.2 hs.2 p hp r hr
  |⟨.int _,x⟩::L=>exact⟨by simp[dn,dG],by simp[dn,dG],by simp[dn,dG]⟩
  |⟨.bool,x⟩::L=>exact⟨by simp[dn,dG],by simp[dn,dG],by simp[dn,dG]⟩
  |⟨.str,x⟩::L=>exact⟨by simp[dn,dG],by simp[dn,dG],by simp[dn,dG]⟩
  |⟨.any,x⟩::L=>exact⟨by simp[dn,dG],by simp[dn,dG],by simp[dn,dG]⟩
  |⟨.mp _ _,x⟩::L=>exact⟨by simp[dn,dG],by simp[dn,dG],by simp[dn,dG]⟩
  |⟨.st _,x⟩::L=>exact⟨by simp[dn,dG],by simp[dn,dG],by simp[dn,dG]⟩
 |(k,.m kc vc)::O,L=>by
  match L with
  |[]=>exact⟨by simp[dn,dG],by simp[dn,dG],by simp[dn,dG]⟩
  |⟨.mp tP tE,x⟩::L=>
   have⟨h1,h2,h3⟩:=yG O L;refine⟨?_,?_,?_⟩
   ·simp only[dn,dG,aF];exact h1.cons_cons _
   ·intro p hp;simp only[dn,dG,aN]at hp;rcases hp with rfl |hp
    ·exact⟨.m kc vc,by simp,by simp[d5]⟩
    ·have⟨op,g1,g2⟩:=h2 p hp;exact⟨op,eG _ g1,g2⟩
   ·intro hL hs;simp at hs
  |⟨.sl _,x⟩::L=>exact⟨by simp[dn,dG],by simp[dn,dG],by simp[dn,dG]⟩
  |⟨.int _,x⟩::L=>exact⟨by simp[dn,dG],by simp[dn,dG],by simp[dn,dG]⟩
  |⟨.bool,x⟩::L=>exact⟨by simp[dn,dG],by simp[dn,dG],by simp[dn,dG]⟩
  |⟨.str,x⟩::L=>exact⟨by simp[dn,dG],by simp[dn,dG],by simp[dn,dG]⟩
  |⟨.any,x⟩::L=>exact⟨by simp[dn,dG],by simp[dn,dG],by simp[dn,dG]⟩
  |⟨.st _,x⟩::L=>exact⟨by simp[dn,dG],by simp[dn,dG],by simp[dn,dG]⟩
 |(k,.c sz rows)::O,L=>by
  have⟨h1,h2,h3⟩:=yG O (vU ol rows L).2;refine⟨?_,?_,?_⟩
  ·simp only[dn,dG,aF];exact h1.cons_cons _
  ·intro p hp;simp only[dn,dG,aN]at hp;rcases hp with rfl |hp
   ·exact⟨.c sz rows,by simp,λj hj=>VK rows L j hj⟩
   ·have⟨op,g1,g2⟩:=h2 p hp;exact⟨op,eG _ g1,g2⟩
  ·intro hL hs p hp r hr;simp only[cH]at hL;simp only[all_cons,aL]at hs;obtain⟨e1,e2⟩:=KL (ol:=ol) rows L _ hL;simp only[dn,dG,aN]at hp;rcases hp with rfl |hp
   ·simp only[bG,mem_map]at hr;obtain⟨q,hq,rfl⟩:=hr;exact e2 hs.1 q hq
   ·exact h3 e1 hs.2 p hp r hr
end
theorem Pw(k:Nat):∀os:List (Nat×bm X),nw (sJ os) k=(tw os k).map bG
 |[]=>rfl
 |(j,o)::r=>by
  simp only[sJ,aF,nw,tw];split
  ·rfl
  ·exact Pw k r
theorem VL(f:Nat->Nat)(c:CT X.ι)(x:CT.T X.toSE c):fX f (CT.tv X.toSE c x).av=(CT.tv X.toSE c x).av:=(zS f (.c c x)).symm
theorem adg(f:Nat->Nat)(o:bm X):bG (oR f o)=JJ f (bG o):=by
 cases o with
 |cells sz rows=>simp only[oR,bG,JJ,map_map];congr 1;exact map_congr_left λr _=>Cm f r
 |d8 c l=>simp only[oR,bG,JJ,aI,map_map];congr 1;exact map_congr_left λr _=>(afN f _).symm
 |map kc vc l=>simp only[oR,bG,JJ,map_map];congr 1;exact map_congr_left λr _=>by simp only[Function.comp_apply,zw,VL]
theorem aiM(i:Nat)(ae:List Nat)(os:List (Nat×bm X)):gW (NB i ae os)=xy i ae (sJ os):=by
 simp only[NB,xy,rO];congr 1
 ·simp only[gW,map_map];refine map_congr_left λp _=>?_;simp only[Function.comp_apply,Pw,Option.map_map];congr 1;cases tw os p.2<;>simp[adg]
 ·simp only[gW,sJ,List.filter_map,map_map];refine map_congr_left λq _=>?_;simp[adg]
theorem VN{ds:List (DV X)}:(∀ j∈refs (den (yD ds)),j∈aP ds)/\(o7 (bL ds)->uN (den (yD ds))):=by
 match ds with
 |[]=>exact⟨λ j hj=>by simp[yD,den,bL,refs,eT]at hj,λ_=>by simp only[yD,den,uN];exact trivial⟩
 |[d]=>exact⟨λ j hj=>by simp only[yD,iL]at hj;simpa[aP]using hj,λh=>h.1⟩
 |d::e::r=>exact⟨λ j hj=>by simp only[yD,den,refs,gY]at hj;exact hj,λh=>h⟩
theorem ZL:∀xs:List (Nat×bm X),dG (xs.map λp=>(p.1,some p.2))=xs
 |[]=>rfl
 |p::xs=>by simp only[aF,dG,ZL xs]
theorem abd{P:Program}{g:cX X}{F:FuncId}(hg:FG P F g){i:Nat}{first args caps:List (DV X)}{get:Nat->Option (bm X)}{k:KK X A}{r:A}(h:afO g i (first++args++caps) get k=some r):
 ∃cw rd wr dv upd ab,jY P i (den (.fn F first caps)) (bL args) cw (dH rd (fw get))=some ab/\jl ab.obs/\ab.v=den dv/\ab.upd=gW upd/\(∀ p∈upd,p.1=cJ i\/p.1∈wr)/\k dv upd rd wr=some r:=by
 unfold afO at h;rw[ai]at h;obtain⟨m1,h1,h⟩:=h;rw[ai]at h;obtain⟨m,h2,h⟩:=h;have⟨h3,h⟩:=dZ h;rw[ai]at h;obtain⟨v,h4,h⟩:=h;have⟨h5,h⟩:=o8 h;rw[ai]at h;obtain⟨rr,h6,h⟩:=h;simp only[aL]at h3;obtain⟨hok,A2⟩:=h3;simp only at h;generalize kq:(List.range g.iz.length).map (qt m)=ae at h A2;simp only[cX.ok,aL,aV]at hok;obtain⟨⟨⟨⟨n1,n2⟩,n3⟩,n4⟩,n5⟩:=hok;simp only[okG,aL,aV]at A2;obtain⟨⟨hnd,hnm⟩,AW⟩:=A2;have hlen:ae.length=g.iz.length:=by rw[<- kq];simp
 have hi:∀q∈m.nm,ae[q.2]? =some q.1:=by
  intro q hq;have:=all_eq_true.1 hnm q hq;split at this
  ·rename_i k' e;rw[e,Nat.eq_of_beq_eq_true this]
  ·cases this
 have hv:∀k∈m.vr,k∉ae:=λk hk=>by
  have:=all_eq_true.1 AW k hk;simpa using this
 have hrd:∀k,(∃ q,(k,q)∈m.nm)\/k∈m.vr->k∈ae++m.vr:=by
  rintro k (⟨q,hq⟩ |hk)
  ·exact List.mem_append_left _ (dh (hi _ hq))
  ·exact mem_append_right _ hk
 have hm2:=(lV _ _ _ h2).1;have vm:=Vw h4;obtain⟨_,nA,dA,lA⟩:=vX _ _ _ _ h1;simp only[bQ]at dA;obtain⟨nB,dB,lB⟩:=DJ (NM:=m.nm) _ _ _ h2 (λ q hq=>hq);have hL:m.ez=nA++nB:=by rw[dB,dA]
 have hdrop:(vT _ v).drop (cP g.px).length=nB:=by rw[vm,hL,<- lA,List.drop_left]
 have htake:(vT _ v).take (cP g.px).length=nA:=by rw[vm,hL,<- lA,List.take_left]
 have ho:∀q∈m.nm,∀c l,get q.1=some (.d8 c l)->AL g.iz nB q.2=l.length:=by
  rintro⟨p,q⟩ hq c l hl;have hq2:=hi _ hq;have hqn:q<g.iz.length:=by rw[<- hlen];exact(dF.1 hq2).1
  obtain⟨p',o,g1,g2,g3⟩:=lB [] q (by rw[n1];exact List.mem_range.2 hqn);have:p'=p:=by
   have e1:=hi _ g1;rw[hq2]at e1;injection e1 with e1;exact e1.symm
  subst this;simp only at hl;rw[hl]at g2;injection g2 with g2;have h3:=g3 c l g2.symm;rw[append_nil]at h3;have hk:=(DK g.iz nB).nodup (by rw[n1];exact List.nodup_range);simp only[AL,uP hk h3,Option.getD_some]
 obtain⟨P2,H5,ds',eA,⟨hs,obs,pA,qA⟩,rA⟩:=xZ (P:=P) (ae:=ae) (rd:=ae++m.vr) (NM:=m.nm) (pL:=m.vr) (dt:=AL g.iz nB) hi hv hrd ho _ _ _ _ h1 (λ q hq=>hm2.1 q hq) (λ c hc=>h5 c (hm2.2.1 c hc)) (λ q hq=>hm2.2.2 q hq);obtain⟨P1,T5,xs,eB,bs,mo,pB,qB,rB⟩:=zT (P:=P) (ae:=ae) (rd:=ae++m.vr) (NM:=m.nm) (pL:=m.vr) (dt:=AL g.iz nB) hi hv hrd ho _ _ _ h2 (λ q hq=>hq) h5 (λ q hq=>hq);have T2:P2=nA:=by simp only[bQ]at H5;rw[<- H5,dA]
 have T1:P1=nB:=List.append_cancel_left (T5.symm.trans dB);subst T2 T1;have H3:=eA [];have H2:=eB [];rw[append_nil]at H3 H2;have hargs:g.args v=ds':=by simp only[cX.args,Vy,hdrop,htake,H3]
 have tj:g.cE v=xs:=by simp only[cX.cE,K0,hdrop,H2,ZL]
 have Ss:(g.iz.map λp=>(ae[p.1]?).getD 0)=ae:=by
  have:(g.iz.map λp=>(ae[p.1]?).getD 0)=(g.iz.map (·.1)).map λj=>(ae[j]?).getD 0:=by rw[map_map];rfl
  rw[this,n1];refine List.ext_getElem (by simp[hlen]) λj a b=>?_;simp[dI b]
 rw[Ss]at qB rB;have qA0:=qA [];rw[append_nil,iA,iA]at qA0;have hcon:=hg v rr h6;rw[hargs,tj]at hcon;obtain⟨s1,s2,s3⟩:=yG (ol:=AL g.ix ((vT (gE (lj 0 g.fy)++cH g.ix) rr).drop (cP g.fy).length)) g.ix ((vT _ rr).drop (cP g.fy).length);have AH:∀k,Hb g.iz.length k=true->As ae.length k:=by
  intro k hk;simp only[Hb,Bool.or_eq_true,aL,Nat.blt_eq,Nat.ble_eq]at hk;simp only[As,hlen];exact hk
 have good:Zp ae.length (sJ (g.outs rr)) (den (g.res rr)):=by
  refine⟨?_,?_,?_,?_⟩
  ·intro q hq;simp only[sJ,mem_map]at hq;obtain⟨p,hp,rfl⟩:=hq;have⟨op,g1,_⟩:=s2 p hp;have:=all_eq_true.1 n3 _ g1;simp only[aL]at this;exact AH _ this.1
  ·have:(sJ (g.outs rr)).map (·.1)=(g.outs rr).map (·.1):=(by simp[sJ]);rw[this];exact s1.nodup n4
  ·intro q hq r' hr' j hj;simp only[sJ,mem_map]at hq;obtain⟨p,hp,rfl⟩:=hq;have⟨op,g1,g2⟩:=s2 p hp;have:=all_eq_true.1 n3 _ g1;simp only[aL]at this;refine AH _ (all_eq_true.1 this.2 j (g2 j ?_));obtain⟨pk,po⟩:=p;cases po with
   |cells sz rows=>exact ML (List.mem_flatMap.2 ⟨r',hr',hj⟩)
   |d8 c l=>
    simp only[bG,aI,mem_map]at hr';obtain⟨z,_,rfl⟩:=hr';rw[aa9]at hj;simp at hj
   |map kc vc l=>
    simp only[bG,mem_map]at hr';obtain⟨z,_,rfl⟩:=hr';simp only[eT,zQ,append_nil]at hj;simp at hj
  ·intro j hj;have:=(VN (ds:=Vy g.fy g.ix (vT _ rr))).1 j hj;exact AH _ (all_eq_true.1 n5 j (yF g.fy _ j this))
 have flat:g.flat=true->m9 (sJ (g.outs rr)) (den (g.res rr)):=by
  intro hf;simp only[cX.flat,aL]at hf;have hc:(vT (gE (lj 0 g.fy)++cH g.ix) rr).map (·.c)=cP g.fy++cH g.ix:=(Z3 _ rr).trans (by rw[Pp]);refine⟨(VN (ds:=Vy g.fy g.ix (vT _ rr))).2 ?_,?_⟩
  ·refine(Co (ol:=_) g.fy _ [] ?_ hf.1).1;rw[append_nil,map_take,hc,List.take_left]
  ·intro q hq r' hr';simp only[sJ,mem_map]at hq;obtain⟨p,hp,rfl⟩:=hq;exact s3 (by rw[map_drop,hc,List.drop_left]) hf.2 p hp r' hr'
 have cT:U7 (dH (ae++m.vr) (fw get)) (bL first++bL args++bL caps) ae m.vr bs:=by
  refine⟨hv,λj hj hn=>?_,λj hs' q o e1 e2 e3 z hz hn=>?_⟩
  ·rw[<- iA,<- iA,gY]at hj;rcases rA j hj with ⟨q,hq⟩ |hj
   ·exact absurd (dh (hi _ hq)) hn
   ·exact hj
  ·rcases rB j hs' q o e1 e2 e3 z hz with ⟨q',hq⟩ |hz
   ·exact absurd (dh (hi _ hq)) hn
   ·exact hz
 refine⟨.tA ae m.vr bs hs (sJ (g.outs rr)) (den (g.res rr)) g.flat,ae++m.vr,_,_,_,
  ⟨fX (cn i ae) (den (g.res rr)),xy i ae (sJ (g.outs rr))++(if g.flat then []else m.vr.map λk=>(k,none)),obs++mo++[ye P F (bL ds') (xs.map λp=>bG p.2) (sJ (g.outs rr)) (den (g.res rr)),Zp ae.length (sJ (g.outs rr)) (den (g.res rr)),U7 (dH (ae++m.vr) (fw get)) (bL first++bL args++bL caps) ae m.vr bs]++(if g.flat then [m9 (sJ (g.outs rr)) (den (g.res rr))]else [])⟩,?_,?_,(zS _ _).symm,?_,?_,h⟩
 ·simp only[den,jY,Mi,qB,qA0,af];rw[aX ⟨hnd,by omega⟩]
 ·refine qK _ (gM (gM (gM pA pB) ?_) ?_)
  ·intro z hz;simp only[aN,fu,or_false]at hz;rcases hz with rfl |rfl |rfl
   ·exact hcon
   ·exact good
   ·exact cT
  ·intro z hz;cases hf:g.flat with
   |true=>rw[hf]at hz;simp only[if_true,aW]at hz;subst hz;exact flat hf
   |false=>rw[hf]at hz;simp at hz
 ·simp only[rO,aiM];congr 1;cases g.flat with
  |true=>rfl
  |false=>exact(Cj m.vr).symm
 ·intro p hp;refine .inr ?_;rcases bf.1 hp with hp |hp
  ·exact List.mem_append_left _ (mem_append_right _ (mem_map.2 ⟨p,hp,rfl⟩))
  ·cases hf:g.flat with
   |true=>rw[hf]at hp;simp at hp
   |false=>
    rw[hf]at hp;simp only[Bool.false_eq_true,if_false,mem_map]at hp;obtain⟨z,hz,rfl⟩:=hp;exact mem_append_right _ hz
end
section
variable {X:SX} {A:Type}
def VO:RT X.ι->Bool
 | .d c=>wZ c
 | .fresh e=>wZ e
 | .whole _=>true
 | .mu c=>wZ c
 | .mr c=>wZ c
 | .mv=>true
theorem adh{c:CT X.ι}(h:wZ c=true)(x:CT.T X.toSE c):(CT.tv X.toSE c x).flat:=by
 cases c
 case st i=>exact uR h x
 all_goals first |exact trivial |cases h
theorem VP{ns:List Nat}{q:RT X.ι}{x:RT.T X q}(h:VO q=true):∀c∈Vz ns q x,c.flat:=by
 intro c hc;cases q<;>simp only[Vz,aW,fu]at hc
 case d c=>subst hc;exact adh h x
 case fresh e=>
  subst hc;intro row hr;obtain⟨y,_,rfl⟩:=mem_map.1 hr;exact uR h y
 case whole j=>subst hc;exact trivial
theorem Rn{ns:List Nat}:∀{l:List (RT X.ι)}{x:sD X l},l.all VO=true->∀c∈AO ns l x,c.flat
 |[],x,_,c,hc=>by simp[AO]at hc
 |[q],x,h,c,hc=>VP (by simpa using h) c hc
 |q::q'::l,x,h,c,hc=>by
  simp only[all_cons,aL]at h;simp only[AO,bf]at hc;rcases hc with hc |hc
  ·exact VP h.1 c hc
  ·exact Rn (by simp only[all_cons,aL];exact h.2) c hc
theorem VQ{l:List (RT X.ι)}(x:sD X l)(h:l.all VO=true):(sK l x).flat:=by
 have:=Rn (ns:=xF l x) (x:=x) h;unfold sK;split
 ·rename_i c hc;exact this c (by rw[hc];simp)
 ·exact this
theorem ZM{q:RT X.ι}{x:RT.T X q}(h:VO q=true):UR (pY q x):=by
 intro p hp;cases q<;>simp only[pY,aW,fu,aA,reduceCtorEq]at hp
 case mu c=>
  subst hp;intro r hr;obtain⟨y,_,rfl⟩:=mem_map.1 hr;exact uR h y
 case mr c=>
  subst hp;intro r hr;obtain⟨y,_,rfl⟩:=mem_map.1 hr;exact uR h y
theorem ZN:∀{l:List (RT X.ι)}{x:sD X l},l.all VO=true->UR (nN l x)
 |[],x,_=>λp hp=>by simp[nN]at hp
 |[q],x,h=>ZM (q:=q) (by simpa using h)
 |q::q'::l,x,h=>by
  simp only[all_cons,aL]at h;intro p hp;rcases bf.1 (show some p∈pY q x.1++nN (q'::l) x.2 from hp)with hp |hp
  ·exact ZM h.1 p hp
  ·exact ZN (l:=q'::l) (by simp only[all_cons,aL];exact h.2) p hp
def GY(i:Nat)(ae ns:List Nat):(q:RT X.ι)->RT.T X q->List (DV X)×List (Nat×Option (bm X))
 | .d c,x=>([.c c x],[])
 | .fresh e,l=>([.own (cJ i) 0 l.length],[(cJ i,some (.d8 e l))])
 | .whole j,_=>([match ae[j]? with |some k=> .own k 0 (ns.getD j 0) |none=> .undef],[])
 |_,_=>([],[])
def Km(i:Nat)(ae ns:List Nat):(l:List (RT X.ι))->sD X l->Option (List (DV X)×List (Nat×Option (bm X)))
 |[],_=>some ([],[])
 |[q],x=>some (GY i ae ns q x)
 |q::q'::l,x=>(Km i ae ns (q'::l) x.2).bind λp=>if (GY i ae ns q x.1).2.isEmpty || p.2.isEmpty then some ((GY i ae ns q x.1).1++p.1,(GY i ae ns q x.1).2++p.2)else none
def aoM:List (DV X)->DV X
 |[d]=>d
 |ds=> .eC ds
def FA(i:Nat)(ae:List Nat)(l:List (RT X.ι))(x:sD X l):Option (DV X×List (Nat×Option (bm X))):=
 (Km i ae (xF l x) l x).bind λp=>some (aoM p.1,p.2)
theorem abe(u:List (Nat×Option (bm X))):(gW u).isEmpty=u.isEmpty:=by cases u<;>rfl
theorem ZO(i:Nat)(ae ns:List Nat)(q:RT X.ι)(x:RT.T X q):(∃ c,Vz ns q x=[c]/\∃d,(GY i ae ns q x).1=[d]/\JI i ae c=(den d,gW (GY i ae ns q x).2))\/(Vz ns q x=[]/\GY i ae ns q x=([],[])):=by
 cases q
 case d c=>exact .inl ⟨_,rfl,_,rfl,rfl⟩
 case fresh e=>exact .inl ⟨_,rfl,_,rfl,by simp[JI,GY,den,gW,bG,aI]⟩
 case whole j=>
  refine .inl ⟨_,rfl,_,rfl,?_⟩;simp only[JI,gW,GY,map_nil,Prod.mk.injEq,and_true];cases ae[j]?<;>rfl
 all_goals exact .inr ⟨rfl,rfl⟩
theorem adi(i:Nat)(ae:List Nat)(c:RC):L9 i ae [c]=some ([(JI i ae c).1],(JI i ae c).2):=by simp[L9]
theorem ZP(i:Nat)(ae ns:List Nat):∀(l:List (RT X.ι))(x:sD X l)(p:List (DV X)×List (Nat×Option (bm X))),Km i ae ns l x=some p->L9 i ae (AO ns l x)=some (bL p.1,gW p.2)
 |[],_,p,h=>by simp only[Km,aA]at h;subst h;rfl
 |[q],x,p,h=>by
  simp only[Km,aA]at h;subst h;simp only[AO];rcases ZO i ae ns q x with ⟨c,h1,d,h2,h3⟩ |⟨h1,h2⟩
  ·rw[h1,adi,h2,h3];simp[bL]
  ·rw[h1,h2];rfl
 |q::q'::l,x,p,h=>by
  simp only[Km]at h;rw[ai]at h;obtain⟨p',h1,h⟩:=h;have ih:=ZP i ae ns (q'::l) x.2 p' h1;split at h
  ·rename_i hc;cases h;simp only[AO];rcases ZO i ae ns q x.1 with ⟨c,h1,d,h2,h3⟩ |⟨h1,h2⟩
   ·rw[h1];simp only[List.singleton_append,L9,ih,af,h3,abe];rw[aX hc,h2];simp[bL,gW]
   ·rw[h1,h2];simp only[bQ];exact ih
  ·cases h
theorem adj{i:Nat}{ae:List Nat}{l:List (RT X.ι)}{x:sD X l}{p:DV X×List (Nat×Option (bm X))}(h:FA i ae l x=some p):imp i ae (sK l x)=some (den p.1,gW p.2):=by
 unfold FA at h;rw[ai]at h;obtain⟨p',h1,h⟩:=h;cases h;have ih:=ZP i ae _ l x p' h1;unfold sK;split
 ·rename_i c hc;rw[hc,adi]at ih;simp only[aA,Prod.mk.injEq]at ih;obtain⟨ds,u⟩:=p'
  match ds,ih with
  |[d],ih=>
   simp only[bL,List.cons.injEq,and_true]at ih;simp only[imp,aoM,<- ih.1,<- ih.2]
  |[],ih=>simp[bL]at ih
  |_::_::_,ih=>simp[bL]at ih
 ·rename_i hne;simp only[imp,ih,af];obtain⟨ds,u⟩:=p'
  match ds,ih with
  |[],_=>rfl
  |_::_::_,_=>rfl
  |[d],ih=>
   exfalso;generalize hcs:AO (xF l x) l x=cs at ih hne
   match cs,ih,hne with
   |[],ih,_=>simp[L9,bL]at ih
   |[c],_,hne=>exact hne c rfl
   |c::c'::cs,ih,_=>
    simp only[L9]at ih;cases h3:L9 i ae cs with
    |none=>rw[h3]at ih;simp at ih
    |some q=>
     rw[h3]at ih;simp only[af]at ih;split at ih
     ·simp only[af]at ih;split at ih
      ·simp[bL]at ih
      ·cases ih
     ·simp at ih
def My:(q:RT X.ι)->RT.T X q->List (Option (bm X))
 | .mu c,x=>[some (.d8 c x)]
 | .mr c,x=>[some (.cells (CT.sz X c) [uQ c x])]
 | .mv,_=>[none]
 |_,_=>[]
def VU:(l:List (RT X.ι))->sD X l->List (Option (bm X))
 |[],_=>[]
 |[q],x=>My q x
 |q::q'::l,x=>My q x.1++VU (q'::l) x.2
def GZ:List Nat->List (Option (bm X))->List (Nat×Option (bm X))
 |k::ae,p::os=>(k,p)::GZ ae os
 |_,_=>[]
theorem adk(q:RT X.ι)(x:RT.T X q):(My q x).map (·.map bG)=(pY q x).map (·.map gA):=by
 cases q<;>try rfl
 case mr c=>simp only[My,pY,aF,map_nil,Option.map_some,bG,gA,q9,aI,oJ]
theorem Px:∀(l:List (RT X.ι))(x:sD X l),(VU l x).map (·.map bG)=(nN l x).map (·.map gA)
 |[],_=>rfl
 |[q],x=>adk q x
 |q::q'::l,x=>by simp only[VU,nN,map_append,adk,Px (q'::l) x.2]
theorem ZQ:∀(ae:List Nat)(os:List (Option (bm X)))(os':List (Option fe)),os.map (·.map bG)=os'.map (·.map gA)->gW (GZ ae os)=Au ae os'
 |[],_,_,_=>by simp[GZ,Au,gW]
 |_::_,[],[],_=>rfl
 |k::ae,p::os,p'::os',h=>by
  simp only[aF,List.cons.injEq]at h;have:=ZQ ae os os' h.2;simp only[gW]at this;simp only[GZ,Au,gW,aF,h.1,this]
 |_::_,[],_::_,h=>by simp at h
 |_::_,_::_,[],h=>by simp at h
theorem KM:∀{ae:List Nat}{os:List (Option (bm X))}{p:Nat×Option (bm X)},p∈GZ ae os->p.1∈ae
 |[],_,_,h=>by simp[GZ]at h
 |_::_,[],_,h=>by simp[GZ]at h
 |k::ae,q::os,p,h=>by
  simp only[GZ,aN]at h;rcases h with rfl |h
  ·simp
  ·exact eG _ (KM h)
def abf(get:Nat->Option (bm X))(d:DV X)(c:CT X.ι):Option (List (CT.T X.toSE c)×Nat×List Bool):=
 match d with
 | .own k 0 len=>(get k).bind λo=>match o with
  | .d8 b l=>(jr (.sl b) (.sl c) l).bind λ(l:List (CT.T X.toSE c))=>some (l,k,[az len (List.length l)])
  |_=>none
 |_=>none
def VW(get:Nat->Option (bm X))(d:DV X)(c:CT X.ι):Option (CT.T X.toSE c×Nat):=
 match d with
 | .ptr k 0 0=>(get k).bind λo=>match o with
  | .cells sz [row]=>if sz=CT.sz X c then(GN c row).bind λx=>some (x,k)else none
  |_=>none
 |_=>none
def oK(Γ:FuncId->Option (bx X))(get:Nat->Option (bm X)):List (DV X)->(l:List (AT X.ι))->Option (iF X l×List Nat×List Bool)
 |[],[]=>some ((),[],[])
 |d::ds,.mut c::l=>(abf get d c).bind λx=>(oK Γ get ds l).bind λh=>some ((x.1,h.1),x.2.1::h.2.1,x.2.2++h.2.2)
 |d::ds,.ju c::l=>(VW get d c).bind λx=>(oK Γ get ds l).bind λh=>some ((x.1,h.1),x.2::h.2.1,h.2.2)
 |d::ds,.d c::l=>(Rk Γ get 3 [d] [.d c]).bind λx=>(oK Γ get ds l).bind λh=>some ((x.1.1,h.1),h.2.1,x.2++h.2.2)
 |d::ds,.ref c::l=>(Rk Γ get 3 [d] [.ref c]).bind λx=>(oK Γ get ds l).bind λh=>some ((x.1.1,h.1),h.2.1,x.2++h.2.2)
 |d::ds,.d7 as r::l=>(Rk Γ get 3 [d] [.d7 as r]).bind λx=>(oK Γ get ds l).bind λh=>some ((x.1.1,h.1),h.2.1,x.2++h.2.2)
 |d::ds,.nil::l=>match d with
  | .nil=>(oK Γ get ds l).bind λh=>some (((),h.1),h.2.1,h.2.2)
  |_=>none
 |_,_=>none
def Ji:List (DV X)->List (AT X.ι)->List Nat
 |d::ds,a::l=>(if a.im then []else bk d)++Ji ds l
 |_,_=>[]
def Py(get:Nat->Option (bm X)):List (DV X)->(l:List (CT X.ι))->Option (HL X.toSE l×List Bool)
 |[],[]=>some ((),[])
 |d::ds,c::l=>(E9 get d c).bind λx=>(Py get ds l).bind λh=>some ((x.1,h.1),x.2++h.2)
 |_,_=>none
variable (Γ:FuncId->Option (bx X))
def WD(i:Nat)(f:DV X)(args:List (DV X))(get:Nat->Option (bm X))(k:KK X A):Option A:=
 match f with
 | .fn F first caps=>(Γ F).bind λs=>match s.gen.filter λg=>(sf get g.px (first++args++caps) ⟨[],[],[],[]⟩).isSome with
  |some g=>afO g i (first++args++caps) get k
  |none=>if (s.args.all (λ q=>q.pl)&&s.res.all (λ q=>!q.out))=true then(Rk Γ get 3 (first++args++caps) s.args).bind λa=>Vm a.2 ((s.fn a.1).bind λx=>(FA i [] s.res x).bind λp=>
   if s.res.all VO then k p.1 p.2 (aP (first++args++caps)) []
   else k p.1 (p.2++MH (aP (first++args++caps))) (aP (first++args++caps)) (aP (first++args++caps)))
  else(oK Γ get (first++args++caps) s.args).bind λa=>Vm a.2.2 ((s.fn a.1).bind λx=>(FA i a.2.1 s.res x).bind λp=>
   if (decide a.2.1.Nodup&&(Ji (first++args++caps) s.args).all (λ j=>!a.2.1.contains j)&&decide ((VU s.res x).length=a.2.1.length))=true then
    if s.res.all VO then k p.1 (p.2++GZ a.2.1 (VU s.res x)) (aP (first++args++caps)) a.2.1
    else k p.1 (p.2++(GZ a.2.1 (VU s.res x)++MH ((aP (first++args++caps)).filter λj=>!a.2.1.contains j))) (aP (first++args++caps)) (a.2.1++(aP (first++args++caps)).filter λj=>!a.2.1.contains j)
   else none)
 | .d7 as q φ=>(Py get args as).bind λh=>Vm h.2 ((φ h.1).bind λy=>
  if wZ q then k (.c q y) [] (aP args) []else k (.c q y) (MH (aP args)) (aP args) (aP args))
 |_=>none
def DM(fz:List Nat)(T:ea)(am:TypeId->Option (CT X.ι))(i:Nat)(o:Op)(ρ:Operand->DV X)(get:Nat->Option (bm X))(k:KK X A):Option A:=
 match o with
 | .call { callee:= .value f,args:=args,argTypes:=_ }=>WD Γ i (ρ f) (args.toList.map ρ) get k
 |o=>if aoJ o ρ then UV T am i o ρ get k else if aoK o ρ || fz.contains i then Up T am i o ρ get k else if aoL T o ρ then T8 T am o ρ get k else Lw T am i o ρ get k
variable {Γ}
theorem MN{P:Program}{get:Nat->Option (bm X)}{rd:List Nat}:∀{ds:List (DV X)}{l:List (CT X.ι)}{h:HL X.toSE l×List Bool},Py get ds l=some h->(∀ b∈h.2,b=true)->(∀ j∈aP ds,j∈rd)->
 ∃hs obs,(∀ p∈obs,p)/\∀ag,l7 P (dH rd (fw get)) (bL ds) (hs++ag)=some ((HL.np X.toSE l h.1).map TV.av,ag,obs)
 |[],[],h,_,_,_=>⟨[],[],by simp,λag=>rfl⟩
 |d::ds,c::l,h,hr,hc,hrd=>by
  simp only[Py]at hr;have⟨x,h1,hr⟩:=ai.1 hr;have⟨g,h2,hr⟩:=ai.1 hr;cases hr;obtain⟨hs1,o1,p1,q1⟩:=zR (P:=P) (rd:=rd) h1 (λ b hb=>hc b (by simp[hb])) (λ j hj=>hrd j (by simp[aP,hj]));obtain⟨hs2,o2,p2,q2⟩:=MN (P:=P) (rd:=rd) h2 (λ b hb=>hc b (by simp[hb])) (λ j hj=>hrd j (by simp[aP,hj]));refine⟨hs1++hs2,o1++o2,gM p1 p2,λag=>?_⟩;simp only[bL,l7,aK,q1,af,q2];rfl
 |[],_::_,_,hr,_,_=>by simp[Py]at hr
 |_::_,[],_,hr,_,_=>by simp[Py]at hr
theorem VX{i:Nat}{ae ns:List Nat}{q:RT X.ι}{x:RT.T X q}:∀p∈(GY i ae ns q x).2,p.1=cJ i:=by cases q<;>simp[GY]
theorem VY{i:Nat}{ae ns:List Nat}:∀{l:List (RT X.ι)}{x:sD X l}{p:List (DV X)×List (Nat×Option (bm X))},Km i ae ns l x=some p->∀q∈p.2,q.1=cJ i
 |[],_,p,h=>by simp only[Km,aA]at h;subst h;simp
 |[q],x,p,h=>by simp only[Km,aA]at h;subst h;exact VX
 |q::q'::l,x,p,h=>by
  simp only[Km]at h;have⟨p',h1,h⟩:=ai.1 h;split at h
  ·cases h;intro z hz;rcases bf.1 hz with hz |hz
   ·exact VX z hz
   ·exact VY h1 z hz
  ·cases h
theorem ZR{i:Nat}{ae:List Nat}{l:List (RT X.ι)}{x:sD X l}{p:DV X×List (Nat×Option (bm X))}(h:FA i ae l x=some p):∀q∈p.2,q.1=cJ i:=by
 unfold FA at h;have⟨p',h1,h⟩:=ai.1 h;cases h;exact VY h1
theorem G5{P:Program}{get:Nat->Option aS}{x:AV}{hs ag:List LH}{y:AV}{o:List Prop}(h:l7 P get [x] hs=some ([y],ag,o)):nL P get x hs=some (y,ag,o):=by
 simp only[l7,af,append_nil,ai,aA,Prod.mk.injEq,List.cons.injEq,and_true]at h;obtain⟨q,h1,h2,h3,h4⟩:=h;rw[h1,<- h2,<- h3,<- h4]
theorem kU{d:DV X}{ds:List (DV X)}{a:AT X.ι}{l:List (AT X.ι)}{P:Nat->Prop}(h:∀j∈Ji (d::ds) (a::l),P j):(a.im=false->∀j∈bk d,P j)/\∀j∈Ji ds l,P j:=by
 simp only[Ji,bf]at h;exact⟨λ e j hj=>h j (.inl (by rw[e];simpa using hj)),λj hj=>h j (.inr hj)⟩
theorem aod{c:CT X.ι}{l:List (CT.T X.toSE c)}:dW ((aI (l.map (CT.row X.toSE c))).take (l.map (CT.row X.toSE c)).length)=aI (l.map (CT.row X.toSE c)):=by
 rw[List.take_of_length_le (by simp[aI])];simp only[dW,aI,map_map];exact map_congr_left λy _=>by
  simp only[Function.comp,map_map];exact map_congr_left λz _=>rfl
theorem YC{get:Nat->Option (bm X)}{d:DV X}{c:CT X.ι}{x:List (CT.T X.toSE c)×Nat×List Bool}(h:abf get d c=some x)(hc:∀b∈x.2.2,b=true):
 d= .own x.2.1 0 (List.length x.1)/\∃o,get x.2.1=some o/\(bG o).sz=(q9 c x.1).1/\dW ((bG o).rows.take (q9 c x.1).2.length)=aI (q9 c x.1).2:=by
 unfold abf at h;split at h
 ·rename_i k len;rw[ai]at h;obtain⟨o,h1,h⟩:=h;split at h
  ·rename_i b l;rw[ai]at h;obtain⟨l',h2,h⟩:=h;cases h;have⟨h3,h4⟩:=jc h2;have h5:len=List.length l':=(by simpa[az]using hc (az len (List.length l')) (by simp));refine⟨by rw[h5],.d8 b l,h1,by simp only[bG,q9];exact h3,?_⟩;simp only[bG,q9,h4];exact aod
  ·cases h
 ·cases h
theorem VZ{get:Nat->Option (bm X)}{d:DV X}{c:CT X.ι}{x:CT.T X.toSE c×Nat}(h:VW get d c=some x):
 d= .ptr x.2 0 0/\∃o,get x.2=some o/\(bG o).sz=(q9 c [x.1]).1/\dW ((bG o).rows.take (q9 c [x.1]).2.length)=aI (q9 c [x.1]).2:=by
 unfold VW at h;split at h
 ·rename_i k;rw[ai]at h;obtain⟨o,h1,h⟩:=h;split at h
  ·rename_i sz row;split at h
   ·rename_i hsz;have⟨y,h2,h⟩:=ai.1 h;cases h;refine⟨rfl,_,h1,by simp only[bG,q9];exact hsz,?_⟩;simp only[bG,q9,aF,map_nil,List.length_singleton,List.take_succ_cons,List.take_zero,dW,aI];rw[xX h2]
   ·cases h
  ·cases h
 ·cases h
theorem ni{P:Program}{Γ:FuncId->Option (bx X)}(hΓ:sC P Γ){get:Nat->Option (bm X)}{rd ae:List Nat}:∀{n:Nat}{ds:List (DV X)}{l:List (AT X.ι)}{a:iF X l×List Nat×List Bool},oK Γ get ds l=some a->(∀ b∈a.2.2,b=true)->(∀ j∈aP ds,j∈rd)->(∀ j∈Ji ds l,j∉ae)->ae.drop n=a.2.1->
 (∃ hs obs,(∀ p∈obs,p)/\∀ag,lU P (dH rd (fw get)) ae (bL ds) (hs++ag)=some (dO n l a.1,ag,obs))/\∃mo,Ar (dH rd (fw get)) a.2.1 (pX l a.1)=some mo/\∀p∈mo,p
 |n,[],[],a,h,_,_,_,_=>by
  simp only[oK,aA]at h;subst h;exact⟨⟨[],[],by simp,λag=>rfl⟩,[],rfl,by simp⟩
 |n,d::ds,.mut c::l,a,h,hc,hrd,hnr,hid=>by
  simp only[oK]at h;have⟨x,h1,h⟩:=ai.1 h;have⟨q,h2,h⟩:=ai.1 h;cases h;obtain⟨rfl,o,g1,g2,g3⟩:=YC h1 (λ b hb=>hc b (by simp[hb]));have By:ae[n]? =some x.2.1:=by rw[<- List.head?_drop,hid];rfl
  have BC:ae.drop (n+1)=q.2.1:=by rw[<- List.tail_drop,hid];rfl
  obtain⟨⟨hs,obs,p1,p2⟩,mo,m1,m2⟩:=ni hΓ (n:=n+1) h2 (λ b hb=>hc b (by simp[hb])) (λ j hj=>hrd j (by simp[aP,hj])) (kU hnr).2 BC;refine⟨⟨.mut n::hs,obs,p1,λag=>?_⟩,((bG o).sz=(q9 c x.1).1/\dW ((bG o).rows.take (q9 c x.1).2.length)=aI (q9 c x.1).2)::mo,?_,?_⟩
  ·simp only[bL,den,lU,cons_append,oH,By,if_true,af,p2,dO,bQ]
  ·simp only[pX,Ar,eu (hrd x.2.1 (by simp[aP,bk])) g1,af,m1]
  ·intro p hp;rcases aN.1 hp with rfl |hp
   ·exact⟨g2,g3⟩
   ·exact m2 p hp
 |n,d::ds,.ju c::l,a,h,hc,hrd,hnr,hid=>by
  simp only[oK]at h;have⟨x,h1,h⟩:=ai.1 h;have⟨q,h2,h⟩:=ai.1 h;cases h;obtain⟨rfl,o,g1,g2,g3⟩:=VZ h1;have By:ae[n]? =some x.2:=by rw[<- List.head?_drop,hid];rfl
  have BC:ae.drop (n+1)=q.2.1:=by rw[<- List.tail_drop,hid];rfl
  obtain⟨⟨hs,obs,p1,p2⟩,mo,m1,m2⟩:=ni hΓ (n:=n+1) h2 (λ b hb=>hc b (by simp[hb])) (λ j hj=>hrd j (by simp[aP,hj])) (kU hnr).2 BC;refine⟨⟨.mut n::hs,obs,p1,λag=>?_⟩,((bG o).sz=(q9 c [x.1]).1/\dW ((bG o).rows.take (q9 c [x.1]).2.length)=aI (q9 c [x.1]).2)::mo,?_,?_⟩
  ·simp only[bL,den,lU,cons_append,oH,By,if_true,af,p2,dO,bQ]
  ·simp only[pX,Ar,eu (hrd x.2 (by simp[aP,bk])) g1,af,m1]
  ·intro p hp;rcases aN.1 hp with rfl |hp
   ·exact⟨g2,g3⟩
   ·exact m2 p hp
 |n,d::ds,.d c::l,a,h,hc,hrd,hnr,hid=>by
  simp only[oK]at h;have⟨x,h1,h⟩:=ai.1 h;have⟨q,h2,h⟩:=ai.1 h;cases h;obtain⟨hs1,o1,p1,q1⟩:=rM (P:=P) hΓ 3 (n:=n) h1 (λ b hb=>hc b (by simp[hb])) (rd:=rd) (λ j hj=>hrd j (by simp only[aP,append_nil]at hj;simp[aP,hj]));obtain⟨⟨hs,obs,p2,q2⟩,mo,m1,m2⟩:=ni hΓ (n:=n) h2 (λ b hb=>hc b (by simp[hb])) (λ j hj=>hrd j (by simp[aP,hj])) (kU hnr).2 hid;refine⟨⟨YB (den d) hs1++hs,o1++obs,gM p1 p2,λag=>?_⟩,mo,m1,m2⟩;have:=xY (G5 (q1 (hs++ag))) (λ k hk=>(kU hnr).1 rfl k (by rwa [iL]at hk));rw[MK]at this;simp only[bL,lU,aK,this,af,q2,dO]
 |n,d::ds,.ref c::l,a,h,hc,hrd,hnr,hid=>by
  simp only[oK]at h;have⟨x,h1,h⟩:=ai.1 h;have⟨q,h2,h⟩:=ai.1 h;cases h;obtain⟨hs1,o1,p1,q1⟩:=rM (P:=P) hΓ 3 (n:=n) h1 (λ b hb=>hc b (by simp[hb])) (rd:=rd) (λ j hj=>hrd j (by simp only[aP,append_nil]at hj;simp[aP,hj]));obtain⟨⟨hs,obs,p2,q2⟩,mo,m1,m2⟩:=ni hΓ (n:=n) h2 (λ b hb=>hc b (by simp[hb])) (λ j hj=>hrd j (by simp[aP,hj])) (kU hnr).2 hid;refine⟨⟨YB (den d) hs1++hs,o1++obs,gM p1 p2,λag=>?_⟩,mo,m1,m2⟩;have:=xY (G5 (q1 (hs++ag))) (λ k hk=>(kU hnr).1 rfl k (by rwa [iL]at hk));rw[MK]at this;simp only[bL,lU,aK,this,af,q2,dO]
 |n,d::ds,.d7 as r::l,a,h,hc,hrd,hnr,hid=>by
  simp only[oK]at h;have⟨x,h1,h⟩:=ai.1 h;have⟨q,h2,h⟩:=ai.1 h;cases h;obtain⟨hs1,o1,p1,q1⟩:=rM (P:=P) hΓ 3 (n:=n) h1 (λ b hb=>hc b (by simp[hb])) (rd:=rd) (λ j hj=>hrd j (by simp only[aP,append_nil]at hj;simp[aP,hj]));obtain⟨⟨hs,obs,p2,q2⟩,mo,m1,m2⟩:=ni hΓ (n:=n) h2 (λ b hb=>hc b (by simp[hb])) (λ j hj=>hrd j (by simp[aP,hj])) (kU hnr).2 hid;refine⟨⟨YB (den d) hs1++hs,o1++obs,gM p1 p2,λag=>?_⟩,mo,m1,m2⟩;have:=xY (G5 (q1 (hs++ag))) (λ k hk=>(kU hnr).1 rfl k (by rwa [iL]at hk));rw[MK]at this;simp only[bL,lU,aK,this,af,q2,dO]
 |n,d::ds,.nil::l,a,h,hc,hrd,hnr,hid=>by
  simp only[oK]at h;split at h
  ·have⟨q,h2,h⟩:=ai.1 h;cases h;obtain⟨⟨hs,obs,p2,q2⟩,mo,m1,m2⟩:=ni hΓ (n:=n) h2 hc (λ j hj=>hrd j (by simp[aP,hj])) (kU hnr).2 hid;refine⟨⟨.nil::hs,obs,p2,λag=>?_⟩,mo,m1,m2⟩;have:=xY (P:=P) (get':=dH rd (fw get)) (ae:=ae) (x:= .cV) (hs:= .nil::(hs++ag)) (p:=(.cV,hs++ag,[])) rfl (λ k hk=>by simp[refs]at hk);simp only[YB]at this;simp only[bL,den,lU,cons_append,this,af,q2,dO,bQ]
  ·cases h
 |_,[],_::_,_,h,_,_,_,_=>by simp[oK]at h
 |_,_::_,[],_,h,_,_,_,_=>by simp[oK]at h
theorem adl{P:Program}(hΓ:sC P Γ){i:Nat}{f:DV X}{args:List (DV X)}{get:Nat->Option (bm X)}{k:KK X A}{r:A}(h:WD Γ i f args get k=some r):
 ∃cw rd wr dv upd ab,jY P i (den f) (bL args) cw (dH rd (fw get))=some ab/\jl ab.obs/\ab.v=den dv/\ab.upd=gW upd/\(∀ p∈upd,p.1=cJ i\/p.1∈wr)/\k dv upd rd wr=some r:=by
 unfold WD at h;split at h
 ·rename_i F first caps
  rw[ai]at h;obtain⟨s,h1,h⟩:=h;split at h
  ·rename_i g hgen;exact abd ((hΓ F s h1).2.2 g (Option.filter_eq_some_iff.1 hgen).1) h
  split at h
  ·rename_i hpure;rw[ai]at h;obtain⟨⟨a,cs⟩,h2,h⟩:=h;have⟨hcs,h⟩:=o8 h;rw[ai]at h;obtain⟨x,h3,h⟩:=h;rw[ai]at h;obtain⟨p,h4,h⟩:=h;have hf0:=(hΓ F s h1).2.1 a x h3;simp only[aL]at hpure;rw[vW (aoH hpure.1),ac2 hpure.2]at hf0;have hf:=Mt hf0;have hi:=adj h4;have hk:=ZR h4;obtain⟨hs,obs,g1,g2⟩:=rM (P:=P) hΓ 3 h2 hcs (rd:=aP (first++args++caps)) (λ j hj=>hj);have g3:=g2 [];rw[append_nil,iA,iA]at g3;have hrefs:eT (bL first++bL args++bL caps)=aP (first++args++caps):=(by rw[<- iA,<- iA,gY]);split at h
   ·rename_i hfl;refine⟨.call hs (sK s.res x) true,_,[],p.1,p.2,⟨den p.1,gW p.2,obs++[ra P F (vV s.args a) (sK s.res x),(sK s.res x).flat]⟩,?_,?_,rfl,rfl,λq hq=> .inl (hk q hq),h⟩
    ·simp only[den,jY,oI,xk,hi,af,g3];rfl
    ·exact qK _ (gM g1 (by
      intro q hq;simp only[aN,fu,or_false]at hq;rcases hq with rfl |rfl
      ·exact hf
      ·exact VQ x hfl))
   ·refine⟨.call hs (sK s.res x) false,_,_,p.1,_,⟨den p.1,gW p.2++(aP (first++args++caps)).map (λ k=>(k,none)),obs++[ra P F (vV s.args a) (sK s.res x)]⟩,?_,?_,rfl,?_,?_,h⟩
    ·simp only[den,jY,oI,xk,hi,af,g3,hrefs];rfl
    ·exact qK _ (gM g1 (by
      intro q hq;simp only[aW]at hq;subst hq;exact hf))
    ·simp only[rO,Cj]
    ·intro q hq;rcases bf.1 hq with hq |hq
     ·exact .inl (hk q hq)
     ·exact .inr (Jg hq)
  ·rename_i hpure;rw[ai]at h;obtain⟨⟨a,ae,cs⟩,h2,h⟩:=h;have⟨hcs,h⟩:=o8 h;rw[ai]at h;obtain⟨x,h3,h⟩:=h;rw[ai]at h;obtain⟨p,h4,h⟩:=h;split at h
   ·rename_i hc;simp only[aL,aV]at hc;obtain⟨⟨hnd,hnr⟩,hlen⟩:=hc;have hf:=(hΓ F s h1).2.1 a x h3;have hi:=adj h4;have hk:=ZR h4;obtain⟨⟨hs,obs,g1,g2⟩,mo,m1,m2⟩:=ni (P:=P) hΓ (rd:=aP (first++args++caps)) (ae:=ae) (n:=0) h2 hcs (λ j hj=>hj) (λ j hj=>by simpa using all_eq_true.1 hnr j hj) rfl;have g3:=g2 [];rw[append_nil,iA,iA]at g3;have hrefs:eT (bL first++bL args++bL caps)=aP (first++args++caps):=(by rw[<- iA,<- iA,gY]);have hlen':(nN s.res x).length=ae.length:=by
     rw[<- hlen];simpa using (congrArg List.length (Px s.res x)).symm
    have hout:gW (GZ ae (VU s.res x))=Au ae (nN s.res x):=ZQ _ _ _ (Px s.res x);split at h
    ·rename_i hfl;refine⟨.tz ae (pX s.args a) (nN s.res x) hs (sK s.res x) true,_,ae,p.1,_,⟨den p.1,gW p.2++Au ae (nN s.res x),obs++mo++[qn P F (vV s.args a) (pX s.args a) (nN s.res x) (sK s.res x),(sK s.res x).flat,UR (nN s.res x)]⟩,?_,?_,rfl,?_,?_,h⟩
     ·simp only[den,jY,oI,Gz,hi,af,m1,g3];rw[aX ⟨hnd,hlen'⟩];rfl
     ·refine qK _ (gM (gM g1 m2) ?_);intro q hq;simp only[aN,fu,or_false]at hq;rcases hq with rfl |rfl |rfl
      ·exact hf
      ·exact VQ x hfl
      ·exact ZN hfl
     ·simp only[rO,hout]
     ·intro q hq;rcases bf.1 hq with hq |hq
      ·exact .inl (hk q hq)
      ·exact .inr (KM hq)
    ·refine⟨.tz ae (pX s.args a) (nN s.res x) hs (sK s.res x) false,_,_,p.1,_,⟨den p.1,gW p.2++(Au ae (nN s.res x)++((aP (first++args++caps)).filter λj=>!ae.contains j).map (λ k=>(k,none))),obs++mo++[qn P F (vV s.args a) (pX s.args a) (nN s.res x) (sK s.res x)]⟩,?_,?_,rfl,?_,?_,h⟩
     ·simp only[den,jY,oI,Gz,hi,af,m1,g3,Gy,hrefs];rw[aX ⟨hnd,hlen'⟩];rfl
     ·refine qK _ (gM (gM g1 m2) ?_);intro q hq;simp only[aW]at hq;subst hq;exact hf
     ·simp only[rO,hout,Cj]
     ·intro q hq;rcases bf.1 hq with hq |hq
      ·exact .inl (hk q hq)
      ·rcases bf.1 hq with hq |hq
       ·exact .inr (List.mem_append_left _ (KM hq))
       ·exact .inr (mem_append_right _ (Jg hq))
   ·cases h
 ·rename_i as q φ;rw[ai]at h;obtain⟨⟨hh,cs⟩,h1,h⟩:=h;have⟨hcs,h⟩:=o8 h;rw[ai]at h;obtain⟨y,h2,h⟩:=h;obtain⟨hs,obs,g1,g2⟩:=MN (P:=P) h1 hcs (rd:=aP args) (λ j hj=>hj);have g3:=g2 [];rw[append_nil]at g3;have hφ:∃h' x',φ h'=some x'/\HL.np X.toSE as hh=HL.np X.toSE as h'/\CT.tv X.toSE q y=CT.tv X.toSE q x':=⟨hh,y,h2,rfl,rfl⟩;split at h
  ·rename_i hfl;refine⟨.C6 hs (HL.np X.toSE as hh) (CT.tv X.toSE q y) true,_,[],.c q y,[],⟨(CT.tv X.toSE q y).av,[],obs++[(HL.np X.toSE as hh).map TV.av=(HL.np X.toSE as hh).map TV.av,(∃ h' x',φ h'=some x'/\HL.np X.toSE as hh=HL.np X.toSE as h'/\CT.tv X.toSE q y=CT.tv X.toSE q x'),(CT.tv X.toSE q y).flat]⟩,?_,?_,rfl,rfl,by simp,h⟩
   ·simp only[den,jY,oI,xk,g3,af];rfl
   ·exact qK _ (gM g1 (by
     intro z hz;simp only[aN,fu,or_false]at hz;rcases hz with rfl |rfl |rfl
     ·trivial
     ·exact hφ
     ·exact adh hfl y))
  ·refine⟨.C6 hs (HL.np X.toSE as hh) (CT.tv X.toSE q y) false,_,_,.c q y,_,⟨(CT.tv X.toSE q y).av,(aP args).map (λ k=>(k,none)),obs++[(HL.np X.toSE as hh).map TV.av=(HL.np X.toSE as hh).map TV.av,(∃ h' x',φ h'=some x'/\HL.np X.toSE as hh=HL.np X.toSE as h'/\CT.tv X.toSE q y=CT.tv X.toSE q x')]⟩,?_,?_,rfl,(Cj _).symm,λz hz=> .inr (Jg hz),h⟩
   ·simp only[den,jY,oI,xk,g3,af,gY];rfl
   ·exact qK _ (gM g1 (by
     intro z hz;simp only[aN,fu,or_false]at hz;rcases hz with rfl |rfl
     ·trivial
     ·exact hφ))
 ·cases h
theorem afR{P:Program}(hΓ:sC P Γ){fz:List Nat}{T:ea}{am:TypeId->Option (CT X.ι)}{i:Nat}{o:Oper}{ρ:Operand->DV X}{get:Nat->Option (bm X)}{k:KK X A}{r:A}(h:DM Γ fz T am i o.op ρ get k=some r):d6 P T i o ρ get k r:=by
 obtain⟨dst,op,ty,ao,after,guard⟩:=o;unfold DM at h;simp only at h;split at h
 ·rename_i f args cQ;have:=adl hΓ h;simp only[<- Ug]at this;obtain⟨cw,rd,wr,dv,upd,ab,g1,g2⟩:=this;exact .call g1 g2
 ·split at h
  ·exact afK (o:=⟨dst,op,ty,ao,after,guard⟩) h
  ·split at h
   ·exact afL (o:=⟨dst,op,ty,ao,after,guard⟩) h
   ·split at h
    ·exact afM (o:=⟨dst,op,ty,ao,after,guard⟩) h
    ·rename_i hne _ _ _;have⟨cw,rd,wr,dv,upd,ab,g1,g2⟩:=ZB (o:=⟨dst,op,ty,ao,after,guard⟩) h;exact d6.op (λ f args cQ e=>hne f args cQ e) g1 g2
end
def li(x y:AV):Prop:=∀P β w I v,VR P β w I x v->VR P β w I y v
theorem li.refl(x:AV):li x x:=λ_ _ _ _ _ h=>h
theorem li.undef(x:AV):li x .undef:=λ_ _ _ _ _ _=>by simp[VR]
theorem li.wk(x:AV):li x (wk x):=λ_ _ _ _ _ h=>h.wk
section
variable {P:Program} {w0:World} {O0:j8} {N:Nat} {β:Nat->Option cL} {I:Nat->Prop} {a:Act} {w:World} {f g:Nat->Nat} {D:Nat->Prop}
mutual
theorem VR.rn(hgf:∀k,D k->g (f k)=k):∀(x:AV)(v:Value),(∀ k∈refs x,D k)->VR P β w I x v->VR P (λ j=>β (g j)) w I (fX f x) v
 | .own k aa len,v,hd,h=>by simp only[fX,VR,hgf k (hd k (by simp[refs]))]at h ⊢;exact h
 | .ptr k row aa,v,hd,h=>by simp only[fX,VR,hgf k (hd k (by simp[refs]))]at h ⊢;exact h
 | .agg cs,v,hd,h=>by
  simp only[fX,VR]at h ⊢;obtain⟨vs,h1,h2⟩:=h;exact⟨vs,h1,aE.rn hgf cs _ (by simpa[refs]using hd) h2⟩
 | .eC cs,v,hd,h=>by
  simp only[fX,VR]at h ⊢;obtain⟨vs,h1,h2⟩:=h;exact⟨vs,h1,aE.rn hgf cs _ (by simpa[refs]using hd) h2⟩
 | .fn F first caps,v,hd,h=>by
  simp only[fX,VR]at h ⊢;obtain⟨fs,cs,h1,h2,h3⟩:=h;exact⟨fs,cs,h1,aE.rn hgf first _ (λ k hk=>hd k (by simp[refs,hk])) h2,aE.rn hgf caps _ (λ k hk=>hd k (by simp[refs,hk])) h3⟩
 | .t x,v,_,h=>by simpa[fX,VR]using h
 | .eo r o,v,_,h=>by simpa[fX,VR]using h
 | .d7 φ,v,_,h=>by simpa[fX,VR]using h
 | .mp k,v,hd,h=>by simp only[fX,VR,hgf k (hd k (by simp[refs]))]at h ⊢;exact h
 | .oz k len,v,hd,h=>by simp only[fX,VR,hgf k (hd k (by simp[refs]))]at h ⊢;exact h
 | .cV,v,_,h=>by simpa[fX,VR]using h
 | .ub,v,_,h=>by simpa[fX,VR]using h
 | .undef,v,_,h=>by simp[fX,VR]
theorem aE.rn(hgf:∀k,D k->g (f k)=k):∀(xs:List AV)(vs:List Value),(∀ k∈eT xs,D k)->aE P β w I xs vs->aE P (λ j=>β (g j)) w I (zw f xs) vs
 |[],[],_,_=>by simp[zw,aE]
 |x::xs,v::vs,hd,h=>by
  simp only[aE]at h;simp only[zw,aE];exact⟨VR.rn hgf x v (λ k hk=>hd k (by simp[eT,hk])) h.1,aE.rn hgf xs vs (λ k hk=>hd k (by simp[eT,hk])) h.2⟩
 |[],_::_,_,h=>by simp[aE]at h
 |_::_,[],_,h=>by simp[aE]at h
end
def mN(D:Nat->Prop)(f:Nat->Nat):List AV->List AV->Prop
 |[],[]=>True
 |x::xs,y::ys=>((∀ k∈refs x,D k)/\li (fX f x) y)/\mN D f xs ys
 |_,_=>False
def ie(D:Nat->Prop)(f:Nat->Nat):List (List AV)->List (List AV)->Prop
 |[],[]=>True
 |r::rs,q::qs=>mN D f r q/\ie D f rs qs
 |_,_=>False
theorem mN.length:∀{r q:List AV},mN D f r q->q.length=r.length
 |[],[],_=>rfl
 |_::xs,_::ys,h=>by simp[mN.length h.2]
 |[],_::_,h=>h.elim
 |_::_,[],h=>h.elim
theorem cW.re(hgf:∀k,D k->g (f k)=k):∀{r q:List AV}{c:Array Value}{aa:Nat},mN D f r q->cW P β w I r c aa->cW P (λ j=>β (g j)) w I q c aa
 |[],[],_,_,_,_=>trivial
 |x::xs,y::ys,c,aa,hr,⟨⟨v,h1,h2,h3⟩,h4⟩=>⟨⟨v,h1,hr.1.2 _ _ _ _ _ (VR.rn hgf x v hr.1.1 h2),h3⟩,cW.re hgf hr.2 h4⟩
 |[],_::_,_,_,h,_=>h.elim
 |_::_,[],_,_,h,_=>h.elim
theorem bo.re(hgf:∀k,D k->g (f k)=k):∀{rs qs:List (List AV)}{c:Array Value}{aa sz:Nat},ie D f rs qs->bo P β w I rs c aa sz->bo P (λ j=>β (g j)) w I qs c aa sz
 |[],[],_,_,_,_,_=>trivial
 |r::rs,q::qs,c,aa,sz,hr,⟨h1,h2,h3⟩=>⟨by rw[hr.1.length];exact h1,cW.re hgf hr.1 h2,bo.re hgf hr.2 h3⟩
 |[],_::_,_,_,_,h,_=>h.elim
 |_::_,[],_,_,_,h,_=>h.elim
theorem aE.re(hgf:∀k,D k->g (f k)=k):∀{r q:List AV}{vs:List Value},mN D f r q->aE P β w I r vs->aE P (λ j=>β (g j)) w I q vs
 |[],[],[],_,_=>by simp[aE]
 |x::xs,y::ys,v::vs,hr,h=>by
  simp only[aE]at h ⊢;exact⟨hr.1.2 _ _ _ _ _ (VR.rn hgf x v hr.1.1 h.1),aE.re hgf hr.2 h.2⟩
 |[],_::_,_,h,_=>h.elim
 |_::_,[],_,h,_=>h.elim
 |[],[],_::_,_,h=>by simp[aE]at h
 |_::_,_::_,[],_,h=>by simp[aE]at h
theorem co.re(hgf:∀k,D k->g (f k)=k):∀{rs qs:List (List AV)}{es:List MapEntry},ie D f rs qs->co P β w I rs es->co P (λ j=>β (g j)) w I qs es
 |[],[],[],_,_=>trivial
 |r::rs,q::qs,_::es,hr,⟨h1,h2⟩=>⟨aE.re hgf hr.1 h1,co.re hgf hr.2 h2⟩
 |[],_::_,_,h,_=>h.elim
 |_::_,[],_,h,_=>h.elim
 |[],[],_::_,_,h=>h.elim
 |_::_,_::_,[],_,h=>h.elim
theorem ie.length:∀{rs qs:List (List AV)},ie D f rs qs->qs.length=rs.length
 |[],[],_=>rfl
 |_::xs,_::ys,h=>by simp[ie.length h.2]
 |[],_::_,h=>h.elim
 |_::_,[],h=>h.elim
theorem Rel.re{s s':St}(hgf:∀k,D k->g (f k)=k)(hg:∀j,j<1000->g j=j)(hr:Rel P w0 O0 N β I s a w)(hok:∀t,s.ok t=none\/s'.env t= .undef)(hok':∀t,s'.ok t=none)
 (hE:∀t,s'.env t= .undef\/((∀ k∈refs (s.env t),D k)/\li (fX f (s.env t)) (s'.env t)))
 (hO:∀j o',s'.obj j=some o'->∃k o,s.obj k=some o/\D k/\f k=j/\o'.sz=o.sz/\ie D f o.rows o'.rows):Rel P w0 O0 N (λ j=>β (g j)) I s' a w:=by
 refine⟨hr.defers,hr.size,λt=>?_,?_⟩
 ·have h1:=hr.env t;rw[hok' t];rcases hok t with hk |h
  rotate_left
  ·rw[h];simp[eJ,VR]
  rw[hk]at h1;rcases hE t with h |⟨h2,h3⟩
  ·rw[h];simp[eJ,VR]
  ·exact h3 _ _ _ _ _ (VR.rn hgf _ _ h2 h1)
 ·have hm:=hr.mem;constructor
  ·intro j o' hj;obtain⟨k,o,h1,h2,rfl,h4,h5⟩:=hO j o' hj;have⟨B,hB,sA⟩:=hm.cE k o h1;refine⟨B,by simp only[hgf k h2];exact hB,?_⟩;cases B with
   |none=>
    simp only[OR]at sA ⊢;rw[sA]at h5;cases ho:o'.rows with
    |nil=>rfl
    |cons=>rw[ho]at h5;exact h5.elim
   | «at» b sz n=>
    obtain⟨g1,c,e,g2,g3,g4⟩:=sA;exact⟨by rw[g1,h4],c,e,g2,g3,bo.re hgf h5 g4⟩
   |mp b=>
    obtain⟨es,cl,g1,gl,g2,g3⟩:=sA;have hl:=h5.length;exact⟨es,cl,g1,by omega,λe=>co.re hgf h5 (g2 (by omega)),g3⟩
  ·intro j j' o o' B B' b h1 h2 h3 h4 h5 h6;obtain⟨k,q,i1,i2,rfl,_⟩:=hO j o h1;obtain⟨k',q',i1',i2',rfl,_⟩:=hO j' o' h2;simp only[hgf k i2,hgf k' i2']at h3 h4;rw[hm.gj k k' q q' B B' b i1 i1' h3 h4 h5 h6]
  ·intro j o B b h1 h2;obtain⟨k,q,i1,i2,rfl,_⟩:=hO j o h1;simp only[hgf k i2]at h2;exact hm.ownB k q B b i1 h2
  ·exact hm.lt
  ·exact hm.up
  ·exact hm.keep
  ·exact hm.le
  ·exact hm.os
  ·exact hm.tape
  ·exact hm.output
  ·intro j B hj;show β (g j)=some B;rw[hg j (O0.lt j B hj)];exact hm.anch j B hj
  ·exact hm.vars
end
section
variable {X:SX}
theorem adm{D:Nat->Prop}(f:Nat->Nat):∀r:List (DV X),(∀ k∈aP r,D k)->mN D f (bL r) (bL (JL f r))
 |[],_=>trivial
 |x::xs,h=>⟨⟨λ k hk=>h k (by rw[iL]at hk;simp[aP,hk]),by rw[zS];exact li.refl _⟩,adm f xs λk hk=>h k (by simp[aP,hk])⟩
theorem Jj{D:Nat->Prop}(f:Nat->Nat)(o:bm X)(h:∀k∈d5 o,D k):(bG (oR f o)).sz=(bG o).sz/\ie D f (bG o).rows (bG (oR f o)).rows:=by
 cases o with
 |cells sz rows=>
  refine⟨rfl,?_⟩;simp only[bG,oR,map_map];simp only[d5]at h
  induction rows with
  |nil=>trivial
  |cons r rs ih=>
   refine⟨adm f r λk hk=>h k (by simp[hk]),ih λk hk=>h k ?_⟩;simp only[aF,flatten_cons,bf];exact .inr hk
 |d8 c l=>
  refine⟨rfl,?_⟩;simp only[bG,oR];generalize l.map (CT.row X.toSE c)=rows;have hrow:∀r:List Tree,mN D f (r.map AV.t) (r.map AV.t):=by
   intro r
   induction r with
   |nil=>trivial
   |cons y ys ih=>exact⟨⟨by simp[refs],li.refl _⟩,ih⟩
  induction rows with
  |nil=>trivial
  |cons r rs ih=>exact⟨hrow r,ih⟩
 |map kc vc l=>
  refine⟨rfl,?_⟩;simp only[bG,oR];clear h
  induction l with
  |nil=>trivial
  |cons p ps ih=>exact⟨⟨⟨by simp[zQ],by rw[VL];exact li.refl _⟩,⟨by simp[zQ],by rw[VL];exact li.refl _⟩,trivial⟩,ih⟩
structure Low(s:de X):Prop where
 le:s.nx<=1000000
 ge:1000<=s.nx
 env:∀t,∀k∈bk (eM s.env t),k<s.nx
 obj:∀k o,gz s.obj k=some o->k<s.nx/\∀j∈d5 o,j<s.nx
theorem V3{o:bm X}{r:List AV}{x:AV}(hr:r∈(bG o).rows)(hx:x∈r):∀j∈refs x,j∈d5 o:=by
 intro j hj;cases o with
 |cells sz rows=>
  simp only[bG,mem_map]at hr;obtain⟨q,hq,rfl⟩:=hr;rw[nM,mem_map]at hx;obtain⟨d,hd,rfl⟩:=hx;simp only[d5,List.mem_flatten,mem_map];refine⟨_,⟨q,hq,rfl⟩,?_⟩;have:∀l:List (DV X),d∈l->j∈aP l:=by
   intro l
   induction l with
   |nil=>intro h;simp at h
   |cons y ys ih=>intro h;rcases aN.1 h with rfl |h
                  ·simp only[aP,bf];left;rwa [iL]at hj
                  ·simp only[aP,bf];exact .inr (ih h)
  exact this q hd
 |d8 c l=>
  simp only[bG,aI,mem_map]at hr;obtain⟨q,_,rfl⟩:=hr;simp only[mem_map]at hx;obtain⟨t,_,rfl⟩:=hx;simp[refs]at hj
 |map kc vc l=>
  simp only[bG,mem_map]at hr;obtain⟨q,_,rfl⟩:=hr;simp only[aN,fu,or_false]at hx;rcases hx with rfl |rfl<;>simp[zQ]at hj
theorem Low.old{s:de X}(h:Low s):tD s.st:=by
 have hle:=h.le;constructor
 ·intro t k hk;have:=h.env t k (by rw[<- iL];exact hk);omega
 ·intro k o hk;simp only[de.st,dK]at hk;obtain⟨o',h1,rfl⟩:=hk;have⟨h2,h3⟩:=h.obj k o' h1;refine⟨by omega,λr hr x hx j hj=>?_⟩;have:=h3 j (V3 hr hx j hj);omega
end
section
variable {X:SX} {A:Type}
def pb(e b:List (Nat×DV X))(t:Nat):DV X:=match lk e t with |some x=>x |none=>eM b t
def wA(o b:List (Nat×Option (bm X)))(k:Nat):Option (bm X):=match lk o k with |some x=>x |none=>gz b k
def zA(dst:Option Tmp)(dv:DV X)(e:List (Nat×DV X)):List (Nat×DV X):=match dst with |some t=>(t,dv)::e |none=>e
def V4:DV X->DV X
 | .skip=> .undef
 |x=>x
def Kn(e:List (Nat×DV X)):Operand->Bool
 | .tmp t=>match lk e t with |some .skip=>false |_=>true
 |_=>true
def Ro(e b:List (Nat×DV X))(o:Op):Bool:=
 match o with
 | .pick c x y=>Kn e c&&((Kn e x&&Kn e y) || match Yv (pb e b) c with | .c .bool t=>bif t then Kn e x else Kn e y |_=>false)
 |o=>o.operands.toList.all (Kn e)
abbrev D1:=List (Nat×List Nat×List Nat)
section
variable (Γ:FuncId->Option (bx X)) (fz:List Nat) (T:ea) (am:TypeId->Option (CT X.ι)) (al:Array Oper) (b:de X)
def yH(k:List (Nat×DV X)->List (Nat×Option (bm X))->D1->Option A):List Nat->List (Nat×DV X)->List (Nat×Option (bm X))->D1->Option A
 |[],e,o,oe=>k e o oe
 |i::r,e,o,oe=>(al[i]?).bind λop=>match op.guard with
  |none=>bif Ro e b.env op.op then DM Γ fz T am i op.op (Yv (pb e b.env)) (wA o b.obj) λdv upd rd wr=>yH k r (zA op.dst (V4 dv) e) (upd++o) ((i,rd,wr)::oe)else none
  |some (j,p)=>((al[j]?).bind (·.dst)).bind λt=>match pb e b.env t with
   | .c .bool v=>
    bif v then(bif p then(bif Ro ((t,.c .bool true)::e) b.env op.op then DM Γ fz T am i op.op (Yv (pb ((t,.c .bool true)::e) b.env)) (wA o b.obj) λdv upd rd wr=>yH k r (zA op.dst (V4 dv) ((t,.c .bool true)::e)) (upd++o) ((i,rd,wr)::oe)else none)
     else yH k r (zA op.dst .skip ((t,.c .bool true)::e)) o ((i,[],[])::oe))
    else(bif p then yH k r (zA op.dst .skip ((t,.c .bool false)::e)) o ((i,[],[])::oe)
     else(bif Ro ((t,.c .bool false)::e) b.env op.op then DM Γ fz T am i op.op (Yv (pb ((t,.c .bool false)::e) b.env)) (wA o b.obj) λdv upd rd wr=>yH k r (zA op.dst (V4 dv) ((t,.c .bool false)::e)) (upd++o) ((i,rd,wr)::oe)else none))
   | .skip=>bif(lk e t).isSome then yH k r (zA op.dst .skip e) o ((i,[],[])::oe)else none
   |_=>none
end
def iy(b:de X)(e:List (Nat×DV X))(o:List (Nat×Option (bm X))):St:=⟨λ t=>den (pb e b.env t),λk=>(wA o b.obj k).map bG,λt=>match lk e t with |some .skip=>some false |_=>none⟩
theorem aiO(x:DV X):den (V4 x)=den x:=by cases x<;>rfl
theorem akz(b:de X)(e:List (Nat×DV X))(o:List (Nat×Option (bm X)))(dst:Option Tmp)(dv:DV X)(upd:List (Nat×Option (bm X)))(obs:List Prop):
 (iy b e o).app dst (⟨den dv,gW upd,obs⟩,none)=iy b (zA dst (V4 dv) e) (upd++o):=by
 simp only[iy,St.app,St.mk.injEq];refine⟨?_,?_,?_⟩
 ·funext t;cases dst with
  |none=>simp[Aw,zA]
  |some d=>
   simp only[Aw,zA,pb,lk,aA];by_cases h:d=t<;>simp[h,aiO]
 ·funext j
  induction upd with
  |nil=>rfl
  |cons p u ih=>
   obtain⟨q,x⟩:=p;simp only[gW,aF,cK,cons_append,wA,lk]at ih ⊢;by_cases h:j=q
   ·simp[h]
   ·rw[aQ h,aQ (Ne.symm h)];exact ih
 ·funext t;cases dst with
  |none=>simp[Aw,zA]
  |some d=>
   simp only[Aw,zA,lk,aA];by_cases h:d=t
   ·simp only[h,if_true];cases dv<;>rfl
   ·simp only[aQ h]
theorem aiP(b:de X)(e:List (Nat×DV X))(o:List (Nat×Option (bm X)))(dst:Option Tmp):(iy b e o).app dst (⟨.undef,[],[]⟩,some false)=iy b (zA dst .skip e) o:=by
 simp only[iy,St.app,St.mk.injEq];refine⟨?_,rfl,?_⟩
 ·funext t;cases dst with
  |none=>simp[Aw,zA]
  |some d=>
   simp only[Aw,zA,pb,lk,aA];by_cases h:d=t<;>simp[h,den]
 ·funext t;cases dst with
  |none=>simp[Aw,zA]
  |some d=>
   simp only[Aw,zA,lk,aA];by_cases h:d=t<;>simp[h]
theorem adn(b:de X)(e:List (Nat×DV X))(o:List (Nat×Option (bm X))):lp (iy b e o).env=λx=>den (Yv (pb e b.env) x):=by funext x;exact(Vj _ x).symm
theorem Cq{b:de X}{e:List (Nat×DV X)}{o:List (Nat×Option (bm X))}{x:Operand}(h:Kn e x=true):wY (iy b e o).ok x=[]:=by
 cases x with
 |tmp t=>
  simp only[Kn]at h;simp only[wY,iy];cases ht:lk e t with
  |none=>rfl
  |some d=>rw[ht]at h;cases d<;>first |rfl |cases h
 |_=>rfl
theorem aiQ{b:de X}{e:List (Nat×DV X)}{o:List (Nat×Option (bm X))}{P:Program}{T:ea}{i:Nat}{op:Oper}{cw:i8}{get:Nat->Option aS}{ab:Out}(hok:Ro e b.env op.op=true)
 (h:jA P T i op cw (lp (iy b e o).env) get=some ab):∀p∈needs (iy b e o).env (iy b e o).ok op.op,p:=by
 obtain⟨dst,op,ty,ao,after,guard⟩:=op;unfold needs;split
 ·rename_i c x y heq;simp only at heq;subst heq;simp only[Ro,aL,Bool.or_eq_true]at hok;obtain⟨hc,hxy⟩:=hok;have hb:∃t,lp (iy b e o).env c= .t (.sc (.bool t)):=by
   have h0:(∃ n,cw= .ext n)\/(∃ ae fr q,cw= .xm ae fr q)\/pU T i ⟨dst,.pick c x y,ty,ao,after,guard⟩ cw (lp (iy b e o).env) get=some ab:=(by cases cw<;>first |exact .inl ⟨_,rfl⟩ |exact .inr (.inl ⟨_,_,_,rfl⟩) |exact .inr (.inr h));rcases h0 with ⟨n,rfl⟩ |⟨ae,fr,q,rfl⟩ |h0
   ·simp[jA,sI,IT,sH]at h
   ·simp[jA,GA,ZD]at h
   ·simp only[pU]at h0;split at h0
    ·rename_i t ht;exact⟨t,ht⟩
    ·cases h0
  obtain⟨t,ht⟩:=hb;rw[ht];simp only[Cq hc,bQ];rcases hxy with ⟨hx,hy⟩ |hxy
  ·simp[Cq hx,Cq hy]
  ·split at hxy
   ·rename_i t' ht';have e1:lp (iy b e o).env c= .t (.sc (.bool t')):=(by rw[adn];simp only[ht'];rfl);rw[e1]at ht;injection ht with ht;injection ht with ht;injection ht with ht;subst ht;cases t' with
    |true=>
     simp only[aj]at hxy;simp[Cq hxy]
    |false=>
     simp only[ak]at hxy;simp[Cq hxy]
   ·cases hxy
 ·rename_i o' hne;intro p hp;have hall:∀x∈op.operands.toList,Kn e x=true:=by
   have:Ro e b.env op=op.operands.toList.all (Kn e):=(by cases op<;>first |rfl |exact(hne _ _ _ rfl).elim);rw[this]at hok;exact all_eq_true.1 hok
  simp only[List.mem_flatMap]at hp;obtain⟨x,hx,hp⟩:=hp;rw[Cq (hall x hx)]at hp;simp at hp
theorem akA{a b:List Prop}(h:∀p∈a,p)(h':jl b):jl (a++b):=qK _ (gM h (Ml b h'))
variable {Γ:FuncId->Option (bx X)} {fz:List Nat} {T:ea} {am:TypeId->Option (CT X.ι)} {al:Array Oper} {b:de X} {P:Program}
theorem aiR(hΓ:sC P Γ){i:Nat}{op:Oper}{e:List (Nat×DV X)}{o:List (Nat×Option (bm X))}{k:KK X A}{r:A}(hop:al[i]? =some op)(hw:want al op (iy b e o).env (iy b e o).ok=some true)(hok:Ro e b.env op.op=true)
 (h:DM Γ fz T am i op.op (Yv (pb e b.env)) (wA o b.obj) k=some r):
 ∃(a:mS)(dv:DV X)(upd:List (Nat×Option (bm X))),a.sym=false/\k dv upd a.rd a.wr=some r/\∀(c7:Nat->mS)(K:St->Prop),c7 i=a->K (iy b (zA op.dst (V4 dv) e) (upd++o))->xp P T al c7 i K (iy b e o):=by
 have⟨cw,rd,wr,dv,upd,ab,h1,h2,h3,h4,h5,h6⟩:=afR hΓ h;refine⟨⟨cw,rd,wr,false⟩,dv,upd,rfl,h6,λc7 K ha hK=>?_⟩;have h1':jA P T i op cw (lp (iy b e o).env) (dH rd (iy b e o).obj)=some ab:=by rw[adn];exact h1
 refine⟨op,(⟨ab.v,ab.upd,needs (iy b e o).env (iy b e o).ok op.op++ab.obs⟩,none),hop,?_,?_,?_⟩
 ·unfold opAt;simp only[hop,af,hw,ha,h1'];rw[aX];rw[all_eq_true];intro p hp;rw[h4]at hp;simp only[gW,mem_map]at hp;obtain⟨q,hq,rfl⟩:=hp;rcases h5 q hq with h |h
  ·simp[h,U5.2 (.inl rfl:ij (cJ i) (cJ i))]
  ·simp[h]
 ·exact akA (aiQ hok h1') h2
 ·rw[h3,h4,akz];exact hK
theorem step_skip{i:Nat}{op:Oper}{e:List (Nat×DV X)}{o:List (Nat×Option (bm X))}(hop:al[i]? =some op)(hw:want al op (iy b e o).env (iy b e o).ok=some false)
 (c7:Nat->mS) (K:St->Prop) (ha:c7 i=⟨.none,[],[],false⟩) (hK:K (iy b (zA op.dst .skip e) o)):xp P T al c7 i K (iy b e o):=by
 refine⟨op,(⟨.undef,[],[]⟩,some false),hop,?_,trivial,?_⟩
 ·unfold opAt;simp only[hop,af,hw,ha]
 ·rw[aiP];exact hK
theorem afS{e:List (Nat×DV X)}{o:List (Nat×Option (bm X))}{t:Nat}{v:Bool}(h:pb e b.env t= .c .bool v):iy b ((t,.c .bool v)::e) o=iy b e o:=by
 simp only[iy,St.mk.injEq,true_and];refine⟨?_,?_⟩
 ·funext s;by_cases hs:t=s
  ·subst hs;rw[h];simp[pb,lk]
  ·simp[pb,lk,hs]
 ·funext s;by_cases hs:t=s
  ·subst hs;simp only[lk,if_true];unfold pb at h;cases ht:lk e t with
   |none=>rfl
   |some d=>rw[ht]at h;simp only at h;subst h;rfl
  ·simp[lk,hs]
def JM(tr:List (Nat×mS)):D1:=tr.map λp=>(p.1,p.2.rd,p.2.wr)
def Rp(al:Array Oper)(t:Nat):Prop:=∃(j:Nat)(op:Oper),al[j]? =some op/\op.dst=some t
theorem ado{dst:Option Tmp}{dv:DV X}{e:List (Nat×DV X)}{p:Nat×DV X}(h:p∈zA dst dv e):p∈e\/dst=some p.1:=by
 cases dst with
 |none=>exact .inl h
 |some t=>
  simp only[zA,aN]at h;rcases h with rfl |h
  ·exact .inr rfl
  ·exact .inl h
theorem DL(hΓ:sC P Γ){k:List (Nat×DV X)->List (Nat×Option (bm X))->D1->Option A}{r:A}:∀(l:List Nat)(e:List (Nat×DV X))(o:List (Nat×Option (bm X)))(oe:D1),yH Γ fz T am al b k l e o oe=some r->
 ∃(tr:List (Nat×mS))(e':List (Nat×DV X))(o':List (Nat×Option (bm X))),tr.map (·.1)=l/\k e' o' ((JM tr).reverse++oe)=some r/\(∀ p∈e',p∈e\/Rp al p.1)/\
  ∀c7:Nat->mS,(∀ p∈tr,c7 p.1=p.2)->R6 P T al c7 (λ σ=>σ=iy b e' o') l (iy b e o)
 |[],e,o,oe,h=>⟨[],e,o,rfl,h,λ_ hp=> .inl hp,λ_ _=>rfl⟩
 |i::l,e,o,oe,h=>by
  simp only[yH]at h;have⟨op,hop,h⟩:=ai.1 h
  have exec:∀e:List (Nat×DV X),want al op (iy b e o).env (iy b e o).ok=some true->
   (bif Ro e b.env op.op then DM Γ fz T am i op.op (Yv (pb e b.env)) (wA o b.obj) λdv upd rd wr=>yH Γ fz T am al b k l (zA op.dst (V4 dv) e) (upd++o) ((i,rd,wr)::oe)else none)=some r->
   ∃(tr:List (Nat×mS)) (e':List (Nat×DV X)) (o':List (Nat×Option (bm X))),tr.map (·.1)=i::l/\k e' o' ((JM tr).reverse++oe)=some r/\(∀ p∈e',p∈e\/Rp al p.1)/\
    ∀c7:Nat->mS,(∀ p∈tr,c7 p.1=p.2)->R6 P T al c7 (λ σ=>σ=iy b e' o') (i::l) (iy b e o):=by
   intro e hw h;have⟨hok,h⟩:=dZ h;have⟨a,dv,upd,_,h1,h2⟩:=aiR hΓ hop hw hok h;obtain⟨tr,e',o',g1,g2,g4,g3⟩:=DL hΓ l _ _ _ h1;refine⟨(i,a)::tr,e',o',by simp[g1],?_,λp hp=>(g4 p hp).elim (λ hp=>(ado hp).elim .inl λhd=> .inr ⟨i,op,hop,hd⟩) .inr,λc7 ha=>?_⟩
   ·simpa[JM]using g2
   ·exact h2 c7 _ (ha (i,a) (by simp)) (g3 c7 λp hp=>ha p (by simp[hp]))
  have skip:∀e:List (Nat×DV X),want al op (iy b e o).env (iy b e o).ok=some false->yH Γ fz T am al b k l (zA op.dst .skip e) o ((i,[],[])::oe)=some r->
   ∃(tr:List (Nat×mS)) (e':List (Nat×DV X)) (o':List (Nat×Option (bm X))),tr.map (·.1)=i::l/\k e' o' ((JM tr).reverse++oe)=some r/\(∀ p∈e',p∈e\/Rp al p.1)/\
    ∀c7:Nat->mS,(∀ p∈tr,c7 p.1=p.2)->R6 P T al c7 (λ σ=>σ=iy b e' o') (i::l) (iy b e o):=by
   intro e hw h;obtain⟨tr,e',o',g1,g2,g4,g3⟩:=DL hΓ l _ _ _ h;refine⟨(i,⟨.none,[],[],false⟩)::tr,e',o',by simp[g1],?_,λp hp=>(g4 p hp).elim (λ hp=>(ado hp).elim .inl λhd=> .inr ⟨i,op,hop,hd⟩) .inr,λc7 ha=>?_⟩
   ·simpa[JM]using g2
   ·exact step_skip hop hw c7 _ (ha (i,_) (by simp)) (g3 c7 λp hp=>ha p (by simp[hp]))
  split at h
  ·rename_i hg;exact exec e (by simp[want,hg]) h
  ·rename_i j p hg;rw[ai]at h;obtain⟨t,ht,h⟩:=h;split at h
   ·rename_i v hv;have hw:∀e:List (Nat×DV X),pb e b.env t= .c .bool v->want al op (iy b e o).env (iy b e o).ok=some (v==p):=by
     intro e he;simp only[want,hg,ht];have h0:(iy b e o).ok t=none:=by
      simp only[iy];unfold pb at he;cases hq:lk e t with
      |none=>rfl
      |some d=>rw[hq]at he;simp only at he;subst he;rfl
     have h1:(iy b e o).env t= .t (.sc (.bool v)):=(by simp only[iy,he];rfl);rw[h0,h1]
    have hk:=afS (b:=b) (o:=o) hv;have hv':pb ((t,.c .bool v)::e) b.env t= .c .bool v:=(by simp[pb,lk]);have htd:Rp al t:=by
     have⟨oj,h1,h2⟩:=ai.1 ht;exact⟨j,oj,h1,h2⟩
    have wide:(∃ (tr:List (Nat×mS)) (e':List (Nat×DV X)) (o':List (Nat×Option (bm X))),tr.map (·.1)=i::l/\k e' o' ((JM tr).reverse++oe)=some r/\(∀ p∈e',p∈((t,.c .bool v)::e:List (Nat×DV X))\/Rp al p.1)/\
     ∀c7:Nat->mS,(∀ p∈tr,c7 p.1=p.2)->R6 P T al c7 (λ σ=>σ=iy b e' o') (i::l) (iy b ((t,.c .bool v)::e) o))->
     ∃(tr:List (Nat×mS)) (e':List (Nat×DV X)) (o':List (Nat×Option (bm X))),tr.map (·.1)=i::l/\k e' o' ((JM tr).reverse++oe)=some r/\(∀ p∈e',p∈e\/Rp al p.1)/\
     ∀c7:Nat->mS,(∀ p∈tr,c7 p.1=p.2)->R6 P T al c7 (λ σ=>σ=iy b e' o') (i::l) (iy b e o):=by
     rintro⟨tr,e',o',g1,g2,g4,g3⟩;refine⟨tr,e',o',g1,g2,λq hq=>?_,hk ▸ g3⟩;rcases g4 q hq with h |h
     ·rcases aN.1 h with rfl |h
      ·exact .inr htd
      ·exact .inl h
     ·exact .inr h
    apply wide;cases v with
    |true=>
     simp only[aj]at h;cases p with
     |true=>exact exec _ (hw _ hv') h
     |false=>exact skip _ (hw _ hv') h
    |false=>
     simp only[ak]at h;cases p with
     |true=>exact skip _ (hw _ hv') h
     |false=>exact exec _ (hw _ hv') h
   ·rename_i hv;have⟨hsome,h⟩:=dZ h;refine skip e ?_ h;simp only[want,hg,ht];have h1:(iy b e o).env t= .undef:=(by simp only[iy,hv];rfl);cases hq:lk e t with
    |some d=>
     have h0:(iy b e o).ok t=some false:=by
      unfold pb at hv;rw[hq]at hv;simp only at hv;subst hv;simp only[iy,hq]
     rw[h0,h1]
    |none=>rw[hq]at hsome;cases hsome
   ·cases h
end
section
variable {X:SX} {A:Type}
def fN(nx k:Nat):Nat:=if k<1000000 then k else nx+(k -1000000)
def gN(nx j:Nat):Nat:=if j<nx then j else 1000000+(j -nx)
def G3(nx sz k:Nat):Bool:=decide (k<nx) || (decide (1000000<=k)&&decide (k<1000000+sz))
def okE(nx sz:Nat)(e:List (Nat×DV X)):Bool:=e.all λp=>(bk p.2).all (G3 nx sz)
def okO(nx sz:Nat)(o:List (Nat×Option (bm X))):Bool:=o.all λp=>G3 nx sz p.1&&match p.2 with |some x=>(d5 x).all (G3 nx sz) |none=>true
def Mu(oe:D1):Nat->mS:=λi=>match lk oe i with |some p=>⟨.none,p.1,p.2,false⟩ |none=>⟨.none,[],[],false⟩
def Fo(tr:List (Nat×mS)):Nat->mS:=λi=>match lk tr i with |some a=>a |none=>⟨.none,[],[],false⟩
def I0:DV X->DV X
 | .skip=> .undef
 |x=>x
theorem akC(x:DV X):den (I0 x)=den x:=by cases x<;>rfl
theorem ZT(x:DV X):bk (I0 x)=bk x:=by cases x<;>rfl
def fin(s:de X)(e:List (Nat×DV X))(o:List (Nat×Option (bm X)))(sz:Nat):de X:=
 ⟨e.map (λ p=>(p.1,I0 (nr (fN s.nx) p.2)))++s.env,o.map (λ p=>(fN s.nx p.1,p.2.map (oR (fN s.nx))))++s.obj,s.nx+sz,o.map (λ p=>fN s.nx p.1)++s.log⟩
def akD(N:Nat)(al:Array Oper)(d:Bool)(nx:Nat)(e:List (Nat×DV X))(o:List (Nat×Option (bm X)))(oe:D1):Bool:=
 Pl N al&&(!d || M1 al (Mu oe))&&okE nx (64*al.size) e&&okO nx (64*al.size) o&&decide (nx+64*al.size<=1000000)
def Z2(Γ:FuncId->Option (bx X))(fz:List Nat)(T:ea)(am:TypeId->Option (CT X.ι))(N:Nat)(al:Array Oper)(d:Bool)(s:de X)(k:de X->Option A):Option A:=
 yH Γ fz T am al s (λ e o oe=>bif akD N al d s.nx e o oe then k (fin s e o (64*al.size))else none) (List.range al.size) [] [] []
theorem adp{al:Array Oper}{c7 ua:Nat->mS}(h:∀i,(c7 i).rd=(ua i).rd/\(c7 i).wr=(ua i).wr):M1 al c7=M1 al ua:=by
 have h1:xq c7=xq ua:=by
  funext i j;simp only[xq,(h i).1,(h i).2,(h j).1,(h j).2]
 have h2:∀md,Pd md al c7=Pd md al ua:=by
  intro md;funext listed i;simp only[Pd,h1]
 have h3:∀(md:Region.Mode)(n k:Nat)(listed:Array Bool),lexFrom' md al c7 n k listed=lexFrom' md al ua n k listed:=by
  intro md n
  induction n with
  |zero=>intro k listed;rfl
  |succ n ih=>intro k listed;simp only[lexFrom',h2,ih]
 exact h3 _ _ _ _
theorem Cr{α:Type}:∀(a b:List (Nat×α))(k:Nat),lk (a++b) k=match lk a k with |some x=>some x |none=>lk b k
 |[],_,_=>rfl
 |(j,x)::a,b,k=>by
  simp only[cons_append,lk];by_cases h:j=k
  ·simp[h]
  ·simp only[aQ h,Cr a b k]
theorem ahK{α:Type}:∀{l:List (Nat×α)}{k:Nat},lk l k=none->∀x,(k,x)∉l
 |(j,y)::r,k,h,x=>by
  simp only[lk]at h;split at h
  ·cases h
  ·rename_i hn;simp only[aN,Prod.mk.injEq,not_or];exact⟨λ e=>hn e.1.symm,ahK h x⟩
 |[],_,_,_=>by simp
theorem aoe{tr:List (Nat×mS)}(hn:(tr.map (·.1)).Nodup)(i:Nat):(Mu (JM tr).reverse i).rd=(Fo tr i).rd/\(Mu (JM tr).reverse i).wr=(Fo tr i).wr:=by
 have hn':((JM tr).reverse.map (·.1)).Nodup:=by
  rw[List.map_reverse];have h1:((JM tr).map (·.1)).Nodup:=by simpa[JM,Function.comp_def]using hn
  exact List.pairwise_reverse.2 (h1.imp λh=>Ne.symm h)
 unfold Mu Fo;cases h:lk tr i with
 |none=>
  cases h':lk (JM tr).reverse i with
  |none=>exact⟨rfl,rfl⟩
  |some p=>
   have:=qZ h';simp only[JM,List.mem_reverse,mem_map]at this;obtain⟨q,hq,he⟩:=this;injection he with e1 e2;subst e1;exact(ahK h q.2 hq).elim
 |some a=>
  have h1:=qZ h;have h2:(i,a.rd,a.wr)∈(JM tr).reverse:=by
   simp only[JM,List.mem_reverse,mem_map];exact⟨(i,a),h1,rfl⟩
  rw[uP hn' h2];exact⟨rfl,rfl⟩
theorem akE{tr:List (Nat×mS)}(hn:(tr.map (·.1)).Nodup):∀p∈tr,Fo tr p.1=p.2:=by
 rintro⟨i,a⟩ hp;unfold Fo;rw[uP hn hp]
theorem V5{nx sz k:Nat}(h:G3 nx sz k=true):k<nx\/(1000000<=k/\k<1000000+sz):=by simpa[G3]using h
theorem TC{nx sz k:Nat}(hle:nx+sz<=1000000)(h:k<nx\/(1000000<=k/\k<1000000+sz)):gN nx (fN nx k)=k:=by
 unfold gN fN;rcases h with h |⟨h1,h2⟩
 ·rw[aX (show k<1000000 by omega),aX h]
 ·rw[aQ (show ¬k<1000000 by omega),aQ (by omega)];omega
theorem ZU{nx sz k:Nat}(hle:nx+sz<=1000000)(h:k<nx\/(1000000<=k/\k<1000000+sz)):fN nx k<nx+sz:=by
 unfold fN;rcases h with h |⟨h1,h2⟩
 ·rw[aX (show k<1000000 by omega)];omega
 ·rw[aQ (show ¬k<1000000 by omega)];omega
theorem Nx{nx k:Nat}(hle:nx<=1000000)(h:k<nx):fN nx k=k:=aX (by omega)
mutual
theorem V6{f:Nat->Nat}:∀x:DV X,(∀ k∈bk x,f k=k)->nr f x=x
 | .own k _ _,h=>by simp only[nr,h k (by simp[bk])]
 | .ptr k _ _,h=>by simp only[nr,h k (by simp[bk])]
 | .qr k _ _,h=>by simp only[nr,h k (by simp[bk])]
 | .mp k,h=>by simp only[nr,h k (by simp[bk])]
 | .oz k _,h=>by simp only[nr,h k (by simp[bk])]
 | .tg k _ _ _ _,h=>by simp only[nr,h k (by simp[bk])]
 | .agg cs,h=>by simp only[nr,zU cs (by simpa[bk]using h)]
 | .eC cs,h=>by simp only[nr,zU cs (by simpa[bk]using h)]
 | .fn F first caps,h=>by simp only[nr,zU first (λ k hk=>h k (by simp[bk,hk])),zU caps (λ k hk=>h k (by simp[bk,hk]))]
 | .c _ _,_=>rfl
 | .rp _ _ _,_=>rfl
 | .ws _ _ _ _ _,_=>rfl
 | .d7 _ _ _,_=>rfl
 | .raw _,_=>rfl
 | .nil,_=>rfl
 | .ub,_=>rfl
 | .skip,_=>rfl
 | .undef,_=>rfl
theorem zU{f:Nat->Nat}:∀l:List (DV X),(∀ k∈aP l,f k=k)->JL f l=l
 |[],_=>rfl
 |x::xs,h=>by simp only[JL,V6 x (λ k hk=>h k (by simp[aP,hk])),zU xs (λ k hk=>h k (by simp[aP,hk]))]
end
mutual
theorem V7(f:Nat->Nat):∀x:DV X,bk (nr f x)=(bk x).map f
 | .own _ _ _=>rfl
 | .ptr _ _ _=>rfl
 | .qr _ _ _=>rfl
 | .mp _=>rfl
 | .oz _ _=>rfl
 | .tg _ _ _ _ _=>rfl
 | .agg cs=>by simp only[nr,bk,yc f cs]
 | .eC cs=>by simp only[nr,bk,yc f cs]
 | .fn F first caps=>by simp only[nr,bk,yc f first,yc f caps,map_append]
 | .c _ _=>rfl
 | .rp _ _ _=>rfl
 | .ws _ _ _ _ _=>rfl
 | .d7 _ _ _=>rfl
 | .raw _=>rfl
 | .nil=>rfl
 | .ub=>rfl
 | .skip=>rfl
 | .undef=>rfl
theorem yc(f:Nat->Nat):∀l:List (DV X),aP (JL f l)=(aP l).map f
 |[]=>rfl
 |x::xs=>by simp only[JL,aP,V7 f x,yc f xs,map_append]
end
theorem adq(f:Nat->Nat)(o:bm X):d5 (oR f o)=(d5 o).map f:=by
 cases o with
 |cells sz rows=>simp only[oR,d5,map_map,List.map_flatten];congr 1;exact map_congr_left λr _=>yc f r
 |d8 c l=>rfl
 |map kc vc l=>rfl
theorem akF{α β:Type}(f:α->β):∀(l:List (Nat×α))(k:Nat),lk (l.map λp=>(p.1,f p.2)) k=(lk l k).map f
 |[],_=>rfl
 |(j,x)::r,k=>by
  simp only[aF,lk];by_cases h:j=k
  ·simp[h]
  ·simp only[aQ h,akF f r k]
theorem ahM{α β:Type}(f:α->β)(g:Nat->Nat):∀(l:List (Nat×α))(j:Nat),(∀ p∈l,∀q∈l,g p.1=g q.1->p.1=q.1)->
 (∀ y,lk (l.map λp=>(g p.1,f p.2)) j=some y->∃k x,lk l k=some x/\g k=j/\y=f x)/\(lk (l.map λp=>(g p.1,f p.2)) j=none->∀p∈l,g p.1≠j)
 |[],_,_=>⟨λ _ h=>by simp[lk]at h,λ_=>by simp⟩
 |(k0,x0)::r,j,hi=>by
  obtain⟨i1,i2⟩:=ahM f g r j (λ p hp q hq=>hi p (by simp[hp]) q (by simp[hq]));simp only[aF,lk];by_cases h:g k0=j
  ·rw[aX h];exact⟨λ y hy=>by injection hy with hy;exact⟨k0,x0,by simp,h,hy.symm⟩,λhn=>by cases hn⟩
  ·rw[aQ h];refine⟨λ y hy=>?_,λhn p hp=>?_⟩
   ·have⟨k,x,h1,h2,h3⟩:=i1 y hy;refine⟨k,x,?_,h2,h3⟩;have hne:k0≠k:=λe=>h (by rw[e];exact h2);rw[aQ hne];exact h1
   ·rcases aN.1 hp with rfl |hp
    ·exact h
    ·exact i2 hn p hp
structure Ext(ds:Nat->Prop)(s s':de X):Prop where
 env:∀t,¬ds t->eM s'.env t=eM s.env t\/eM s'.env t= .undef
 obj:∃d,s'.log=d++s.log/\∀k,k<s.nx->k∉d->gz s'.obj k=gz s.obj k\/gz s'.obj k=none
 nx:s.nx<=s'.nx
variable {Γ:FuncId->Option (bx X)} {fz:List Nat} {T:ea} {am:TypeId->Option (CT X.ι)} {P:Program} {N:Nat}
theorem MO(s:de X)(e:List (Nat×DV X))(o:List (Nat×Option (bm X)))(sz t:Nat):eM (fin s e o sz).env t=match lk e t with |some d=>I0 (nr (fN s.nx) d) |none=>eM s.env t:=by
 simp only[fin,eM,Cr,akF (λ d=>I0 (nr (fN s.nx) d))];cases lk e t<;>rfl
theorem abg(hT:eY P T)(hm:P.follows .mixedOrders=true)(hΓ:sC P Γ){id:Nat}{al:Array Oper}{d:Bool}{s:de X}{k:de X->Option A}{r:A}(hl:Low s)(h:Z2 Γ fz T am N al d s k=some r):
 ∃s':de X,k s'=some r/\Low s'/\Ext (Rp al) s s'/\Ev P N (.region id al d) (λ e σ=>e= .normal/\σ=s'.st) s.st:=by
 unfold Z2 at h;obtain⟨tr,e,o,h1,h2,h3,h4⟩:=DL hΓ _ _ _ _ h;have⟨h5,h6⟩:=dZ h2;simp only[akD,aL,append_nil]at h5;obtain⟨⟨⟨⟨hd,hlex⟩,hE⟩,hO⟩,hnx⟩:=h5;have hle:s.nx+64*al.size<=1000000:=of_decide_eq_true hnx;have HA:(tr.map (·.1)).Nodup:=by rw[h1];exact List.nodup_range
 have S7:∀t x,lk e t=some x->∀j∈bk x,j<s.nx\/(1000000<=j/\j<1000000+64*al.size):=by
  intro t x hx j hj;have:=all_eq_true.1 hE _ (qZ hx);exact V5 (all_eq_true.1 this j hj)
 have HK:∀p∈o,(p.1<s.nx\/(1000000<=p.1/\p.1<1000000+64*al.size))/\∀x,p.2=some x->∀j∈d5 x,j<s.nx\/(1000000<=j/\j<1000000+64*al.size):=by
  intro p hp;have:=all_eq_true.1 hO _ hp;simp only[aL]at this;refine⟨V5 this.1,λx hx j hj=>?_⟩;have h2:=this.2;rw[hx]at h2;exact V5 (all_eq_true.1 h2 j hj)
 have hinj:∀p∈o,∀q∈o,fN s.nx p.1=fN s.nx q.1->p.1=q.1:=by
  intro p hp q hq he;have:=congrArg (gN s.nx) he
  rwa [TC hle (HK p hp).1,TC hle (HK q hq).1]at this
 have xf:∀j,(∃ q x,lk o q=some x/\fN s.nx q=j/\gz (fin s e o (64*al.size)).obj j=x.map (oR (fN s.nx)))\/(gz (fin s e o (64*al.size)).obj j=gz s.obj j/\∀p∈o,fN s.nx p.1≠j):=by
  intro j;obtain⟨i1,i2⟩:=ahM (λ x:Option (bm X)=>x.map (oR (fN s.nx))) (fN s.nx) o j hinj;simp only[fin,gz,Cr];cases hj:lk (o.map λp=>(fN s.nx p.1,p.2.map (oR (fN s.nx)))) j with
  |none=>exact .inr ⟨rfl,i2 hj⟩
  |some y=>
   have⟨q,x,g1,g2,g3⟩:=i1 y hj;exact .inl ⟨q,x,g1,g2,by rw[g3];rfl⟩
 refine⟨fin s e o (64*al.size),h6,?_,?_,?_⟩
 ·constructor
  ·exact hle
  ·have:=hl.ge;show 1000<=s.nx+64*al.size;omega
  ·intro t j hj;rw[MO]at hj;cases ht:lk e t with
   |none=>rw[ht]at hj;have:=hl.env t j hj;show j<s.nx+64*al.size;omega
   |some x=>
    rw[ht,ZT,V7]at hj;obtain⟨q,hq,rfl⟩:=mem_map.1 hj;exact ZU hle (S7 t x ht q hq)
  ·intro j x hx;rcases xf j with ⟨q,y,g1,rfl,g3⟩ |⟨g1,_⟩
   ·rw[g3]at hx;rw[dK]at hx;obtain⟨z,rfl,rfl⟩:=hx;obtain⟨k1,k2⟩:=HK _ (qZ g1);refine⟨ZU hle k1,λi hi=>?_⟩;rw[adq]at hi;obtain⟨i',hi',rfl⟩:=mem_map.1 hi;exact ZU hle (k2 z rfl i' hi')
   ·rw[g1]at hx;have⟨k1,k2⟩:=hl.obj j x hx;refine⟨show j<s.nx+64*al.size by omega,λi hi=>?_⟩;have:=k2 i hi;show i<s.nx+64*al.size;omega
 ·refine⟨λ t ht=> .inl ?_,⟨o.map (λ p=>fN s.nx p.1),rfl,λj hj hn=>?_⟩,by show s.nx<=s.nx+64*al.size;omega⟩
  ·rw[MO];cases hx:lk e t with
   |none=>rfl
   |some x=>
    rcases h3 _ (qZ hx)with h |h
    ·simp at h
    ·exact(ht h).elim
  ·rcases xf j with ⟨q,y,g1,g2,g3⟩ |⟨g1,_⟩
   ·exact(hn (mem_map.2 ⟨(q,y),qZ g1,g2⟩)).elim
   ·exact .inl g1
 ·have hst:iy s [] []=s.st:=rfl;have hex:=h4 (Fo tr) (akE HA);rw[hst]at hex;intro w0 O0 β I a w hr ho;have done:∀(e':Exit)(a':Act)(w':World),(∃ β' I' σ1,Rel P w0 O0 N β' I' σ1 a' w'/\e'= .normal/\σ1=iy s e o)->∃ β' I' σ1,Rel P w0 O0 N β' I' σ1 a' w'/\tD σ1/\e'= .normal/\σ1=(fin s e o (64*al.size)).st:=by
   rintro e' a' w' ⟨β',I',σ1,g1,rfl,rfl⟩;refine⟨_,I',(fin s e o (64*al.size)).st,Rel.re (f:=fN s.nx) (g:=gN s.nx) (D:=λk=>k<s.nx\/(1000000<=k/\k<1000000+64*al.size)) (λ k hk=>TC hle hk) (λ j hj=>by have:=hl.ge;unfold gN;rw[aX (by omega)]) g1 (λ t=>?_) (λ _=>rfl) (λ t=> .inr ?_) (λ j o' hj=>?_),?_,rfl,rfl⟩
   ·show(match lk e t with |some .skip=>some false |_=>none)=none\/den (eM (fin s e o (64*al.size)).env t)= .undef;rw[MO];cases ht:lk e t with
    |none=>exact .inl rfl
    |some d=>cases d<;>first |exact .inl rfl |exact .inr rfl
   ·show(∀ k∈refs (den (pb e s.env t)),_)/\li (fX (fN s.nx) (den (pb e s.env t))) (den (eM (fin s e o (64*al.size)).env t));rw[MO,iL,<- zS];unfold pb;cases ht:lk e t with
    |none=>
     refine⟨λ q hq=> .inl (hl.env t q hq),?_⟩;rw[V6 _ (λ q hq=>Nx (by omega) (hl.env t q hq))];exact li.refl _
    |some x=>exact⟨S7 t x ht,by simp only[akC];exact li.refl _⟩
   ·simp only[de.st,dK]at hj;obtain⟨x,hx,rfl⟩:=hj;rcases xf j with ⟨q,y,i1,rfl,i3⟩ |⟨i1,i2⟩
    ·rw[i3,dK]at hx;obtain⟨z,rfl,rfl⟩:=hx;obtain⟨k1,k2⟩:=HK _ (qZ i1);obtain⟨r1,r2⟩:=Jj (D:=λk=>k<s.nx\/(1000000<=k/\k<1000000+64*al.size)) (fN s.nx) z (λ i hi=>k2 z rfl i hi);refine⟨q,bG z,?_,k1,rfl,r1,r2⟩;simp only[iy,wA,i1,Option.map_some]
    ·rw[i1]at hx;have⟨k1,k2⟩:=hl.obj j x hx;have hid:oR (fN s.nx) x=x:=by
      cases x with
      |d8 c l=>rfl
      |map kc vc l=>rfl
      |cells sz rows=>
       simp only[oR];congr 1;have:∀q∈rows,JL (fN s.nx) q=q:=λq hq=>zU q λi hi=>Nx (by omega) (k2 i (by
        simp only[d5,List.mem_flatten,mem_map];exact⟨_,⟨q,hq,rfl⟩,hi⟩))
       rw[map_congr_left this];simp
     obtain⟨r1,r2⟩:=Jj (D:=λk=>k<s.nx\/(1000000<=k/\k<1000000+64*al.size)) (fN s.nx) x (λ i hi=> .inl (k2 i hi));rw[hid]at r1 r2;refine⟨j,bG x,?_,.inl k1,Nx (by omega) k1,r1,r2⟩;simp only[iy,wA];cases hlo:lk o j with
     |none=>simp[hx]
     |some y=>exact(i2 _ (qZ hlo) (Nx (by omega) k1)).elim
   ·have hL:Low (fin s e o (64*al.size)):=by
     constructor
     ·exact hle
     ·have:=hl.ge;show 1000<=s.nx+64*al.size;omega
     ·intro t j hj;rw[MO]at hj;cases ht:lk e t with
      |none=>rw[ht]at hj;have:=hl.env t j hj;show j<s.nx+64*al.size;omega
      |some x=>
       rw[ht,ZT,V7]at hj;obtain⟨q,hq,rfl⟩:=mem_map.1 hj;exact ZU hle (S7 t x ht q hq)
     ·intro j x hx;rcases xf j with ⟨q,y,g1,rfl,g3⟩ |⟨g1,_⟩
      ·rw[g3]at hx;rw[dK]at hx;obtain⟨z,rfl,rfl⟩:=hx;obtain⟨k1,k2⟩:=HK _ (qZ g1);refine⟨ZU hle k1,λi hi=>?_⟩;rw[adq]at hi;obtain⟨i',hi',rfl⟩:=mem_map.1 hi;exact ZU hle (k2 z rfl i' hi')
      ·rw[g1]at hx;have⟨k1,k2⟩:=hl.obj j x hx;refine⟨show j<s.nx+64*al.size by omega,λi hi=>?_⟩;have:=k2 i hi;show i<s.nx+64*al.size;omega
    exact hL.old
  cases d with
  |false=>exact wp_mono (aiu hT hd ho hex hr) done
  |true=>
   refine wp_mono (Ve hT hm hd ?_ ho hex hr) done;rw[<- adp (aoe HA)];simpa using hlex
end
end Go.Gb
namespace Go.Gb
open Go.RowKit
structure Sh(ι:Type) where
 slots:List (Nat×Pt ι)
 cE:List (Nat×OP ι)
 keep:List Nat
 da:List Nat
 nx:Nat
 AK:List (Nat×CT ι)
def Sh.vars{ι:Type}(s:Sh ι):List (CT ι):=gE s.slots++cH s.cE
section
variable {X:SX}
def nz(z:Bool)(k:Nat):DV X:=bif z then .oz k 0 else .own k 0 0
def zE(z:Bool)(s:de X)(t:Nat)(c:CT X.ι):de X:=
 match eM s.env t with
 | .nil=>if s.nx<1000000 then⟨(t,nz z s.nx)::s.env,(s.nx,some (.d8 c []))::s.obj,s.nx+1,s.nx::s.log⟩else s
 |_=>s
def Fm(s:de X)(q j:Nat)(c:CT X.ι):de X:=
 match gz s.obj q with
 |some (.cells sz [row])=>match row[j]? with
  |some .nil=>if s.nx<1000000 then⟨s.env,(q,some (.cells sz [row.set j (.own s.nx 0 0)]))::(s.nx,some (.d8 c []))::s.obj,s.nx+1,q::s.nx::s.log⟩else s
  |_=>s
 |_=>s
def Pz:List (Nat×CT X.ι)->de X->de X
 |[],s=>s
 |(t,c)::r,s=>Pz r (bif Nat.ble 1000000 t then bif Nat.ble 1099511627776 t then zE true s (t -1099511627776) c else Fm s ((t -1000000)/4096) ((t -1000000)%4096) c else zE false s t c)
def isU:DV X->Bool
 | .undef | .skip=>true
 |_=>false
def encS(sh:Sh X.ι)(s0:de X)(v:VT (X:=X) sh.vars):de X:=
 let L:=vT sh.vars v
 let n:=(gE sh.slots).length
 let ol:=λk=>(lk (lens sh.cE (L.drop n)) k).getD 0
 ⟨KJ ol sh.slots (L.take n)++sh.keep.map (λ t=>(t,eM s0.env t)),dn ol sh.cE (L.drop n)++sh.da.map (λ k=>(k,gz s0.obj k)),sh.nx,
  (List.range s0.nx).filter (λ k=>!sh.da.contains k)++s0.log⟩
def okS(sh:Sh X.ι)(ds:List Nat)(s0 s':de X)(m:MA X):Bool:=
 decide (m.nm.map (·.1)++sh.da).Nodup&&decide (m.nm.map (·.2)++sh.da).Nodup&&decide (sh.cE.map (·.1)).Nodup&&m.nm.all (λ q=>(sh.cE.map (·.1)).contains q.2&&decide (q.2<sh.nx)&&(decide (q.1=q.2) || decide (1000<=q.2)))&&
  sh.slots.all (λ p=>ds.contains p.1)&&sh.keep.all (λ t=>!ds.contains t&&!isU (eM s'.env t)&&(bk (eM s0.env t)).all λj=>sh.da.contains j || m.nm.contains (j,j))&&
  sh.da.all (λ k=>decide (k<s0.nx)&&!(s'.log.take (s'.log.length -s0.log.length)).contains k&&(gz s'.obj k).isSome&&match gz s0.obj k with |some o=>(d5 o).all λj=>sh.da.contains j || m.nm.contains (j,j) |none=>false)&&
  decide (s0.nx<=sh.nx)&&decide (sh.nx<=1000000)
def OF{A:Type}(sh:Sh X.ι)(ds:List Nat)(s0 s':de X)(k:VT (X:=X) sh.vars->Option A):Option A:=
 (GX (gz s'.obj) (eM s'.env) sh.slots ⟨[],[],[]⟩).bind λm=>(Ck (gz s'.obj) sh.cE m).bind λm=>bif okS sh ds s0 s' m then(Yx sh.vars m.ez).bind λv=>Vm m.iS (k v)else none
def p9{A:Type}(sh:Sh X.ι)(ds:List Nat)(s0 s':de X)(k:VT (X:=X) sh.vars->Option A):Option A:=
 bif sh.AK.all (λ p=>bif Nat.ble 1000000 p.1 then !Nat.ble 1099511627776 p.1 || ds.contains (p.1 -1099511627776)else ds.contains p.1)then OF sh ds s0 (Pz sh.AK s') k else none
end
section
variable {X:SX}
theorem ZV{d:DV X}{c:CT X.ι}{x:CT.T X.toSE c}(h:JK d c=some x):bk d=[]:=by
 cases d
 case c=>rfl
 case nil=>rfl
 all_goals cases c<;>cases h
theorem Rq:∀{ds:List (DV X)}{l:List (CT X.ι)}{h:HL X.toSE l},yB ds l=some h->aP ds=[]
 |[],[],_,_=>rfl
 |d::ds,c::l,h,hr=>by
  simp only[yB]at hr;have⟨x,h1,hr⟩:=ai.1 hr;have⟨g,h2,hr⟩:=ai.1 hr;simp only[aP,ZV h1,Rq h2,append_nil]
 |[],_::_,_,hr=>by simp[yB]at hr
 |_::_,[],_,hr=>by simp[yB]at hr
theorem amE{d:DV X}{c:CT X.ι}{x:CT.T X.toSE c}(h:dat d c=some x):li (den d) (den (.c c x:DV X))/\bk d=[]:=by
 cases c
 case st i=>
  replace h:DB d i=some x:=h
  cases d
  case agg cs=>
   simp only[DB]at h;have⟨g,h1,h⟩:=ai.1 h;cases h;refine⟨λ P β w I v hv=>?_,by simp only[bk,Rq h1]⟩;have h2:=(yC h1 (X.flat i)).1;simp only[den,VR]at hv;obtain⟨vs,rfl,hv⟩:=hv;show VR P β w I (.agg ((X.row i (X.make i g)).map AV.t)) _;have h3:(X.row i (X.make i g)).map AV.t=(bL cs).map Gb.wk:=(by rw[h2];exact congrArg _ (X.gd i g));rw[h3];simp only[VR];exact⟨vs,rfl,aE.wk _ _ hv⟩
  case c a y=>
   replace h:jr a (.st i) y=some x:=h
   rw[(nY h).1];exact⟨li.refl _,rfl⟩
  all_goals cases h
 all_goals
  have h1:=vR h;refine⟨λ P β w I v hv=>?_,ZV h⟩;simp only[den];rw[<- h1];exact hv.wk
def gi(m m':MA X):Prop:=(∀ q∈m.nm,q∈m'.nm)/\(∀ c∈m.iS,c∈m'.iS)
theorem gi.refl(m:MA X):gi m m:=⟨λ _ h=>h,λ_ h=>h⟩
theorem gi.trans{a b c:MA X}(h:gi a b)(h':gi b c):gi a c:=⟨λ q hq=>h'.1 q (h.1 q hq),λq hq=>h'.2 q (h.2 q hq)⟩
theorem fC(m:MA X)(k' k:Nat):(addN m k' k).ez=m.ez/\(addN m k' k).iS=m.iS:=by unfold addN;split<;>exact⟨rfl,rfl⟩
theorem nO(m:MA X)(k' k:Nat):(k',k)∈(addN m k' k).nm:=by
 unfold addN;split
 ·rename_i h;simpa using h
 ·simp
theorem o9(m:MA X)(k' k:Nat):gi m (addN m k' k):=by
 unfold addN;split
 ·exact gi.refl m
 ·exact⟨λ q hq=>by simp[hq],λ_ h=>h⟩
variable {get:Nat->Option (bm X)}
mutual
theorem ahN:∀(p:Pt X.ι)(d:DV X)(m m':MA X),mP get p d m=some m'->gi m m'/\∃an,m'.ez=m.ez++an/\an.length=p.vars.length
 | .v c,d,m,m',h=>by
  simp only[mP]at h;rw[ai]at h;obtain⟨x,h1,h⟩:=h;cases h;exact⟨⟨λ _ h=>h,λ_ h=>h⟩,[⟨c,x⟩],rfl,rfl⟩
 | .o k,d,m,m',h=>by
  simp only[mP]at h;split at h
  ·rename_i k' len;have⟨o,h1,h⟩:=ai.1 h;split at h
   ·cases h;refine⟨gi.trans (b:=⟨m.nm,m.ez,m.iS++_⟩) ⟨λ _ h=>h,λ_ h=>by simp[h]⟩ (o9 _ _ _),[],by rw[(fC _ _ _).1];simp,rfl⟩
   ·cases h
  ·cases h
 | .oz k,d,m,m',h=>by
  simp only[mP]at h;split at h
  ·have⟨o,h1,h⟩:=ai.1 h;split at h
   ·cases h;refine⟨gi.trans (b:=⟨m.nm,m.ez,m.iS++_⟩) ⟨λ _ h=>h,λ_ h=>by simp[h]⟩ (o9 _ _ _),[],by rw[(fC _ _ _).1];simp,rfl⟩
   ·cases h
  ·have⟨o,h1,h⟩:=ai.1 h;split at h
   ·cases h;refine⟨gi.trans (b:=⟨m.nm,m.ez,m.iS++_⟩) ⟨λ _ h=>h,λ_ h=>by simp[h]⟩ (o9 _ _ _),[],by rw[(fC _ _ _).1];simp,rfl⟩
   ·cases h
  ·cases h
 | .p k,d,m,m',h=>by
  simp only[mP]at h;split at h
  ·cases h;exact⟨o9 _ _ _,[],by rw[(fC _ _ _).1];simp,rfl⟩
  ·cases h
 | .mp k,d,m,m',h=>by
  simp only[mP]at h;split at h
  ·cases h;exact⟨o9 _ _ _,[],by rw[(fC _ _ _).1];simp,rfl⟩
  ·cases h
 | .nil,d,m,m',h=>by
  simp only[mP]at h;split at h
  ·cases h;exact⟨gi.refl _,[],by simp,rfl⟩
  ·cases h
 | .f F fs cs,d,m,m',h=>by
  simp only[mP]at h;split at h
  ·split at h
   ·rw[ai]at h;obtain⟨m1,h1,h⟩:=h;obtain⟨a1,n1,b1,c1⟩:=yI fs _ m m1 h1;obtain⟨a2,n2,b2,c2⟩:=yI cs _ m1 m' h;exact⟨a1.trans a2,n1++n2,by rw[b2,b1,aK],by simp[Pt.vars,c1,c2]⟩
   ·cases h
  ·cases h
 | .od k,d,m,m',h=>by
  simp only[mP]at h;split at h
  ·rename_i k' aa len;have⟨o,h1,h⟩:=ai.1 h;split at h
   ·cases h;refine⟨gi.trans (b:=⟨m.nm,m.ez++[⟨.int .i64,(aa:Int)⟩],m.iS++_⟩) ⟨λ _ h=>h,λ_ h=>by simp[h]⟩ (o9 _ _ _),[⟨.int .i64,(aa:Int)⟩],by rw[(fC _ _ _).1],rfl⟩
   ·cases h
  ·cases h
 | .a ps,d,m,m',h=>by
  simp only[mP]at h;split at h
  ·exact yI ps _ m m' h
  ·cases h
theorem yI:∀(ps:List (Pt X.ι))(ds:List (DV X))(m m':MA X),sX get ps ds m=some m'->gi m m'/\∃an,m'.ez=m.ez++an/\an.length=(cP ps).length
 |[],[],m,m',h=>by
  simp only[sX,aA]at h;subst h;exact⟨gi.refl _,[],by simp,rfl⟩
 |p::ps,d::ds,m,m',h=>by
  simp only[sX]at h;have⟨m1,h1,h⟩:=ai.1 h;have⟨a1,n1,b1,c1⟩:=ahN p d m m1 h1;have⟨a2,n2,b2,c2⟩:=yI ps ds m1 m' h;exact⟨a1.trans a2,n1++n2,by rw[b2,b1,aK],by simp[cP,c1,c2]⟩
 |[],_::_,m,m',h=>by simp[sX]at h
 |_::_,[],m,m',h=>by simp[sX]at h
end
theorem yJ:∀(rs:List (List (Pt X.ι)))(qs:List (List (DV X)))(m m':MA X),Fa get rs qs m=some m'->gi m m'/\∃an,m'.ez=m.ez++an/\an.length=(vS rs).length
 |[],[],m,m',h=>by
  simp only[Fa,aA]at h;subst h;exact⟨gi.refl _,[],by simp,rfl⟩
 |r::rs,q::qs,m,m',h=>by
  simp only[Fa]at h;have⟨m1,h1,h⟩:=ai.1 h;have⟨a1,n1,b1,c1⟩:=yI r q m m1 h1;have⟨a2,n2,b2,c2⟩:=yJ rs qs m1 m' h;exact⟨a1.trans a2,n1++n2,by rw[b2,b1,aK],by simp[vS,c1,c2]⟩
 |[],_::_,m,m',h=>by simp[Fa]at h
 |_::_,[],m,m',h=>by simp[Fa]at h
section
variable {NM:List (Nat×Nat)} {f:Nat->Nat} {dt:Nat->Nat}
def DN(NM:List (Nat×Nat))(j:Nat):Prop:=∃k,(j,k)∈NM
def SN(NM:List (Nat×Nat))(j:Nat):Prop:=∃k,(k,j)∈NM
theorem MP{D:Nat->Prop}{f:Nat->Nat}{P:Program}{β:Nat->Option cL}{w:World}{I:Nat->Prop}:∀{a b:List AV}(_:mN D f a b)(u:List Value),aE P β w I (zw f a) u->aE P β w I b u
 |[],[],_,u,hu=>hu
 |[],_::_,hr,_,_=>hr.elim
 |_::_,[],hr,_,_=>hr.elim
 |y::ys,z::zs,hr,[],hu=>by simp[zw,aE]at hu
 |y::ys,z::zs,hr,v::vs,hu=>by
  simp only[zw,aE]at hu ⊢;exact⟨hr.1.2 _ _ _ _ _ hu.1,MP hr.2 vs hu.2⟩
mutual
theorem ads(hf:∀q∈NM,f q.1=q.2)(ho:∀q∈NM,∀c l,get q.1=some (.d8 c l)->dt q.2=l.length):∀(p:Pt X.ι)(d:DV X)(m m':MA X),mP get p d m=some m'->(∀ q∈m'.nm,q∈NM)->(∀ c∈m'.iS,c=true)->
 ∃an,m'.ez=m.ez++an/\∃d',(∀ ag,eP dt p (an++ag)=(d',ag))/\li (fX f (den d)) (den d')/\(∀ j∈bk d,DN NM j)/\(∀ j∈bk d',SN NM j)
 | .v c,d,m,m',h,_,_=>by
  simp only[mP]at h;rw[ai]at h;obtain⟨x,h1,h⟩:=h;cases h;have⟨h2,h3⟩:=amE h1;refine⟨[⟨c,x⟩],rfl,.c c x,λag=>rfl,?_,by simp[h3],by simp[bk]⟩;rw[<- zS,V6 d (by simp[h3])];exact h2
 | .o k,d,m,m',h,hn,hc=>by
  simp only[mP]at h;split at h
  ·rename_i k' len;rw[ai]at h;obtain⟨o,h1,h⟩:=h;split at h
   ·rename_i c l;cases h;have hq:(k',k)∈NM:=hn _ (nO _ _ _);have he:len=l.length:=by
     have:=hc (az len l.length) (by rw[(fC _ _ _).2];simp);simpa[az]using this
    refine⟨[],by rw[(fC _ _ _).1];simp,.own k 0 (dt k),λag=>rfl,?_,?_,?_⟩
    ·simp only[den,fX];rw[hf _ hq,ho _ hq c l h1,he];exact li.refl _
    ·intro j hj;simp only[bk,aW]at hj;subst hj;exact⟨k,hq⟩
    ·intro j hj;simp only[bk,aW]at hj;subst hj;exact⟨k',hq⟩
   ·cases h
  ·cases h
 | .oz k,d,m,m',h,hn,hc=>by
  simp only[mP]at h;split at h
  ·rename_i k' len;rw[ai]at h;obtain⟨o,h1,h⟩:=h;split at h
   ·rename_i c l;cases h;have hq:(k',k)∈NM:=hn _ (nO _ _ _);have he:len≠0/\len=l.length:=by
     have:=hc (!(len==0)&&az len l.length) (by rw[(fC _ _ _).2];simp);simpa[az]using this
    refine⟨[],by rw[(fC _ _ _).1];simp,.oz k (dt k),λag=>rfl,?_,λj hj=>?_,λj hj=>?_⟩
    ·simp only[den,fX];rw[hf _ hq,ho _ hq c l h1,<- he.2];intro P β w I v hv;simp only[VR]at hv ⊢;exact .inr ⟨he.1,hv.resolve_left λh=>he.1 h.2.2.2⟩
    ·simp only[bk,aW]at hj;subst hj;exact⟨k,hq⟩
    ·simp only[bk,aW]at hj;subst hj;exact⟨k',hq⟩
   ·cases h
  ·rename_i k' len;rw[ai]at h;obtain⟨o,h1,h⟩:=h;split at h
   ·rename_i c l;cases h;have hq:(k',k)∈NM:=hn _ (nO _ _ _);have he:len=l.length:=by
     have:=hc (az len l.length) (by rw[(fC _ _ _).2];simp);simpa[az]using this
    refine⟨[],by rw[(fC _ _ _).1];simp,.oz k (dt k),λag=>rfl,?_,λj hj=>?_,λj hj=>?_⟩
    ·simp only[den,fX];rw[hf _ hq,ho _ hq c l h1,he];exact li.refl _
    ·simp only[bk,aW]at hj;subst hj;exact⟨k,hq⟩
    ·simp only[bk,aW]at hj;subst hj;exact⟨k',hq⟩
   ·cases h
  ·cases h
 | .p k,d,m,m',h,hn,hc=>by
  simp only[mP]at h;split at h
  ·rename_i k';cases h;have hq:(k',k)∈NM:=hn _ (nO _ _ _);refine⟨[],by rw[(fC _ _ _).1];simp,.ptr k 0 0,λag=>rfl,?_,?_,?_⟩
   ·simp only[den,fX];rw[hf _ hq];exact li.refl _
   ·intro j hj;simp only[bk,aW]at hj;subst hj;exact⟨k,hq⟩
   ·intro j hj;simp only[bk,aW]at hj;subst hj;exact⟨k',hq⟩
  ·cases h
 | .mp k,d,m,m',h,hn,hc=>by
  simp only[mP]at h;split at h
  ·rename_i k';cases h;have hq:(k',k)∈NM:=hn _ (nO _ _ _);refine⟨[],by rw[(fC _ _ _).1];simp,.mp k,λag=>rfl,?_,?_,?_⟩
   ·simp only[den,fX];rw[hf _ hq];exact li.refl _
   ·intro j hj;simp only[bk,aW]at hj;subst hj;exact⟨k,hq⟩
   ·intro j hj;simp only[bk,aW]at hj;subst hj;exact⟨k',hq⟩
  ·cases h
 | .nil,d,m,m',h,_,_=>by
  simp only[mP]at h;split at h
  ·cases h;exact⟨[],by simp,.nil,λag=>rfl,li.refl _,by simp[bk],by simp[bk]⟩
  ·cases h
 | .f F fs cs,d,m,m',h,hn,hc=>by
  simp only[mP]at h;split at h
  ·rename_i F' first caps
   split at h
   ·rename_i e;subst e;rw[ai]at h;obtain⟨m1,h1,h⟩:=h;have hm:=(yI cs _ m1 m' h).1;obtain⟨n1,a1,f',b1,c1,e1,g1⟩:=Cs hf ho fs _ m m1 h1 (λ q hq=>hn q (hm.1 q hq)) (λ q hq=>hc q (hm.2 q hq));obtain⟨n2,a2,c',b2,c2,e2,g2⟩:=Cs hf ho cs _ m1 m' h hn hc;refine⟨n1++n2,by rw[a2,a1,aK],.fn F f' c',λag=>by simp only[eP,aK,b1,b2],?_,?_,?_⟩
    ·intro P β w I v hv;simp only[den,fX,VR]at hv ⊢;obtain⟨us,vs,rfl,hu,hv⟩:=hv;exact⟨us,vs,rfl,MP c1 _ hu,MP c2 _ hv⟩
    ·intro j hj;simp only[bk,bf]at hj;exact hj.elim (e1 j) (e2 j)
    ·intro j hj;simp only[bk,bf]at hj;exact hj.elim (g1 j) (g2 j)
   ·cases h
  ·cases h
 | .od k,d,m,m',h,hn,hc=>by
  simp only[mP]at h;split at h
  ·rename_i k' aa len;rw[ai]at h;obtain⟨o,h1,h⟩:=h;split at h
   ·rename_i c l;cases h;have hq:(k',k)∈NM:=hn _ (nO _ _ _);have he:aa+len=l.length:=by
     have:=hc (az (aa+len) l.length) (by rw[(fC _ _ _).2];simp);simpa[az]using this
    refine⟨[⟨.int .i64,(aa:Int)⟩],by rw[(fC _ _ _).1],.own k aa (dt k -aa),λag=>?_,?_,?_,?_⟩
    ·simp only[eP,cons_append,bQ];have:ZC (X:=X) ⟨.int .i64,(aa:Int)⟩=aa:=by
      simp only[ZC];rw[Vx];simp
     rw[this]
    ·simp only[den,fX];rw[hf _ hq,ho _ hq c l h1,show l.length -aa=len by omega];exact li.refl _
    ·intro j hj;simp only[bk,aW]at hj;subst hj;exact⟨k,hq⟩
    ·intro j hj;simp only[bk,aW]at hj;subst hj;exact⟨k',hq⟩
   ·cases h
  ·cases h
 | .a ps,d,m,m',h,hn,hc=>by
  simp only[mP]at h;split at h
  ·rename_i ds;have⟨an,h1,ds',h2,h3,h4,h5⟩:=Cs hf ho ps ds m m' h hn hc;refine⟨an,h1,.agg ds',λag=>by simp only[eP,h2],?_,by simpa[bk]using h4,by simpa[bk]using h5⟩;intro P β w I v hv;simp only[den,fX,VR]at hv ⊢;obtain⟨vs,rfl,hv⟩:=hv;refine⟨vs,rfl,?_⟩;exact MP h3 _ hv
  ·cases h
theorem Cs(hf:∀q∈NM,f q.1=q.2)(ho:∀q∈NM,∀c l,get q.1=some (.d8 c l)->dt q.2=l.length):∀(ps:List (Pt X.ι))(ds:List (DV X))(m m':MA X),sX get ps ds m=some m'->(∀ q∈m'.nm,q∈NM)->(∀ c∈m'.iS,c=true)->
 ∃an,m'.ez=m.ez++an/\∃ds',(∀ ag,lh dt ps (an++ag)=(ds',ag))/\mN (DN NM) f (bL ds) (bL ds')/\(∀ j∈aP ds,DN NM j)/\(∀ j∈aP ds',SN NM j)
 |[],[],m,m',h,_,_=>by
  simp only[sX,aA]at h;subst h;exact⟨[],by simp,[],λag=>rfl,trivial,by simp[aP],by simp[aP]⟩
 |p::ps,d::ds,m,m',h,hn,hc=>by
  simp only[sX]at h;have⟨m1,h1,h⟩:=ai.1 h;have hm:=(yI ps ds m1 m' h).1;obtain⟨n1,a1,d',b1,c1,e1,g1⟩:=ads hf ho p d m m1 h1 (λ q hq=>hn q (hm.1 q hq)) (λ q hq=>hc q (hm.2 q hq));have⟨n2,a2,ds',b2,c2,e2,g2⟩:=Cs hf ho ps ds m1 m' h hn hc;refine⟨n1++n2,by rw[a2,a1,aK],d'::ds',λag=>?_,⟨⟨λ k hk=>e1 k (by rwa [iL]at hk),c1⟩,c2⟩,?_,?_⟩
  ·simp only[lh,aK,b1,b2]
  ·intro j hj;simp only[aP,bf]at hj;exact hj.elim (e1 j) (e2 j)
  ·intro j hj;simp only[aP,bf]at hj;exact hj.elim (g1 j) (g2 j)
 |[],_::_,m,m',h,_,_=>by simp[sX]at h
 |_::_,[],m,m',h,_,_=>by simp[sX]at h
end
theorem Rs(hf:∀q∈NM,f q.1=q.2)(ho:∀q∈NM,∀c l,get q.1=some (.d8 c l)->dt q.2=l.length):∀(rs:List (List (Pt X.ι)))(qs:List (List (DV X)))(m m':MA X),Fa get rs qs m=some m'->(∀ q∈m'.nm,q∈NM)->(∀ c∈m'.iS,c=true)->
 ∃an,m'.ez=m.ez++an/\∃D3,(∀ ag,vU dt rs (an++ag)=(D3,ag))/\ie (DN NM) f (qs.map bL) (D3.map bL)/\(∀ j∈(qs.map aP).flatten,DN NM j)/\(∀ j∈(D3.map aP).flatten,SN NM j)
 |[],[],m,m',h,_,_=>by
  simp only[Fa,aA]at h;subst h;exact⟨[],by simp,[],λag=>rfl,trivial,by simp,by simp⟩
 |r::rs,q::qs,m,m',h,hn,hc=>by
  simp only[Fa]at h;have⟨m1,h1,h⟩:=ai.1 h;have hm:=(yJ rs qs m1 m' h).1;obtain⟨n1,a1,d',b1,c1,e1,g1⟩:=Cs hf ho r q m m1 h1 (λ q hq=>hn q (hm.1 q hq)) (λ q hq=>hc q (hm.2 q hq));have⟨n2,a2,ds',b2,c2,e2,g2⟩:=Rs hf ho rs qs m1 m' h hn hc;refine⟨n1++n2,by rw[a2,a1,aK],d'::ds',λag=>?_,⟨c1,c2⟩,?_,?_⟩
  ·simp only[vU,aK,b1,b2]
  ·intro j hj;simp only[aF,flatten_cons,bf]at hj;exact hj.elim (e1 j) (e2 j)
  ·intro j hj;simp only[aF,flatten_cons,bf]at hj;exact hj.elim (g1 j) (g2 j)
 |[],_::_,m,m',h,_,_=>by simp[Fa]at h
 |_::_,[],m,m',h,_,_=>by simp[Fa]at h
end
end
section
variable {X:SX} {get:Nat->Option (bm X)} {env:Nat->DV X}
theorem G6:∀(sl:List (Nat×Pt X.ι))(m m':MA X),GX get env sl m=some m'->gi m m'/\∃an,m'.ez=m.ez++an/\an.length=(gE sl).length
 |[],m,m',h=>by
  simp only[GX,aA]at h;subst h;exact⟨gi.refl _,[],by simp,rfl⟩
 |(t,p)::r,m,m',h=>by
  simp only[GX]at h;rw[ai]at h;obtain⟨m1,h1,h⟩:=h;obtain⟨a1,n1,b1,c1⟩:=ahN p _ m m1 h1;have⟨a2,n2,b2,c2⟩:=G6 r m1 m' h;exact⟨a1.trans a2,n1++n2,by rw[b2,b1,aK],by simp[gE,c1,c2]⟩
theorem lW:∀(os:List (Nat×OP X.ι))(m m':MA X),Ck get os m=some m'->gi m m'/\∃an,m'.ez=m.ez++an/\an.length=(cH os).length
 |[],m,m',h=>by
  simp only[Ck,aA]at h;subst h;exact⟨gi.refl _,[],by simp,rfl⟩
 |(k,op)::r,m,m',h=>by
  simp only[Ck]at h;rw[ai]at h;obtain⟨o,h1,h⟩:=h;split at h
  ·rename_i c c' l;rw[ai]at h;obtain⟨l',h2,h⟩:=h;obtain⟨a2,n2,b2,c2⟩:=lW r _ m' h;refine⟨gi.trans (gi.trans (b:=⟨m.nm,m.ez++[⟨.sl c,l'⟩],m.iS⟩) ⟨λ _ h=>h,λ_ h=>h⟩ (o9 _ _ _)) a2,[⟨.sl c,l'⟩]++n2,?_,by simp[cH,c2]⟩;rw[b2,(fC _ _ _).1,aK]
  ·rename_i kc vc tP tE l;rw[ai]at h;obtain⟨l',h2,h⟩:=h;obtain⟨a2,n2,b2,c2⟩:=lW r _ m' h;refine⟨gi.trans (gi.trans (b:=⟨m.nm,m.ez++[⟨.mp kc vc,l'⟩],m.iS⟩) ⟨λ _ h=>h,λ_ h=>h⟩ (o9 _ _ _)) a2,[⟨.mp kc vc,l'⟩]++n2,?_,by simp[cH,c2]⟩;rw[b2,(fC _ _ _).1,aK]
  ·rename_i sz rows sz' rows';split at h
   ·rw[ai]at h;obtain⟨m1,h2,h⟩:=h;obtain⟨a1,n1,b1,c1⟩:=yJ rows _ _ m1 h2;have⟨a2,n2,b2,c2⟩:=lW r m1 m' h;refine⟨((o9 m _ _).trans a1).trans a2,n1++n2,?_,by simp[cH,c1,c2]⟩;rw[b2,b1,(fC _ _ _).1,aK]
   ·cases h
  ·cases h
variable {NM:List (Nat×Nat)} {f:Nat->Nat} {dt:Nat->Nat}
theorem DR:∀(os:List (Nat×OP X.ι))(m m':MA X),Ck get os m=some m'->(∀ q∈m'.nm,q∈NM)->∃an,m'.ez=m.ez++an/\∀ag,∀k∈os.map (·.1),∃k' o,(k',k)∈NM/\get k'=some o/\∀c l,o= .d8 c l->(k,List.length l)∈lens os (an++ag)
 |[],m,m',h,_=>by
  simp only[Ck,aA]at h;subst h;exact⟨[],by simp,λag k hk=>by simp at hk⟩
 |(k,op)::r,m,m',h,hn=>by
  simp only[Ck]at h;rw[ai]at h;obtain⟨o,h1,h⟩:=h;split at h
  ·rename_i c c' l;rw[ai]at h;obtain⟨l',h2,h⟩:=h;have hm:=(lW r _ m' h).1;obtain⟨n2,b2,c2⟩:=DR r _ m' h hn;refine⟨[⟨.sl c,l'⟩]++n2,by rw[b2,(fC _ _ _).1,aK],λag j hj=>?_⟩;simp only[aF,aN]at hj;simp only[aK,cons_append,bQ,lens];by_cases hjk:j=k
   ·subst hjk;refine⟨_,_,hn _ (hm.1 _ (nO _ _ _)),h1,λc2 l2 he=>?_⟩;injection he with e1 e2;subst e1;have e2:=eq_of_heq e2;subst e2;have:=congrArg List.length (jc h2).2;simp only[length_map]at this;rw[this];exact List.mem_cons_self
   ·rcases hj with rfl |hj
    ·exact(hjk rfl).elim
    ·have⟨k',o',g1,g2,g3⟩:=c2 ag j hj;exact⟨k',o',g1,g2,λc l he=>eG _ (g3 c l he)⟩
  ·rename_i kc vc tP tE l;rw[ai]at h;obtain⟨l',h2,h⟩:=h;have hm:=(lW r _ m' h).1;obtain⟨n2,b2,c2⟩:=DR r _ m' h hn;refine⟨[⟨.mp kc vc,l'⟩]++n2,by rw[b2,(fC _ _ _).1,aK],λag j hj=>?_⟩;simp only[aF,aN]at hj;simp only[aK,cons_append,bQ,lens,List.drop_succ_cons,List.drop_zero];by_cases hjk:j=k
   ·subst hjk;exact⟨_,_,hn _ (hm.1 _ (nO _ _ _)),h1,λc2 l2 he=>by cases he⟩
   ·rcases hj with rfl |hj
    ·exact(hjk rfl).elim
    ·exact c2 ag j hj
  ·rename_i sz rows sz' rows';split at h
   ·have⟨m1,h2,h⟩:=ai.1 h;obtain⟨a1,n1,b1,c1⟩:=yJ rows _ _ m1 h2;have hm:=(lW r _ m' h).1;obtain⟨n2,b2,c2⟩:=DR r _ m' h hn;refine⟨n1++n2,by rw[b2,b1,(fC _ _ _).1,aK],λag j hj=>?_⟩;simp only[aF,aN]at hj;have hd:(n1++n2++ag).drop (vS rows).length=n2++ag:=(by rw[<- c1,aK,List.drop_left]);simp only[lens,hd];by_cases hjk:j=k
    ·subst hjk;exact⟨_,_,hn _ (hm.1 _ (a1.1 _ (nO _ _ _))),h1,λc2 l2 he=>by cases he⟩
    ·rcases hj with rfl |hj
     ·exact(hjk rfl).elim
     ·exact c2 ag j hj
   ·cases h
  ·cases h
theorem Jk:∀(os:List (Nat×OP X.ι))(L:List (DC X)),((lens os L).map (·.1)).Sublist (os.map (·.1))
 |[],_=>by simp[lens]
 |(k,.l c)::r,L=>by
  simp only[lens];split
  ·exact(Jk r _).cons_cons _
  ·exact List.nil_sublist _
 |(k,.m kc vc)::r,L=>by
  simp only[lens];exact(Jk r _).cons _
 |(k,.c sz rows)::r,L=>by
  simp only[lens];exact(Jk r _).cons _
theorem MQ(hf:∀q∈NM,f q.1=q.2)(ho:∀q∈NM,∀c l,get q.1=some (.d8 c l)->dt q.2=l.length):∀(sl:List (Nat×Pt X.ι))(m m':MA X),GX get env sl m=some m'->(∀ q∈m'.nm,q∈NM)->(∀ c∈m'.iS,c=true)->
 ∃an,m'.ez=m.ez++an/\∃es,(∀ ag,KJ dt sl (an++ag)=es)/\(∀ p∈es,p.1∈sl.map (·.1)/\li (fX f (den (env p.1))) (den p.2)/\(∀ j∈bk (env p.1),DN NM j)/\(∀ j∈bk p.2,SN NM j))
 |[],m,m',h,_,_=>by
  simp only[GX,aA]at h;subst h;exact⟨[],by simp,[],λag=>rfl,by simp⟩
 |(t,p)::r,m,m',h,hn,hc=>by
  simp only[GX]at h;have⟨m1,h1,h⟩:=ai.1 h;have hm:=(G6 r m1 m' h).1;obtain⟨n1,a1,d',b1,c1,e1,g1⟩:=ads hf ho p _ m m1 h1 (λ q hq=>hn q (hm.1 q hq)) (λ q hq=>hc q (hm.2 q hq));have⟨n2,a2,es,b2,c2⟩:=MQ hf ho r m1 m' h hn hc;refine⟨n1++n2,by rw[a2,a1,aK],(t,d')::es,λag=>by simp only[KJ,aK,b1,b2],λq hq=>?_⟩;rcases aN.1 hq with rfl |hq
  ·exact⟨by simp,c1,e1,g1⟩
  ·have⟨i1,i2⟩:=c2 q hq;exact⟨by simp only[aF,aN];exact .inr i1,i2⟩
theorem ZW{D:Nat->Prop}(f:Nat->Nat):∀rows:List (List Tree),ie D f (aI rows) (aI rows)
 |[]=>trivial
 |r::rs=>by
  refine⟨?_,ZW f rs⟩
  induction r with
  |nil=>trivial
  |cons y ys ih=>exact⟨⟨by simp[refs],li.refl _⟩,ih⟩
theorem ZX{a b c d:CT X.ι}{l:List (CT.T X.toSE a×CT.T X.toSE b)}{l':List (CT.T X.toSE c×CT.T X.toSE d)}(h:jr (.mp a b) (.mp c d) l=some l'):bG (.map c d l':bm X)=bG (.map a b l):=by
 have⟨e,h⟩:=q8 h;injection e with e1 e2;subst e1;subst e2;subst h;rfl
theorem ZY{D:Nat->Prop}(f:Nat->Nat){kc vc:CT X.ι}:∀l:List (CT.T X.toSE kc×CT.T X.toSE vc),ie D f (bG (.map kc vc l:bm X)).rows (bG (.map kc vc l:bm X)).rows
 |[]=>trivial
 |p::ps=>⟨⟨⟨by simp[zQ],by rw[VL];exact li.refl _⟩,⟨by simp[zQ],by rw[VL];exact li.refl _⟩,trivial⟩,ZY f ps⟩
theorem zV(hf:∀q∈NM,f q.1=q.2)(ho:∀q∈NM,∀c l,get q.1=some (.d8 c l)->dt q.2=l.length):∀(os:List (Nat×OP X.ι))(m m':MA X),Ck get os m=some m'->(∀ q∈m'.nm,q∈NM)->(∀ c∈m'.iS,c=true)->
 ∃an,m'.ez=m.ez++an/\∃xs,(∀ ag,dn dt os (an++ag)=xs)/\(∀ p∈xs,p.1∈os.map (·.1)/\∃k' o o',p.2=some o'/\(k',p.1)∈NM/\get k'=some o/\(bG o').sz=(bG o).sz/\ie (DN NM) f (bG o).rows (bG o').rows/\(∀ j∈d5 o',SN NM j))
 |[],m,m',h,_,_=>by
  simp only[Ck,aA]at h;subst h;exact⟨[],by simp,[],λag=>rfl,by simp⟩
 |(k,op)::r,m,m',h,hn,hc=>by
  simp only[Ck]at h;rw[ai]at h;obtain⟨o,h1,h⟩:=h;split at h
  ·rename_i c c' l;rw[ai]at h;obtain⟨l',h2,h⟩:=h;have hm:=(lW r _ m' h).1;obtain⟨n2,a2,xs,b2,c2⟩:=zV hf ho r _ m' h hn hc;refine⟨[⟨.sl c,l'⟩]++n2,by rw[a2,(fC _ _ _).1,aK],(k,some (.d8 c l'))::xs,λag=>by simp only[aK,cons_append,bQ,dn,b2],λq hq=>?_⟩;rcases aN.1 hq with rfl |hq
   ·refine⟨by simp,_,_,_,rfl,hn _ (hm.1 _ (nO _ _ _)),h1,?_,?_,by simp[d5]⟩
    ·simp only[bG,(jc h2).1]
    ·simp only[bG,(jc h2).2];exact ZW f _
   ·have⟨i1,i2⟩:=c2 q hq;exact⟨by simp only[aF,aN];exact .inr i1,i2⟩
  ·rename_i kc vc tP tE l;rw[ai]at h;obtain⟨l',h2,h⟩:=h;have hm:=(lW r _ m' h).1;obtain⟨n2,a2,xs,b2,c2⟩:=zV hf ho r _ m' h hn hc;refine⟨[⟨.mp kc vc,l'⟩]++n2,by rw[a2,(fC _ _ _).1,aK],(k,some (.map kc vc l'))::xs,λag=>by simp only[aK,cons_append,bQ,dn,b2],λq hq=>?_⟩;rcases aN.1 hq with rfl |hq
   ·refine⟨by simp,_,_,_,rfl,hn _ (hm.1 _ (nO _ _ _)),h1,?_,?_,by simp[d5]⟩
    ·rw[ZX h2]
    ·rw[ZX h2];exact ZY f _
   ·have⟨i1,i2⟩:=c2 q hq;exact⟨by simp only[aF,aN];exact .inr i1,i2⟩
  ·rename_i sz rows sz' rows';split at h
   ·rename_i hsz;have⟨m1,h2,h⟩:=ai.1 h;have hm1:=(yJ rows _ _ m1 h2).1;have hm:=(lW r _ m' h).1;obtain⟨n1,a1,qs,b1,c1,e1,g1⟩:=Rs hf ho rows _ _ m1 h2 (λ q hq=>hn q (hm.1 q hq)) (λ q hq=>hc q (hm.2 q hq));obtain⟨n2,a2,xs,b2,c2⟩:=zV hf ho r _ m' h hn hc;refine⟨n1++n2,by rw[a2,a1,(fC _ _ _).1,aK],(k,some (.cells sz qs))::xs,λag=>by simp only[aK,dn,b1,b2],λq hq=>?_⟩;rcases aN.1 hq with rfl |hq
    ·exact⟨by simp,_,_,_,rfl,hn _ (hm.1 _ (hm1.1 _ (nO _ _ _))),h1,hsz,c1,g1⟩
    ·have⟨i1,i2⟩:=c2 q hq;exact⟨by simp only[aF,aN];exact .inr i1,i2⟩
   ·cases h
  ·cases h
theorem aiU{d:DV X}(h:isU d=false)(h':d= .undef):False:=by subst h';cases h
theorem abj{A:Type}{sh:Sh X.ι}{ds:List Nat}{s0 s':de X}{k:VT (X:=X) sh.vars->Option A}{r:A}(hl0:Low s0)(hx:Ext (· ∈ds) s0 s')(h:OF sh ds s0 s' k=some r):
 ∃v,k v=some r/\Low (encS sh s0 v)/\Ext (· ∈ds) s0 (encS sh s0 v)/\∀(P:Program) (w0:World) (O0:j8) (N:Nat) (β:Nat->Option cL) (I:Nat->Prop) (a:Act) (w:World),Rel P w0 O0 N β I s'.st a w->∃ β',Rel P w0 O0 N β' I (encS sh s0 v).st a w:=by
 unfold OF at h;have⟨m1,h1,h⟩:=ai.1 h;have⟨m,h2,h⟩:=ai.1 h;have⟨h3,h⟩:=dZ h;have⟨v,h4,h⟩:=ai.1 h;have⟨h5,h6⟩:=o8 h;simp only[okS,aL,aV]at h3;obtain⟨⟨⟨⟨⟨⟨⟨⟨n1,n2⟩,n3⟩,n4⟩,n5⟩,n6⟩,n7⟩,n8⟩,n9⟩:=h3;have hm2:=(lW _ _ _ h2).1;have vm:=Vw h4;obtain⟨_,nA,dA,lA⟩:=G6 _ _ _ h1;simp only[bQ]at dA;have R2:(m.nm.map (·.1)).Nodup:=(List.nodup_append.1 n1).1;have R1:(m.nm.map (·.2)).Nodup:=(List.nodup_append.1 n2).1;have hsw:((m.nm.map λq=>(q.2,q.1)).map (·.1)).Nodup:=by rw[map_map];exact R1
 generalize hf':(λ j=>match lk m.nm j with |some q=>q |none=>j:Nat->Nat)=f;generalize hg':(λ j=>match lk (m.nm.map λq=>(q.2,q.1)) j with |some q=>q |none=>j:Nat->Nat)=g;have hf:∀q∈m.nm,f q.1=q.2:=by
  rintro⟨p,q⟩ hq;rw[<- hf'];simp only[uP R2 hq]
 have hg:∀q∈m.nm,g q.2=q.1:=by
  rintro⟨p,q⟩ hq;rw[<- hg'];have:(q,p)∈m.nm.map λq=>(q.2,q.1):=mem_map.2 ⟨(p,q),hq,rfl⟩;simp only[uP hsw this]
 have m8:∀j∈sh.da,f j=j:=by
  intro j hj;rw[<- hf'];cases hh:lk m.nm j with
  |none=>simp[hh]
  |some q=>exact((List.nodup_append.1 n1).2.2 j (mem_map.2 ⟨(j,q),qZ hh,rfl⟩) j hj rfl).elim
 have HC:∀j∈sh.da,g j=j:=by
  intro j hj;rw[<- hg'];cases hh:lk (m.nm.map λq=>(q.2,q.1)) j with
  |none=>simp[hh]
  |some q=>
   have h1:=qZ hh;simp only[mem_map]at h1;obtain⟨z,hz,e⟩:=h1;injection e with e1 e2;exact((List.nodup_append.1 n2).2.2 j (mem_map.2 ⟨z,hz,e1⟩) j hj rfl).elim
 have hg0:∀j,j<1000->g j=j:=by
  intro j hj;rw[<- hg'];cases hh:lk (m.nm.map λq=>(q.2,q.1)) j with
  |none=>simp[hh]
  |some q=>
   have h1:=qZ hh;simp only[mem_map]at h1;obtain⟨z,hz,e⟩:=h1;injection e with e1 e2;have:=all_eq_true.1 n4 z hz;simp only[aL,Bool.or_eq_true,aV]at this;simp only[hh];omega
 have hgf:∀j,(DN m.nm j\/j∈sh.da)->g (f j)=j:=by
  rintro j (⟨q,hq⟩ |hj)
  ·rw[hf _ hq];exact hg _ hq
  ·rw[m8 j hj];exact HC j hj
 obtain⟨nB,dB,lB⟩:=DR (NM:=m.nm) _ _ _ h2 (λ q hq=>hq);have hL:m.ez=nA++nB:=by rw[dB,dA]
 have hdrop:(vT sh.vars v).drop (gE sh.slots).length=nB:=by rw[vm,hL,<- lA,List.drop_left]
 have htake:(vT sh.vars v).take (gE sh.slots).length=nA:=by rw[vm,hL,<- lA,List.take_left]
 generalize hol:(λ k=>(lk (lens sh.cE nB) k).getD 0:Nat->Nat)=dt;have ho:∀q∈m.nm,∀c l,gz s'.obj q.1=some (.d8 c l)->dt q.2=l.length:=by
  rintro⟨p,q⟩ hq c l hl;have hqk:=all_eq_true.1 n4 _ hq;simp only[aL]at hqk;obtain⟨p',o,g1,g2,g3⟩:=lB [] q (by simpa using hqk.1.1);have:p'=p:=by
   have e1:=hg _ g1;have e2:=hg _ hq;simp only at e1 e2;rw[<- e1,e2]
  subst this;simp only at hl;rw[hl]at g2;injection g2 with g2;have h3:=g3 c l g2.symm;rw[append_nil]at h3;rw[<- hol];have hk:=(Jk sh.cE nB).nodup n3;simp only[uP hk h3,Option.getD_some]
 obtain⟨P2,H5,es,eA,pA⟩:=MQ (NM:=m.nm) (f:=f) (dt:=dt) hf ho _ _ _ h1 (λ q hq=>hm2.1 q hq) (λ c hc=>h5 c (hm2.2 c hc));obtain⟨P1,T5,xs,eB,pB⟩:=zV (NM:=m.nm) (f:=f) (dt:=dt) hf ho _ _ _ h2 (λ q hq=>hq) h5;have T2:P2=nA:=by simp only[bQ]at H5;rw[<- H5,dA]
 have T1:P1=nB:=List.append_cancel_left (T5.symm.trans dB);subst T2 T1;have H3:=eA [];have H2:=eB [];rw[append_nil]at H3 H2;have hS:encS sh s0 v=⟨es++sh.keep.map (λ t=>(t,eM s0.env t)),xs++sh.da.map (λ k=>(k,gz s0.obj k)),sh.nx,(List.range s0.nx).filter (λ k=>!sh.da.contains k)++s0.log⟩:=by simp only[encS,hdrop,htake,hol,H3,H2]
 have hsn:∀j,SN m.nm j->j<sh.nx:=by
  rintro j ⟨p,hp⟩;have:=all_eq_true.1 n4 _ hp;simp only[aL,aV]at this;exact this.1.2
 have kp:∀j,(sh.da.contains j || m.nm.contains (j,j))=true->j∈sh.da\/(j,j)∈m.nm:=by
  intro j hj;simpa using hj
 have hfp:∀j,j∈sh.da\/(j,j)∈m.nm->f j=j:=λj hj=>hj.elim (m8 j) (λ h=>hf (j,j) h);have hdp:∀j,j∈sh.da\/(j,j)∈m.nm->DN m.nm j\/j∈sh.da:=λj hj=>hj.elim .inr (λ h=> .inl ⟨j,h⟩);have hko:∀j∈sh.da,j<s0.nx/\(∃ o,gz s0.obj j=some o/\gz s'.obj j=some o/\∀i∈d5 o,i∈sh.da\/(i,i)∈m.nm):=by
  intro j hj;have:=all_eq_true.1 n7 _ hj;simp only[aL,aV,Bool.not_eq_true']at this;obtain⟨⟨⟨a1,a2⟩,a3⟩,a4⟩:=this;refine⟨a1,?_⟩;cases ho0:gz s0.obj j with
  |none=>rw[ho0]at a4;cases a4
  |some o=>
   rw[ho0]at a4;refine⟨o,rfl,?_,λi hi=>kp i (all_eq_true.1 a4 i hi)⟩;obtain⟨d,hd,hd2⟩:=hx.obj;have hnd:j∉d:=by
    have e:s'.log.take (s'.log.length -s0.log.length)=d:=(by rw[hd,dJ,Nat.add_sub_cancel,List.take_left]);rw[e]at a2;simpa using a2
   rcases hd2 j a1 hnd with h |h
   ·rw[h,ho0]
   ·rw[h]at a3;cases a3
 have hke:∀t∈sh.keep,t∉ds/\eM s'.env t=eM s0.env t/\∀j∈bk (eM s0.env t),j∈sh.da\/(j,j)∈m.nm:=by
  intro t ht;have:=all_eq_true.1 n6 _ ht;simp only[aL,Bool.not_eq_true']at this;obtain⟨⟨a1,a2⟩,a3⟩:=this;have a1':t∉ds:=by simpa using a1
  refine⟨a1',?_,λj hj=>kp j (all_eq_true.1 a3 j hj)⟩;rcases hx.env t a1' with h |h
  ·exact h
  ·exact(aiU a2 h).elim
 have hks:∀q∈es,q.1∈ds:=by
  intro q hq;have h1:=(pA q hq).1;obtain⟨z,hz,e⟩:=mem_map.1 h1;have:=all_eq_true.1 n5 _ hz;rw[<- e];simpa using this
 have hkeep:∀t,lk (sh.keep.map λt=>(t,eM s0.env t)) t=if t∈sh.keep then some (eM s0.env t)else none:=by
  intro t
  induction sh.keep with
  |nil=>simp[lk]
  |cons q qs ih=>
   simp only[aF,lk,ih,aN];by_cases e:q=t
   ·subst e;simp
   ·rw[aQ e];simp[Ne.symm e]
 have Bs:∀t,lk (sh.da.map λt=>(t,gz s0.obj t)) t=if t∈sh.da then some (gz s0.obj t)else none:=by
  intro t
  induction sh.da with
  |nil=>simp[lk]
  |cons q qs ih=>
   simp only[aF,lk,ih,aN];by_cases e:q=t
   ·subst e;simp
   ·rw[aQ e];simp[Ne.symm e]
 have q6:∀t,(∃ d,(t,d)∈es/\eM (encS sh s0 v).env t=d)\/(t∈sh.keep/\eM (encS sh s0 v).env t=eM s0.env t)\/eM (encS sh s0 v).env t= .undef:=by
  intro t;have e1:eM (encS sh s0 v).env t=(match lk es t with |some d=>some d |none=>if t∈sh.keep then some (eM s0.env t)else none).getD .undef:=by
   rw[hS];show(lk (es++sh.keep.map (λ t=>(t,eM s0.env t))) t).getD .undef=_;rw[Cr,hkeep t];cases lk es t<;>rfl
  rw[e1];cases he:lk es t with
  |some d=>exact .inl ⟨d,qZ he,rfl⟩
  |none=>
   by_cases ht:t∈sh.keep
   ·simp only[aX ht];exact .inr (.inl ⟨ht,rfl⟩)
   ·simp only[aQ ht];exact .inr (.inr rfl)
 have gp:∀j o,gz (encS sh s0 v).obj j=some o->(∃ k' o1,(k',j)∈m.nm/\gz s'.obj k'=some o1/\(bG o).sz=(bG o1).sz/\ie (DN m.nm) f (bG o1).rows (bG o).rows/\(∀ i∈d5 o,SN m.nm i))\/(j∈sh.da/\gz s0.obj j=some o):=by
  intro j o hjo;have e1:gz (encS sh s0 v).obj j=(match lk xs j with |some d=>some d |none=>if j∈sh.da then some (gz s0.obj j)else none).join:=by
   rw[hS];show(lk (xs++sh.da.map (λ k=>(k,gz s0.obj k))) j).join=_;rw[Cr,Bs j];cases lk xs j<;>rfl
  rw[e1]at hjo;cases he:lk xs j with
  |some x=>
   rw[he]at hjo;obtain⟨_,k',o1,o',b1,b2,b3,b4,b5,b6⟩:=pB _ (qZ he);simp only at b1 b2 hjo;subst b1;simp only[Option.join_some,aA]at hjo;subst hjo;exact .inl ⟨k',o1,b2,b3,b4,b5,b6⟩
  |none=>
   rw[he]at hjo;by_cases hj:j∈sh.da
   ·simp only[aX hj,Option.join_some]at hjo;exact .inr ⟨hj,hjo⟩
   ·simp[aQ hj]at hjo
 have hnx:s0.nx<=sh.nx:=n8;have hkx:∀j,j∈sh.da\/(j,j)∈m.nm->j<sh.nx:=λj hj=>hj.elim (λ hj=>Nat.lt_of_lt_of_le (hko j hj).1 hnx) (λ h=>hsn j ⟨j,h⟩);have hRW:∀{r q:List AV},mN (DN m.nm) f r q->mN (λ j=>DN m.nm j\/j∈sh.da) f r q:=by
  intro r
  induction r with
  |nil=>intro q h;cases q with
   |nil=>trivial
   |cons=>exact h.elim
  |cons x xs ih=>intro q h;cases q with
   |nil=>exact h.elim
   |cons y ys=>exact⟨⟨λ k hk=> .inl (h.1.1 k hk),h.1.2⟩,ih h.2⟩
 have S0:∀{r q:List (List AV)},ie (DN m.nm) f r q->ie (λ j=>DN m.nm j\/j∈sh.da) f r q:=by
  intro r
  induction r with
  |nil=>intro q h;cases q with
   |nil=>trivial
   |cons=>exact h.elim
  |cons x xs ih=>intro q h;cases q with
   |nil=>exact h.elim
   |cons y ys=>exact⟨hRW h.1,ih h.2⟩
 refine⟨v,h6,?_,?_,?_⟩
 ·constructor
  ·rw[hS];exact n9
  ·rw[hS];exact Nat.le_trans hl0.ge n8
  ·intro t j hj;have A3:(encS sh s0 v).nx=sh.nx:=(by rw[hS]);rw[A3];rcases q6 t with ⟨d,h1,h2⟩ |⟨h1,h2⟩ |h2
   ·rw[h2]at hj;exact hsn j ((pA _ h1).2.2.2 j hj)
   ·rw[h2]at hj;exact hkx j ((hke t h1).2.2 j hj)
   ·rw[h2]at hj;simp[bk]at hj
  ·intro j o hjo;have A3:(encS sh s0 v).nx=sh.nx:=(by rw[hS]);rw[A3];rcases gp j o hjo with ⟨k',o1,b1,b2,b3,b4,b5⟩ |⟨b1,b2⟩
   ·exact⟨hsn j ⟨k',b1⟩,λi hi=>hsn i (b5 i hi)⟩
   ·have⟨c1,o',c2,c3,c4⟩:=hko j b1;rw[b2]at c2;cases c2;exact⟨hkx j (.inl b1),λi hi=>hkx i (c4 i hi)⟩
 ·refine⟨λ t ht=>?_,⟨(List.range s0.nx).filter (λ k=>!sh.da.contains k),by rw[hS],λj hj hn=>?_⟩,by rw[hS];exact hnx⟩
  ·rcases q6 t with ⟨d,h1,h2⟩ |⟨h1,h2⟩ |h2
   ·exact(ht (hks _ h1)).elim
   ·exact .inl h2
   ·exact .inr h2
  ·have hjk:j∈sh.da:=(by simpa[hj]using hn);cases hjo:gz (encS sh s0 v).obj j with
   |none=>exact .inr rfl
   |some o=>
    rcases gp j o hjo with ⟨k',o1,b1,_⟩ |⟨b1,b2⟩
    ·exact((List.nodup_append.1 n2).2.2 j (mem_map.2 ⟨(k',j),b1,rfl⟩) j hjk rfl).elim
    ·exact .inl b2.symm
 ·intro P w0 O0 N β I a w hr;refine⟨_,Rel.re (f:=f) (g:=g) (D:=λj=>DN m.nm j\/j∈sh.da) hgf hg0 hr (λ _=> .inl rfl) (λ _=>rfl) (λ t=>?_) (λ j o' hj=>?_)⟩
  ·show den (eM (encS sh s0 v).env t)= .undef\/((∀ k∈refs (den (eM s'.env t)),_)/\li (fX f (den (eM s'.env t))) (den (eM (encS sh s0 v).env t)));rcases q6 t with ⟨d,h1,h2⟩ |⟨h1,h2⟩ |h2
   ·right;rw[h2];obtain⟨_,b1,b2,_⟩:=pA _ h1;exact⟨λ k hk=> .inl (b2 k (by rwa [iL]at hk)),b1⟩
   ·right;have⟨_,b1,b2⟩:=hke t h1;rw[h2,b1];refine⟨λ k hk=>hdp k (b2 k (by rwa [iL]at hk)),?_⟩;rw[<- zS,V6 _ (λ k hk=>hfp k (b2 k hk))];exact li.refl _
   ·left;rw[h2];rfl
  ·simp only[de.st,dK]at hj;obtain⟨o,hjo,rfl⟩:=hj;rcases gp j o hjo with ⟨k',o1,b1,b2,b3,b4,b5⟩ |⟨b1,b2⟩
   ·exact⟨k',bG o1,by simp[de.st,b2],.inl ⟨j,b1⟩,hf _ b1,b3,S0 b4⟩
   ·have⟨c1,o',c2,c3,c4⟩:=hko j b1;rw[b2]at c2;cases c2;have hid:oR f o=o:=by
     cases o with
     |d8 c l=>rfl
     |map kc vc l=>rfl
     |cells sz rows=>
      simp only[oR];congr 1;have:∀q∈rows,JL f q=q:=λq hq=>zU q λi hi=>hfp i (c4 i (by
       simp only[d5,List.mem_flatten,mem_map];exact⟨_,⟨q,hq,rfl⟩,hi⟩))
      rw[map_congr_left this];simp
    obtain⟨r1,r2⟩:=Jj (D:=λj=>DN m.nm j\/j∈sh.da) f o (λ i hi=>hdp i (c4 i hi));rw[hid]at r1 r2;exact⟨j,bG o,by simp[de.st,c3],.inr b1,m8 j b1,r1,r2⟩
theorem Ext.trans{ds:Nat->Prop}{a b c:de X}(h:Ext ds a b)(h':Ext ds b c):Ext ds a c:=by
 refine⟨λ t ht=>?_,?_,Nat.le_trans h.nx h'.nx⟩
 ·rcases h'.env t ht with h1 |h1
  ·rcases h.env t ht with h2 |h2
   ·exact .inl (h1.trans h2)
   ·exact .inr (h1.trans h2)
  ·exact .inr h1
 ·obtain⟨d,h1,h2⟩:=h.obj;obtain⟨d',h3,h4⟩:=h'.obj;refine⟨d'++d,by rw[h3,h1,aK],λk hk hn=>?_⟩;simp only[bf,not_or]at hn;rcases h4 k (Nat.lt_of_lt_of_le hk h.nx) hn.1 with h5 |h5
  ·rcases h2 k hk hn.2 with h6 |h6
   ·exact .inl (h5.trans h6)
   ·exact .inr (h5.trans h6)
  ·exact .inr h5
theorem Ext.refl(ds:Nat->Prop)(s:de X):Ext ds s s:=⟨λ _ _=> .inl rfl,⟨[],by simp,λ_ _ _=> .inl rfl⟩,aC _⟩
def Says(s s':de X):Prop:=∀(P:Program) (w0:World) (O0:j8) (N:Nat) (β:Nat->Option cL) (I:Nat->Prop) (a:Act) (w:World),Rel P w0 O0 N β I s.st a w->∃ β',Rel P w0 O0 N β' I s'.st a w
theorem Low.room{s:de X}{P:Program}{w0:World}{O0:j8}{N:Nat}{β:Nat->Option cL}{I:Nat->Prop}{a:Act}{w:World}(hl:Low s)(hr:Rel P w0 O0 N β I s.st a w):∃ β2,β2 s.nx=none/\Rel P w0 O0 N β2 I s.st a w:=by
 have hr1:=hr.restrict hl.old
 have hr2:=Rel.re (f:=id) (g:=λj=>if j<s.nx then j else 1000000) (D:=(· <s.nx)) (s':=s.st) (λ k hk=>aX hk) (λ j hj=>aX (by have:=hl.ge;omega)) hr1 (λ _=> .inl rfl) (λ _=>rfl)
  (λ q=> .inr ⟨λ k hk=>hl.env q k (by rw[<- iL];exact hk),by
   show li (fX id (den (eM s.env q))) (den (eM s.env q));rw[<- zS,V6 (f:=id) _ (λ _ _=>rfl)];exact li.refl _⟩)
  (λ j o' hj=>by
   simp only[de.st,dK]at hj;obtain⟨x,hx,rfl⟩:=hj;have⟨h1,h2⟩:=hl.obj j x hx;have⟨r1,r2⟩:=Jj (D:=(· <s.nx)) id x h2;have hid:oR id x=x:=by
    cases x with
    |d8 c l=>rfl
    |map kc vc l=>rfl
    |cells sz rows=>
     simp only[oR];congr 1;have:∀q∈rows,JL id q=q:=λq _=>zU (f:=id) q λ_ _=>rfl;rw[map_congr_left this];simp
   rw[hid]at r1 r2;exact⟨j,bG x,by simp[de.st,hx],h1,rfl,r1,r2⟩)
 exact⟨_,by simp,hr2⟩
theorem amF(z:Bool)(k:Nat):bk (nz (X:=X) z k)=[k]:=by cases z<;>rfl
theorem V8{ds:List Nat}{z:Bool}{s:de X}{t:Nat}{c:CT X.ι}(hl:Low s)(ht:t∈ds):Low (zE z s t c)/\Ext (· ∈ds) s (zE z s t c)/\Says s (zE z s t c):=by
 unfold zE;split
 ·rename_i hn;split
  ·rename_i hlt;have he:∀q,eM ((t,nz z s.nx)::s.env) q=if t=q then nz z s.nx else eM s.env q:=λq=>by
    simp only[eM,lk];by_cases e:t=q<;>simp[e]
   have hO:∀q,gz ((s.nx,some (.d8 c []))::s.obj) q=if s.nx=q then some (.d8 c [])else gz s.obj q:=λq=>by
    simp only[gz,lk];by_cases e:s.nx=q<;>simp[e]
   refine⟨⟨by show s.nx+1<=1000000;omega,by have:=hl.ge;show 1000<=s.nx+1;omega,λq k hk=>?_,λk o ho=>?_⟩,⟨λ q hq=>?_,⟨[s.nx],rfl,λk hk hnk=>?_⟩,by show s.nx<=s.nx+1;omega⟩,λP w0 O0 N β I a w hr=>?_⟩
   ·rw[he]at hk;split at hk
    ·simp only[amF,aW]at hk;subst hk;show s.nx<s.nx+1;omega
    ·have:=hl.env q k hk;show k<s.nx+1;omega
   ·rw[hO]at ho;split at ho
    ·rename_i e;cases ho;subst e;exact⟨by show s.nx<s.nx+1;omega,by simp[d5]⟩
    ·have⟨h1,h2⟩:=hl.obj k o ho;exact⟨by show k<s.nx+1;omega,λj hj=>by have:=h2 j hj;show j<s.nx+1;omega⟩
   ·left;rw[he,aQ];intro e;subst e;exact hq ht
   ·left;rw[hO,aQ (by omega)]
   ·have⟨β2,EE,hr2⟩:=hl.room hr;have⟨hS,hM⟩:=Mem.pp (i:=s.nx) (o:=bG (.d8 c []:bm X)) hr2.mem EE rfl;refine⟨ins β2 s.nx .none,hr2.defers,hr2.size,λq=>?_,?_⟩
    ·have h1:=hr2.env q;show eJ P _ w I (den (eM ((t,nz z s.nx)::s.env) q)) none _;rw[he];by_cases e:t=q
     ·subst e;rw[aX rfl];have h2:VR P _ w I (den (eM s.env t)) (a.tmps.getD t undef):=h1;rw[hn]at h2;simp only[den,VR]at h2;cases z with
      |false=>simp only[eJ,nz,ak,den,VR];exact .inl ⟨by simp[ins],h2,trivial,trivial⟩
      |true=>simp only[eJ,nz,aj,den,VR];exact .inl ⟨trivial,h2⟩
     ·rw[aQ e];exact eJ.mono hS.ext hS.same hS.inc h1
    ·have e:(λ k=>(gz ((s.nx,some (.d8 c []))::s.obj) k).map bG)=cK s.st.obj [(s.nx,some (bG (.d8 c []:bm X)))]:=by
      funext q;simp only[cK,de.st];rw[hO];by_cases e:s.nx=q
      ·simp[e]
      ·rw[aQ e,aQ (Ne.symm e)]
     show Mem P w0 O0 _ I (λ k=>(gz ((s.nx,some (.d8 c []))::s.obj) k).map bG) w;rw[e];exact hM
  ·exact⟨hl,Ext.refl _ s,λ_ _ _ _ β _ _ _ h=>⟨β,h⟩⟩
 ·exact⟨hl,Ext.refl _ s,λ_ _ _ _ β _ _ _ h=>⟨β,h⟩⟩
theorem V9(y:DV X):∀(l:List (DV X))(j i:Nat),i∈aP (l.set j y)->i∈aP l\/i∈bk y
 |[],_,_,h=> .inl (by simpa using h)
 |x::l,0,i,h=>by
  simp only[List.set,aP,bf]at h ⊢;rcases h with h |h
  ·exact .inr h
  ·exact .inl (.inr h)
 |x::l,j+1,i,h=>by
  simp only[List.set,aP,bf]at h ⊢;rcases h with h |h
  ·exact .inl (.inl h)
  ·rcases V9 y l j i h with h |h
   ·exact .inl (.inr h)
   ·exact .inr h
theorem aE.set{P:Program}{β:Nat->Option cL}{w:World}{I:Nat->Prop}{y:AV}:∀(xs:List AV)(vs:List Value)(j:Nat),(∀ x v,xs[j]? =some x->VR P β w I x v->VR P β w I y v)->aE P β w I xs vs->aE P β w I (xs.set j y) vs
 |[],vs,_,_,h=>by simpa using h
 |x::xs,[],_,_,h=>by simp[aE]at h
 |x::xs,v::vs,0,hy,h=>by simp only[aE,List.set]at h ⊢;exact⟨hy x v rfl h.1,h.2⟩
 |x::xs,v::vs,j+1,hy,h=>by simp only[aE,List.set]at h ⊢;exact⟨h.1,aE.set xs vs j (λ x v e=>hy x v (by simpa using e)) h.2⟩
theorem OR.set1{P:Program}{β:Nat->Option cL}{w:World}{I:Nat->Prop}{sz:Nat}{row:List AV}{j:Nat}{y:AV}{B:cL}(hy:∀x v,row[j]? =some x->VR P β w I x v->VR P β w I y v)(h:OR P β w I ⟨sz,[row]⟩ B):OR P β w I ⟨sz,[row.set j y]⟩ B:=by
 cases B with
 |none=>simp[OR]at h
 | «at» b s n=>
  obtain⟨h1,c,e,h2,h3,h4⟩:=h;refine⟨h1,c,e,h2,h3,?_⟩;simp only[bo,List.length_set]at h4 ⊢;refine⟨h4.1,?_,trivial⟩;rw[jq]at h4 ⊢;intro i x hx;rw[List.getElem?_set]at hx;split at hx
  ·rename_i e;subst e;split at hx
   ·cases hx;rename_i hlt;obtain⟨v,g1,g2,g3⟩:=h4.2.1 j _ (dI hlt);exact⟨v,g1,hy _ v (dI hlt) g2,g3⟩
   ·cases hx
  ·exact h4.2.1 i x hx
 |mp b=>
  obtain⟨es,cl,h1,hle,h2,h3⟩:=h;refine⟨es,cl,h1,hle,λe=>?_,h3⟩;have:=h2 e
  match hes:es.toList,this with
  |[e1],this=>simp only[co]at this ⊢;exact⟨aE.set _ _ j hy this.1,trivial⟩
  |[],this=>simp[co]at this
  |_::_::_,this=>simp[co]at this
theorem adt(y:DV X):∀(l:List (DV X))(j:Nat),bL (l.set j y)=(bL l).set j (den y)
 |[],_=>by simp[bL]
 |x::l,0=>by simp[bL]
 |x::l,j+1=>by simp[bL,adt y l j]
theorem afU{ds:List Nat}{s:de X}{q j:Nat}{c:CT X.ι}(hl:Low s):Low (Fm s q j c)/\Ext (· ∈ds) s (Fm s q j c)/\Says s (Fm s q j c):=by
 unfold Fm;split
 ·rename_i sz row hq;split
  ·rename_i hn;split
   ·rename_i hlt;have hqn:q<s.nx:=(hl.obj q _ hq).1;have hrefs:∀k∈aP row,k<s.nx:=λk hk=>(hl.obj q _ hq).2 k (by simpa[d5]using hk);have hO:∀k,gz ((q,some (.cells sz [row.set j (.own s.nx 0 0)]))::(s.nx,some (.d8 c []))::s.obj) k=if q=k then some (.cells sz [row.set j (.own s.nx 0 0)])else if s.nx=k then some (.d8 c [])else gz s.obj k:=λk=>by
     simp only[gz,lk];by_cases e:q=k
     ·simp[e]
     ·by_cases e':s.nx=k<;>simp[e,e']
    refine⟨⟨by show s.nx+1<=1000000;omega,by have:=hl.ge;show 1000<=s.nx+1;omega,λk i hk=>by have:=hl.env k i hk;show i<s.nx+1;omega,λk o ho=>?_⟩,⟨λ _ _=> .inl rfl,⟨[q,s.nx],rfl,λk hk hnk=>?_⟩,by show s.nx<=s.nx+1;omega⟩,λP w0 O0 N β I a w hr=>?_⟩
    ·rw[hO]at ho;split at ho
     ·rename_i e;cases ho;subst e;refine⟨by show q<s.nx+1;omega,λi hi=>?_⟩;show i<s.nx+1;simp only[d5,aF,map_nil,flatten_cons,List.flatten_nil,append_nil]at hi;rcases V9 _ _ _ _ hi with h1 |h1
      ·have:=hrefs i h1;omega
      ·simp only[bk,aW]at h1;omega
     ·split at ho
      ·rename_i e;cases ho;subst e;exact⟨by show s.nx<s.nx+1;omega,by simp[d5]⟩
      ·have⟨h1,h2⟩:=hl.obj k o ho;exact⟨by show k<s.nx+1;omega,λi hi=>by have:=h2 i hi;show i<s.nx+1;omega⟩
    ·left;simp only[aN,fu,or_false,not_or]at hnk;rw[hO,aQ (Ne.symm hnk.1),aQ (Ne.symm hnk.2)]
    ·have⟨β2,EE,hr2⟩:=hl.room hr;have⟨hS,hM⟩:=Mem.pp (i:=s.nx) (o:=bG (.d8 c []:bm X)) hr2.mem EE rfl;refine⟨ins β2 s.nx .none,hr2.defers,hr2.size,λk=>eJ.mono hS.ext hS.same hS.inc (hr2.env k),?_⟩;refine hM.weak λk o' ho=>?_;simp only[de.st]at ho;rw[hO]at ho;by_cases e:q=k
     ·subst e;rw[aX rfl,Option.map_some]at ho;cases ho;refine⟨bG (.cells sz [row]),by simp only[cK];rw[aQ (by omega)];simp[de.st,hq],λB _ hB=>?_⟩;simp only[bG,aF,map_nil,adt]at hB ⊢;refine OR.set1 (λ x v hx hv=>?_) hB;rw[nM,List.getElem?_map,hn]at hx;cases hx;simp only[den,VR]at hv ⊢;exact .inl ⟨by simp[ins],hv,trivial,trivial⟩
     ·rw[aQ e]at ho;refine⟨o',?_,λ_ _ h=>h⟩;simp only[cK];by_cases e':s.nx=k
      ·subst e';rw[aX rfl]at ho ⊢;simpa using ho
      ·rw[aQ e']at ho;rw[aQ (Ne.symm e')];exact ho
   ·exact⟨hl,Ext.refl _ s,λ_ _ _ _ β _ _ _ h=>⟨β,h⟩⟩
  ·exact⟨hl,Ext.refl _ s,λ_ _ _ _ β _ _ _ h=>⟨β,h⟩⟩
 ·exact⟨hl,Ext.refl _ s,λ_ _ _ _ β _ _ _ h=>⟨β,h⟩⟩
theorem MR{ds:List Nat}:∀(l:List (Nat×CT X.ι)){s:de X},Low s->(∀ p∈l,(bif Nat.ble 1000000 p.1 then !Nat.ble 1099511627776 p.1 || ds.contains (p.1 -1099511627776)else ds.contains p.1)=true)->Low (Pz l s)/\Ext (· ∈ds) s (Pz l s)/\Says s (Pz l s)
 |[],s,hl,_=>⟨hl,Ext.refl _ s,λ_ _ _ _ β _ _ _ h=>⟨β,h⟩⟩
 |(t,c)::r,s,hl,hd=>by
  generalize hs:(bif Nat.ble 1000000 t then bif Nat.ble 1099511627776 t then zE true s (t -1099511627776) c else Fm s ((t -1000000)/4096) ((t -1000000)%4096) c else zE false s t c)=s1;have h0:Low s1/\Ext (· ∈ds) s s1/\Says s s1:=by
   have hd0:=hd (t,c) (by simp);simp only at hd0;subst hs;cases hb:Nat.ble 1000000 t with
   |true=>
    rw[hb]at hd0;cases hb2:Nat.ble 1099511627776 t with
    |true=>rw[hb2]at hd0;exact V8 hl (by simpa using hd0)
    |false=>exact afU hl
   |false=>rw[hb]at hd0;exact V8 hl (by simpa using hd0)
  obtain⟨h1,h2,h3⟩:=h0;simp only[Pz,hs];obtain⟨g1,g2,g3⟩:=MR r h1 (λ p hp=>hd p (by simp[hp]));refine⟨g1,h2.trans g2,λP w0 O0 N β I a w hr=>?_⟩;have⟨β',hr'⟩:=h3 P w0 O0 N β I a w hr;exact g3 P w0 O0 N β' I a w hr'
theorem kV{A:Type}{sh:Sh X.ι}{ds:List Nat}{s0 s':de X}{k:VT (X:=X) sh.vars->Option A}{r:A}(hl0:Low s0)(hl':Low s')(hx:Ext (· ∈ds) s0 s')(h:p9 sh ds s0 s' k=some r):
 ∃v,k v=some r/\Low (encS sh s0 v)/\Ext (· ∈ds) s0 (encS sh s0 v)/\Says s' (encS sh s0 v):=by
 unfold p9 at h;have⟨h1,h2⟩:=dZ h;obtain⟨g1,g2,g3⟩:=MR (ds:=ds) sh.AK hl' (λ p hp=>all_eq_true.1 h1 p hp);have⟨v,i1,i2,i3,i4⟩:=abj hl0 (hx.trans g2) h2;refine⟨v,i1,i2,i3,λP w0 O0 N β I a w hr=>?_⟩;have⟨β',hr'⟩:=g3 P w0 O0 N β I a w hr;exact i4 P w0 O0 N β' I a w hr'
end
def gG:Code->List Nat
 | .region _ al _=>al.toList.filterMap (·.dst)
 | .seq a b=>gG a++gG b
 | .cond _ a b=>gG a++gG b
 | .block _ b=>gG b
 | .loop b=>gG b
 |_=>[]
section
variable {X:SX}
section
variable {P:Program} {N:Nat}
def Ko{A:Type}(ds:List Nat)(s:de X)(k:Exit->de X->Option A)(r:A)(e:Exit)(σ:St):Prop:=∃s',Low s'/\Ext (· ∈ds) s s'/\σ=s'.st/\k e s'=some r
theorem ahO{c:Code}{Q Q':Exit->St->Prop}{σ:St}(h:Ev P N c Q σ)(ht:∀e σ,Q e σ->∀w0 O0 β I a w,Rel P w0 O0 N β I σ a w->∃ β' σ',Rel P w0 O0 N β' I σ' a w/\tD σ'/\Q' e σ'):Ev P N c Q' σ:=by
 intro w0 O0 β I a w hr ho;refine wp_mono (h w0 O0 β I a w hr ho) ?_;rintro e a' w' ⟨β',I',σ',h1,_,h3⟩;have⟨β2,σ2,g1,g2,g3⟩:=ht e σ' h3 w0 O0 β' I' a' w' h1;exact⟨β2,I',σ2,g1,g2,g3⟩
end
end
inductive Hn(ι:Type) where
 |z
 |f (l:List Nat)
 |s (a b:Hn ι)
 |b (a:Hn ι)
 |j (sh:Sh ι) (a:Hn ι)
 |jx (sh:Sh ι) (a:Hn ι)
 |l (head:Sh ι) (id:Nat) (ab:Sh ι) (a:Hn ι)
 |lx (head:Sh ι) (id:Nat) (ab:Sh ι) (a:Hn ι)
 |rg (head:Sh ι) (a:Hn ι)
 |un (a r:Hn ι)
def Hn.fz{ι:Type}:Hn ι->List Nat
 | .f is=>is
 |_=>[]
def Hn.fst{ι:Type}:Hn ι->Hn ι
 | .s a _=>a
 |_=> .z
def Hn.snd{ι:Type}:Hn ι->Hn ι
 | .s _ y=>y
 |_=> .z
def Hn.sub{ι:Type}:Hn ι->Hn ι
 | .b a=>a
 |_=> .z
def iter{V O:Type}(step:V->Option (V⊕O)):Nat->V->Option O
 | 0,_=>none
 |n+1,v=>(step v).bind λr=>match r with
  | .inl v=>iter step n v
  | .inr o=>some o
def Lo{X:SX}{A:Type}(body:Hn X.ι->de X->(Exit->de X->Option A)->Option A):Hn X.ι->de X->(Exit->de X->Option A)->Option A
 | .un a r,s,k=>body a s λe s'=>match e with
  | .normal=>Lo body r s' k
  |e=>k e s'
 |_,_,_=>none
def dD{W A:Type}(o:Option (W⊕A))(f:W->Option A):Option A:=o.bind λr=>match r with
 | .inl w=>f w
 | .inr a=>some a
noncomputable def both{A:Type}(x y:Option A):Option A:=open Classical in if x=y then x else none
theorem aiV{A:Type}{x y:Option A}{r:A}(h:both x y=some r):x=some r/\y=some r:=by
 unfold both at h;split at h
 ·rename_i e;exact⟨h,e ▸ h⟩
 ·cases h
theorem aiW{A:Type}(x:Option A):both x x=x:=by simp[both]
section
variable {X:SX}
def Z0(ds:List Nat)(s:de X)(h:Hn X.ι){A:Type}(k:Exit->de X->Option A)(body:(B:Type)->Hn X.ι->(Exit->de X->Option B)->Option B):Option A:=
 match h with
 | .j sh h'=>(body (VT (X:=X) sh.vars) h' λe s'=>match e with
  | .normal=>p9 sh ds s s' some
  |_=>none).bind λv=>k .normal (encS sh s v)
 | .jx sh h'=>dD (body (VT (X:=X) sh.vars⊕A) h' λe s'=>match e with
  | .normal=>p9 sh ds s s' λv=>some (.inl v)
  |e=>(k e s').map .inr) λv=>k .normal (encS sh s v)
 |h=>body A h k
variable (Γ:FuncId->Option (bx X)) (T:ea) (am:TypeId->Option (CT X.ι)) (N n:Nat)
noncomputable def run:Code->(A:Type)->Hn X.ι->de X->(Exit->de X->Option A)->Option A
 | .skip,_,_,s,k=>k .normal s
 | .region id al d,A,h,s,k=>Z0 (gG (.region id al d)) s h k λ_ h k=>Z2 Γ h.fz T am N al d s (k .normal)
 | .seq x y,A,h,s,k=>Z0 (gG (.seq x y)) s h k λB h k=>run x B h.fst s λe s'=>match e with
  | .normal=>run y B h.snd s' k
  |e=>k e s'
 | .cond c x y,A,h,s,k=>Z0 (gG (.cond c x y)) s h k λB h k=>match Yv (eM s.env) c with
  | .c .bool v=>bif v then run x B h.fst s k else run y B h.snd s k
  | .ub=>both (run x B h.fst s k) (run y B h.snd s k)
  |_=>none
 | .block id b,A,h,s,k=>Z0 (gG (.block id b)) s h k λB h k=>run b B h.sub s λe s'=>match e with
  | .exit j=>if j=id then k .normal s' else k (.exit j) s'
  |e=>k e s'
 | .loop b,A,h,s,k=>match h with
  | .l hd id ab h'=>p9 hd (gG b) s s λv0=>(iter (λ v=>run b (VT (X:=X) hd.vars⊕VT (X:=X) ab.vars) h' (encS hd s v) λe s'=>match e with
   | .normal=>p9 hd (gG b) s s' λv=>some (.inl v)
   | .exit j=>if j=id then p9 ab (gG b) s s' λw=>some (.inr w)else none
   |_=>none) n v0).bind λw=>k (.exit id) (encS ab s w)
  | .lx hd id ab h'=>p9 hd (gG b) s s λv0=>dD (iter (λ v=>run b (VT (X:=X) hd.vars⊕(VT (X:=X) ab.vars⊕A)) h' (encS hd s v) λe s'=>match e with
   | .normal=>p9 hd (gG b) s s' λv=>some (.inl v)
   | .exit j=>if j=id then p9 ab (gG b) s s' λw=>some (.inr (.inl w))else(k (.exit j) s').map λa=> .inr (.inr a)
   |e=>(k e s').map λa=> .inr (.inr a)) n v0) λw=>k (.exit id) (encS ab s w)
  | .un a r=>Lo (λ h s k=>run b A h s k) (.un a r) s k
  |_=>none
 | .exit id,_,_,s,k=>k (.exit id) s
 | .ret,_,_,s,k=>k .ret s
 | .label _,_,_,s,k=>k .normal s
 |_,_,_,_,_=>none
section
variable {Γ:FuncId->Option (bx X)} {T:ea} {am:TypeId->Option (CT X.ι)} {N n:Nat} {P:Program}
theorem Ext.wide{ds ds':Nat->Prop}{a b:de X}(h:Ext ds a b)(hd:∀t,ds t->ds' t):Ext ds' a b:=⟨λ t ht=>h.env t λhh=>ht (hd t hh),h.obj,h.nx⟩
theorem map_inr{α β:Type}{o:Option β}{r:α⊕β}(h:o.map Sum.inr=some r):∃b,o=some b/\r= .inr b:=by
 cases o with
 |none=>cases h
 |some b=>injection h with h;exact⟨b,rfl,h.symm⟩
theorem DT{c:Code}{s:de X}{h:Hn X.ι}{A:Type}{k:Exit->de X->Option A}{r:A}{body:(B:Type)->Hn X.ι->(Exit->de X->Option B)->Option B}(hl:Low s)
 (hb:∀(B:Type)(h:Hn X.ι)(k:Exit->de X->Option B)(r:B),body B h k=some r->Ev P N c (Ko (gG c) s k r) s.st) (hr:Z0 (gG c) s h k body=some r):Ev P N c (Ko (gG c) s k r) s.st:=by
 unfold Z0 at hr;split at hr
 ·rename_i sh h';rw[ai]at hr;obtain⟨v,h1,hr⟩:=hr;refine ahO (hb _ _ _ _ h1) ?_;rintro e σ ⟨s',g1,g2,rfl,g4⟩ w0 O0 β I a w hrel;cases e<;>simp only[reduceCtorEq]at g4;have⟨v',i1,i2,i3,i4⟩:=kV hl g1 g2 g4;cases i1;have⟨β',i5⟩:=i4 P w0 O0 N β I a w hrel;exact⟨β',_,i5,i2.old,_,i2,i3,rfl,hr⟩
 ·rename_i sh h';unfold dD at hr;have⟨v,h1,hr⟩:=ai.1 hr;refine ahO (hb _ _ _ _ h1) ?_;rintro e σ ⟨s',g1,g2,rfl,g4⟩ w0 O0 β I a w hrel;have other:(k e s').map Sum.inr=some v->∃ β' σ',Rel P w0 O0 N β' I σ' a w/\tD σ'/\Ko (gG c) s k r e σ':=by
   intro hm;obtain⟨b,hk,rfl⟩:=map_inr hm;cases hr;exact⟨β,_,hrel,g1.old,s',g1,g2,rfl,hk⟩
  cases e with
  |normal=>
   simp only at g4;have⟨v',i1,i2,i3,i4⟩:=kV hl g1 g2 g4;cases i1;have⟨β',i5⟩:=i4 P w0 O0 N β I a w hrel;exact⟨β',_,i5,i2.old,_,i2,i3,rfl,hr⟩
  |_=>exact other g4
 ·exact hb _ _ _ _ hr
theorem aiX{id:Nat}{al:Array Oper}{d:Bool}{t:Nat}(h:Rp al t):t∈gG (.region id al d):=by
 obtain⟨j,op,h1,h2⟩:=h;simp only[gG,List.mem_filterMap];exact⟨op,by rw[<- Array.getElem?_toList]at h1;exact dh h1,h2⟩
theorem Wh{b:Code}{s:de X}{hd:Sh X.ι}{O:Type}{step:VT (X:=X) hd.vars->Option (VT (X:=X) hd.vars⊕O)}{kb:Exit->de X->Option (VT (X:=X) hd.vars⊕O)}{Q:Exit->St->Prop}(hl:Low s)
 (hkn:∀s',kb .normal s'=p9 hd (gG b) s s' λv=>some (.inl v))
 (hstep:∀v r,Low (encS hd s v)->step v=some r->Ev P N b (Ko (gG b) (encS hd s v) kb r) (encS hd s v).st)
 {o:O} (hQ:∀e s',e≠ .normal->Low s'->Ext (· ∈gG b) s s'->kb e s'=some (.inr o)->∀w0 O0 β I a w,Rel P w0 O0 N β I s'.st a w->∃ β' σ',Rel P w0 O0 N β' I σ' a w/\tD σ'/\Q e σ')
 (hno:∀e s' v,e≠ .normal->kb e s'=some (.inl v)->False) (n:Nat) (v0:VT (X:=X) hd.vars) (h:iter step n v0=some o) (hl0:Low (encS hd s v0)) (hx0:Ext (· ∈gG b) s (encS hd s v0)):Ev P N (.loop b) Q (encS hd s v0).st:=by
 intro w0 O0 β I a w hr ho;refine Zu (λ n a w=>∃ β I v,Rel P w0 O0 N β I (encS hd s v).st a w/\iter step n v=some o/\Low (encS hd s v)/\Ext (· ∈gG b) s (encS hd s v)) (λ a w ⟨_,_,v,_,h,_⟩=>by cases h) ?_ n a w ⟨β,I,v0,hr,h,hl0,hx0⟩;rintro n a w ⟨β,I,v,hr,hi,hlv,hxv⟩;simp only[iter]at hi;have⟨r,h1,hi⟩:=ai.1 hi;refine wp_mono (hstep v r hlv h1 w0 O0 β I a w hr hlv.old) ?_;rintro e a' w' ⟨β',I',σ',g1,_,s',g2,g3,rfl,g4⟩;have hxs:=hxv.trans g3;by_cases he:e= .normal
 ·subst he;rw[hkn]at g4;have⟨v',i1,i2,i3,i4⟩:=kV hl g2 hxs g4;cases i1;have⟨β2,i5⟩:=i4 P w0 O0 N β' I' a' w' g1;exact⟨β2,I',v',i5,hi,i2,i3⟩
 ·cases r with
  |inl v'=>exact(hno e s' v' he g4).elim
  |inr o'=>
   cases hi;have⟨β2,σ2,i1,i2,i3⟩:=hQ e s' he g2 hxs g4 w0 O0 β' I' a' w' g1;cases e with
   |normal=>exact(he rfl).elim
   |_=>exact⟨β2,I',σ2,i1,i2,i3⟩
theorem Wi{A:Type}{sh:Sh X.ι}{ds:List Nat}{s0 s':de X}{k:VT (X:=X) sh.vars->Option A}{r:A}(h:p9 sh ds s0 s' k=some r):∃v,k v=some r:=by
 unfold p9 at h;have⟨_,h⟩:=dZ h;unfold OF at h;have⟨m1,h1,h⟩:=ai.1 h;have⟨m,h2,h⟩:=ai.1 h;have⟨h3,h⟩:=dZ h;have⟨v,h4,h⟩:=ai.1 h;exact⟨v,(o8 h).2⟩
theorem adu{α β γ:Type}{o:Option γ}{r:α⊕(β⊕γ)}(h:o.map (λ a=>Sum.inr (Sum.inr a))=some r):∃b,o=some b/\r= .inr (.inr b):=by
 cases o with
 |none=>cases h
 |some b=>injection h with h;exact⟨b,rfl,h.symm⟩
def Hn.len{ι:Type}:Hn ι->Nat
 | .un _ r=>r.len+1
 |_=>0
theorem aiY{b:Code}{A:Type}{body:Hn X.ι->de X->(Exit->de X->Option A)->Option A}{s0:de X}{k:Exit->de X->Option A}{r:A}
 (hb:∀(h:Hn X.ι)(s:de X)(k:Exit->de X->Option A)(r:A),Low s->body h s k=some r->Ev P N b (Ko (gG b) s k r) s.st)
 {h:Hn X.ι} (hl:Low s0) (hr:Lo body h s0 k=some r):Ev P N (.loop b) (Ko (gG (.loop b)) s0 k r) s0.st:=by
 refine amo (λ n σ=>∃(h:Hn X.ι)(s:de X),σ=s.st/\h.len=n/\Low s/\Ext (· ∈gG b) s0 s/\Lo body h s k=some r) ?_ ?_ h.len ⟨h,s0,rfl,rfl,hl,Ext.refl _ s0,hr⟩
 ·rintro σ ⟨h,s,_,h1,_,_,h2⟩;cases h<;>first |cases h2 |cases h1
 ·rintro n σ ⟨h,s,rfl,h1,h2,h3,h4⟩;cases h<;>try cases h4
  rename_i a q;simp only[Hn.len,Nat.add_right_cancel_iff]at h1;refine(hb a s _ r h2 h4).mono ?_;rintro e σ ⟨s',g1,g2,rfl,g4⟩;have hx:=h3.trans g2;cases e with
  |normal=>exact⟨q,s',rfl,h1,g1,hx,g4⟩
  |_=>exact⟨s',g1,hx,rfl,g4⟩
theorem kJ(hT:eY P T)(hm:P.follows .mixedOrders=true)(hΓ:sC P Γ):∀(c:Code)(A:Type)(h:Hn X.ι)(s:de X)(k:Exit->de X->Option A)(r:A),Low s->run Γ T am N n c A h s k=some r->Ev P N c (Ko (gG c) s k r) s.st
 | .skip,A,h,s,k,r,hl,hr=>aml ⟨s,hl,Ext.refl _ s,rfl,hr⟩
 | .exit id,A,h,s,k,r,hl,hr=>amm ⟨s,hl,Ext.refl _ s,rfl,hr⟩
 | .ret,A,h,s,k,r,hl,hr=>an0 ⟨s,hl,Ext.refl _ s,rfl,hr⟩
 | .label l,A,h,s,k,r,hl,hr=>akg ⟨s,hl,Ext.refl _ s,rfl,hr⟩
 | .region id al d,A,h,s,k,r,hl,hr=>by
  refine DT hl (λ B h k r hb=>?_) hr;have⟨s',g1,g2,g3,g4⟩:=abg (id:=id) hT hm hΓ hl hb;exact g4.mono λe σ ⟨he,hσ⟩=>⟨s',g2,g3.wide λt ht=>aiX ht,hσ,by rw[he];exact g1⟩
 | .seq x y,A,h,s,k,r,hl,hr=>by
  refine DT hl (λ B h k r hb=>?_) hr;refine an1 ((kJ hT hm hΓ x B _ s _ r hl hb).mono ?_);rintro e σ ⟨s',g1,g2,rfl,g4⟩;have wide:Ext (· ∈gG (.seq x y)) s s':=g2.wide λt ht=>by simp[gG,ht]
  cases e with
  |normal=>
   exact(kJ hT hm hΓ y B _ s' k r g1 g4).mono λe σ ⟨s2,i1,i2,i3,i4⟩=>⟨s2,i1,wide.trans (i2.wide λt ht=>by simp[gG,ht]),i3,i4⟩
  |_=>exact⟨s',g1,wide,rfl,g4⟩
 | .cond c x y,A,h,s,k,r,hl,hr=>by
  refine DT hl (λ B h k r hb=>?_) hr;split at hb
  ·rename_i v hv;refine amn v (λ _ _=>rfl) ?_ ?_
   ·have:=Vj (eM s.env) c;rw[hv]at this;exact this.symm
   ·cases v with
    |true=>exact(kJ hT hm hΓ x B _ s k r hl hb).mono λe σ ⟨s2,i1,i2,i3,i4⟩=>⟨s2,i1,i2.wide λt ht=>by simp[gG,ht],i3,i4⟩
    |false=>exact(kJ hT hm hΓ y B _ s k r hl hb).mono λe σ ⟨s2,i1,i2,i3,i4⟩=>⟨s2,i1,i2.wide λt ht=>by simp[gG,ht],i3,i4⟩
  ·rename_i hv;have⟨hb1,hb2⟩:=aiV hb;refine afr (λ _ _=>rfl) ?_ ?_ ?_
   ·have:=Vj (eM s.env) c;rw[hv]at this;exact this.symm
   ·exact(kJ hT hm hΓ x B _ s k r hl hb1).mono λe σ ⟨s2,i1,i2,i3,i4⟩=>⟨s2,i1,i2.wide λt ht=>by simp[gG,ht],i3,i4⟩
   ·exact(kJ hT hm hΓ y B _ s k r hl hb2).mono λe σ ⟨s2,i1,i2,i3,i4⟩=>⟨s2,i1,i2.wide λt ht=>by simp[gG,ht],i3,i4⟩
  ·cases hb
 | .block id b,A,h,s,k,r,hl,hr=>by
  refine DT hl (λ B h k r hb=>?_) hr;refine akh ((kJ hT hm hΓ b B _ s _ r hl hb).mono ?_);rintro e σ ⟨s',g1,g2,rfl,g4⟩;cases e with
  |exit j=>
   simp only[Zs];simp only at g4;split
   ·rw[aX ‹_›]at g4;exact⟨s',g1,g2,rfl,g4⟩
   ·rw[aQ ‹_›]at g4;exact⟨s',g1,g2,rfl,g4⟩
  |_=>exact⟨s',g1,g2,rfl,g4⟩
 | .loop b,A,h,s,k,r,hl,hr=>by
  simp only[run]at hr;split at hr
  ·rename_i hd id ab h';obtain⟨v0,h1,h2,h3,h4⟩:=kV hl hl (Ext.refl _ s) hr;rw[ai]at h1;obtain⟨w,h5,h6⟩:=h1;intro w0 O0 β I a ww hrel ho;have⟨β',hrel'⟩:=h4 P w0 O0 N β I a ww hrel;refine Wh (Q:=Ko (gG (.loop b)) s k r) hl (λ s'=>rfl) (λ v r hlv hs=>kJ hT hm hΓ b _ h' (encS hd s v) _ r hlv hs) (λ e s' he hls hxs hk=>?_) (λ e s' v he hk=>?_) n v0 h5 h2 h3 w0 O0 β' I a ww hrel' h2.old
   ·cases e with
    |exit j=>
     simp only at hk;split at hk
     ·rename_i hj;subst hj;have⟨w',i1,i2,i3,i4⟩:=kV hl hls hxs hk;injection i1 with i1;cases i1;intro w0 O0 β I a ww hrel;have⟨β',hrel'⟩:=i4 P w0 O0 N β I a ww hrel;exact⟨β',_,hrel',i2.old,_,i2,i3,rfl,h6⟩
     ·cases hk
    |normal=>exact(he rfl).elim
    |_=>cases hk
   ·cases e with
    |exit j=>
     simp only at hk;split at hk
     ·have⟨w',i1⟩:=Wi hk;injection i1 with i1;cases i1
     ·cases hk
    |normal=>exact he rfl
    |_=>cases hk
  ·rename_i hd id ab h';obtain⟨v0,h1,h2,h3,h4⟩:=kV hl hl (Ext.refl _ s) hr;unfold dD at h1;rw[ai]at h1;obtain⟨w,h5,h6⟩:=h1;intro w0 O0 β I a ww hrel ho;have⟨β',hrel'⟩:=h4 P w0 O0 N β I a ww hrel;refine Wh (Q:=Ko (gG (.loop b)) s k r) hl (λ s'=>rfl) (λ v r hlv hs=>kJ hT hm hΓ b _ h' (encS hd s v) _ r hlv hs) (λ e s' he hls hxs hk=>?_) (λ e s' v he hk=>?_) n v0 h5 h2 h3 w0 O0 β' I a ww hrel' h2.old
   ·intro w0 O0 β I a ww hrel;have other:(k e s').map (λ a=>Sum.inr (Sum.inr a))=some (Sum.inr w:VT (X:=X) hd.vars⊕(VT (X:=X) ab.vars⊕A))->∃ β' σ',Rel P w0 O0 N β' I σ' a ww/\tD σ'/\Ko (gG (.loop b)) s k r e σ':=by
     intro hm;have⟨q,hq,hr⟩:=adu hm;cases hr;cases h6;exact⟨β,_,hrel,hls.old,s',hls,hxs,rfl,hq⟩
    cases e with
    |exit j=>
     simp only at hk;split at hk
     ·rename_i hj;subst hj;have⟨w',i1,i2,i3,i4⟩:=kV hl hls hxs hk;injection i1 with i1;cases i1;have⟨β',hrel'⟩:=i4 P w0 O0 N β I a ww hrel;exact⟨β',_,hrel',i2.old,_,i2,i3,rfl,h6⟩
     ·exact other hk
    |normal=>exact(he rfl).elim
    |_=>exact other hk
   ·have other:(k e s').map (λ a=>Sum.inr (Sum.inr a))=some (Sum.inl v:VT (X:=X) hd.vars⊕(VT (X:=X) ab.vars⊕A))->False:=by
     intro hm;have⟨q,hq,hr⟩:=adu hm;cases hr
    cases e with
    |exit j=>
     simp only at hk;split at hk
     ·have⟨w',i1⟩:=Wi hk;injection i1 with i1;cases i1
     ·exact other hk
    |normal=>exact he rfl
    |_=>exact other hk
  ·exact aiY (body:=λh s k=>run Γ T am N n b A h s k) (λ h s k r hl h1=>kJ hT hm hΓ b A h s k r hl h1) hl hr
  ·cases hr
 | .rangeFunc ..,_,_,_,_,_,_,hr=>by cases hr
 | .scope _,_,_,_,_,_,_,hr=>by cases hr
 | .goto _,_,_,_,_,_,_,hr=>by cases hr
 | .refuse _,_,_,_,_,_,_,hr=>by cases hr
end
end
section
variable {X:SX}
def jB:Nat->(l:List (AT X.ι))->iF X l->List (DV X)
 |_,[],_=>[]
 |n,.d c::l,a=> .c c a.1::jB n l a.2
 |n,.ref c::l,a=> .rp c a.1 0::jB n l a.2
 |n,.d7 as r::l,a=> .d7 as r a.1::jB n l a.2
 |n,.mut _::l,a=> .own n 0 (List.length a.1)::jB (n+1) l a.2
 |n,.ju _::l,a=> .ptr n 0 0::jB (n+1) l a.2
 |n,.nil::l,a=> .nil::jB n l a.2
def AQ:(l:List (AT X.ι))->iF X l->List (bm X)
 |[],_=>[]
 | .mut c::l,a=> .d8 c a.1::AQ l a.2
 | .ju c::l,a=> .cells (CT.sz X c) [uQ c a.1]::AQ l a.2
 | .d _::l,a=>AQ l a.2
 | .ref _::l,a=>AQ l a.2
 | .d7 _ _::l,a=>AQ l a.2
 | .nil::l,a=>AQ l a.2
theorem rQ:∀(n:Nat)(l:List (AT X.ι))(a:iF X l),bL (jB n l a)=dO n l a
 |_,[],_=>rfl
 |n,.d c::l,a=>by simp only[jB,bL,den,dO,rQ n l a.2]
 |n,.ref c::l,a=>by simp only[jB,bL,den,dO,rQ n l a.2]
 |n,.d7 as r::l,a=>by simp only[jB,bL,dO,rQ n l a.2]
 |n,.mut c::l,a=>by simp only[jB,bL,den,dO,rQ (n+1) l a.2]
 |n,.ju c::l,a=>by simp only[jB,bL,den,dO,rQ (n+1) l a.2]
 |n,.nil::l,a=>by simp only[jB,bL,den,dO,rQ n l a.2]
theorem vY:∀(l:List (AT X.ι))(a:iF X l),(AQ l a).map bG=(pX l a).map gA
 |[],_=>rfl
 | .d _::l,a=>vY l a.2
 | .ref _::l,a=>vY l a.2
 | .d7 _ _::l,a=>vY l a.2
 | .nil::l,a=>vY l a.2
 | .mut c::l,a=>by simp only[AQ,pX,aF,vY l a.2];rfl
 | .ju c::l,a=>by simp only[AQ,pX,aF,vY l a.2,bG,gA,q9,aI,map_nil,oJ]
theorem oL:∀(n:Nat)(l:List (AT X.ι))(a:iF X l),∀k∈aP (jB n l a),k<n+p8 l
 |_,[],_,k,hk=>by simp[jB,aP]at hk
 |n,.d c::l,a,k,hk=>by
  have:=oL n l a.2 k (by simpa[jB,aP,bk]using hk);simpa[p8,AT.im]using this
 |n,.ref c::l,a,k,hk=>by
  have:=oL n l a.2 k (by simpa[jB,aP,bk]using hk);simpa[p8,AT.im]using this
 |n,.d7 as r::l,a,k,hk=>by
  have:=oL n l a.2 k (by simpa[jB,aP,bk]using hk);simpa[p8,AT.im]using this
 |n,.nil::l,a,k,hk=>by
  have:=oL n l a.2 k (by simpa[jB,aP,bk]using hk);simpa[p8,AT.im]using this
 |n,.mut c::l,a,k,hk=>by
  simp only[jB,aP,bk,List.singleton_append,aN]at hk;simp only[p8,AT.im,if_true];rcases hk with rfl |hk
  ·omega
  ·have:=oL (n+1) l a.2 k hk;omega
 |n,.ju c::l,a,k,hk=>by
  simp only[jB,aP,bk,List.singleton_append,aN]at hk;simp only[p8,AT.im,if_true];rcases hk with rfl |hk
  ·omega
  ·have:=oL (n+1) l a.2 k hk;omega
theorem kW:∀(n:Nat)(l:List (AT X.ι))(a:iF X l),(dO n l a).length=l.length
 |_,[],_=>rfl
 |n,.d c::l,a=>by simp only[dO,bI,kW n l a.2]
 |n,.ref c::l,a=>by simp only[dO,bI,kW n l a.2]
 |n,.d7 as r::l,a=>by simp only[dO,bI,kW n l a.2]
 |n,.mut c::l,a=>by simp only[dO,bI,kW (n+1) l a.2]
 |n,.ju c::l,a=>by simp only[dO,bI,kW (n+1) l a.2]
 |n,.nil::l,a=>by simp only[dO,bI,kW n l a.2]
theorem kX:∀(l:List (AT X.ι))(a:iF X l),(pX l a).length=p8 l
 |[],_=>rfl
 | .d _::l,a=>by simpa[p8,AT.im,pX]using kX l a.2
 | .ref _::l,a=>by simpa[p8,AT.im,pX]using kX l a.2
 | .d7 _ _::l,a=>by simpa[p8,AT.im,pX]using kX l a.2
 | .nil::l,a=>by simpa[p8,AT.im,pX]using kX l a.2
 | .mut _::l,a=>by simp only[pX,bI,kX l a.2,p8,AT.im,if_true];omega
 | .ju _::l,a=>by simp only[pX,bI,kX l a.2,p8,AT.im,if_true];omega
def xa(l:List (AT X.ι))(a:iF X l):de X:=⟨(List.range l.length).zip (jB 0 l a),(List.range (AQ l a).length).zip ((AQ l a).map some),1000,[]⟩
theorem ahP(l:List (AT X.ι))(a:iF X l)(k:Nat):gz (xa l a).obj k=(AQ l a)[k]? :=by
 have h:(List.range (AQ l a).length).zip ((AQ l a).map some)=(List.range ((AQ l a).map some).length).zip ((AQ l a).map some):=by rw[length_map]
 simp only[xa,gz];rw[h,AA,List.getElem?_map];cases (AQ l a)[k]?<;>rfl
theorem aof(l:List (AT X.ι))(a:iF X l):(xa l a).st=ro.st ⟨(List.range (vV l a).length).zip (vV l a),(List.range ((pX l a).map gA).length).zip ((pX l a).map gA)⟩:=by
 have ho:∀k,((gz (xa l a).obj k).map bG)=lk ((List.range ((pX l a).map gA).length).zip ((pX l a).map gA)) k:=by
  intro k;rw[AA,ahP,<- vY,List.getElem?_map]
 simp only[de.st,ro.st,St.mk.injEq,and_true];refine⟨?_,funext ho⟩;funext t;simp only[xa];rw[kW,vV,<- rQ];generalize jB 0 l a=ds;have:∀(ks:List Nat)(ds:List (DV X)),den (eM (ks.zip ds) t)=(lk (ks.zip (bL ds)) t).getD .undef:=by
  intro ks
  induction ks with
  |nil=>intro ds;rfl
  |cons k ks ih=>
   intro ds;cases ds with
   |nil=>rfl
   |cons d ds=>
    simp only[List.zip_cons_cons,eM,lk,bL];by_cases h:k=t
    ·simp[h]
    ·simp only[aQ h];exact ih ds
 exact this _ _
theorem amG(l:List (AT X.ι))(a:iF X l)(hm:p8 l<=1000):Low (xa l a):=by
 refine⟨by show 1000<=1000000;decide,aC _,λt k hk=>?_,λk o ho=>?_⟩
 ·have h0:=oL 0 l a;simp only[xa]at hk;generalize jB 0 l a=ds at hk h0;have:∀(ks:List Nat)(ds:List (DV X)),(∀ k∈aP ds,k<0+p8 l)->∀k∈bk (eM (ks.zip ds) t),k<1000:=by
   intro ks
   induction ks with
   |nil=>intro ds _ k hk;simp[eM,lk,bk]at hk
   |cons k ks ih=>
    intro ds h j hj;cases ds with
    |nil=>simp[eM,lk,bk]at hj
    |cons d ds=>
     simp only[List.zip_cons_cons,eM,lk]at hj;by_cases e:k=t
     ·simp only[aX e,Option.getD_some]at hj;have:=h j (by simp[aP,hj]);omega
     ·simp only[aQ e]at hj;exact ih ds (λ k hk=>h k (by simp[aP,hk])) j hj
  exact this _ _ h0 k hk
 ·rw[ahP]at ho;have hl:(AQ l a).length=p8 l:=by rw[<- kX l a];simpa using congrArg List.length (vY l a)
  refine⟨by have:=(dF.1 ho).1;show k<1000;omega,λj hj=>?_⟩;have hz:∀(l:List (AT X.ι))(a:iF X l),∀o∈AQ l a,d5 o=[]:=by
   intro l
   induction l with
   |nil=>intro a o ho;simp[AQ]at ho
   |cons q l ih=>
    intro a o ho;cases q<;>simp only[AQ,aN]at ho
    case «mut» c=>rcases ho with rfl |ho;rfl;exact ih _ o ho
    case ju c=>
     rcases ho with rfl |ho
     ·have h1:aP (uQ c a.1)=[]:=by
       rw[<- gY,oJ];generalize CT.row X.toSE c a.1=r
       induction r with
       |nil=>rfl
       |cons y ys ih=>simp only[aF,eT,refs,ih,bQ]
      simp[d5,h1]
     ·exact ih _ o ho
    all_goals exact ih _ o ho
  rw[hz l a o (dh ho)]at hj;cases hj
variable (T:ea)
def Fl(s:de X):ResultVar->Option (DV X)
 | .tmp t=>some (eM s.env t)
 | .cell a t=>(T t).bind λti=>match eM s.env a with
  | .ptr kk row aa=>(gz s.obj kk).bind λo=>match o with
   | .cells _ rows=>(rows[row]?).bind λr=>GL ti.agg ti.size ((r.drop aa).take ti.size)
   |_=>none
  |_=>none
def Wj(s:de X):List ResultVar->Option (List (DV X))
 |[]=>some []
 |r::rs=>(Fl T s r).bind λv=>(Wj s rs).bind λvs=>some (v::vs)
theorem akG{s:de X}{r:ResultVar}{d:DV X}(h:Fl T s r=some d):Pf T s.st r=some (den d):=by
 cases r with
 |tmp t=>simp only[Fl,aA]at h;subst h;rfl
 |cell a t=>
  simp only[Fl]at h;rw[ai]at h;obtain⟨ti,h1,h⟩:=h;split at h
  ·rename_i kk row aa hp;rw[ai]at h;obtain⟨o,h2,h⟩:=h;split at h
   ·rename_i sz rows;have⟨q,h3,h⟩:=ai.1 h;have h4:=Cg h;rw[jZ]at h4
    show(match Uf T t (den (eM s.env a)) (λ k=>(gz s.obj k).map bG)with
     |some ⟨v,[],[]⟩=>some v
     |_=>none)=some (den d)
    simp only[Uf,Kc,h1,af,hp,den,h2,Option.map_some,bG,List.getElem?_map,h3,h4,pv]
   ·cases h
  ·cases h
def YD{A:Type}(s:de X):List ResultVar->(List (DV X)->Option A)->Option A
 |[],k=>k []
 | .tmp t::rs,k=>YD s rs λvs=>k (eM s.env t::vs)
 | .cell a t::rs,k=>(T t).bind λti=>match eM s.env a with
  | .ptr kk row aa=>(gz s.obj kk).bind λo=>match o with
   | .cells _ rows=>(rows[row]?).bind λr=>(GL ti.agg ti.size ((r.drop aa).take ti.size)).bind λv=>YD s rs λvs=>k (v::vs)
   |_=>none
  |_=>none
theorem Jl{A:Type}{s:de X}:∀{rs:List ResultVar}{k:List (DV X)->Option A}{r:A},YD T s rs k=some r->∃ds,Wj T s rs=some ds/\k ds=some r
 |[],k,r,h=>⟨[],rfl,h⟩
 | .tmp t::rs,k,r,h=>by
  have⟨ds,h1,h2⟩:=Jl (rs:=rs) h;exact⟨_,by simp only[Wj,Fl,h1,af],h2⟩
 | .cell a t::rs,k,r,h=>by
  simp only[YD]at h;rw[ai]at h;obtain⟨ti,h1,h⟩:=h;split at h
  ·rename_i kk row aa hp;have⟨o,h2,h⟩:=ai.1 h;split at h
   ·have⟨q,h3,h⟩:=ai.1 h;have⟨v,h4,h⟩:=ai.1 h;have⟨ds,h5,h6⟩:=Jl (rs:=rs) h;exact⟨_,by simp only[Wj,Fl,h1,hp,h2,h3,h4,h5,af],h6⟩
   ·cases h
  ·cases h
theorem PD{s:de X}:∀{rs:List ResultVar}{ds:List (DV X)},Wj T s rs=some ds->ng T s.st rs=some (bL ds)
 |[],ds,h=>by simp only[Wj,aA]at h;subst h;rfl
 |r::rs,ds,h=>by
  simp only[Wj]at h;have⟨d,h1,h⟩:=ai.1 h;have⟨ds',h2,h⟩:=ai.1 h;cases h;simp only[ng,akG T h1,PD h2,af,bL]
def PE:List (RT X.ι)->List (DV X)->Option Nat
 | .mu _::l,ds=>PE l ds
 | .mr _::l,ds=>PE l ds
 | .mv::l,ds=>PE l ds
 | .fresh _::l,d::ds=>match d with
  | .own k _ _=>some k
  |_=>PE l ds
 | .d _::l,_::ds=>PE l ds
 | .whole _::l,_::ds=>PE l ds
 |_,_=>none
def yi:List (RT X.ι)->List (DV X)->List (Nat×Nat)
 | .mu _::l,ds=>yi l ds
 | .mr _::l,ds=>yi l ds
 | .mv::l,ds=>yi l ds
 | .whole j::l,d::ds=>match d with
  | .own _ _ len=>(j,len)::yi l ds
  |_=>yi l ds
 | .d _::l,_::ds=>yi l ds
 | .fresh _::l,_::ds=>yi l ds
 |_,_=>[]
def vZ:Nat->List (RT X.ι)->List Nat
 |_,[]=>[]
 |n,.mu _::l=>n::vZ (n+1) l
 |n,.mr _::l=>n::vZ (n+1) l
 |n,.mv::l=>vZ (n+1) l
 |n,_::l=>vZ n l
def rS:Nat->List (RT X.ι)->List Nat
 |_,[]=>[]
 |n,.mu _::l=>n::rS (n+1) l
 |n,.mr _::l=>rS (n+1) l
 |n,.mv::l=>rS (n+1) l
 |n,_::l=>rS n l
def J1(bad:List Nat)(ks:List Nat):Bool:=ks.all λk=>!bad.contains k
def abk(get:Nat->Option (bm X))(row:List (DV X))(c:CT X.ι):Option (CT.T X.toSE c×List Bool):=
 match c with
 | .st i=>(wN get row (X.cQ i)).bind λh=>some (X.make i h.1,h.2)
 |c=>match row with
  |[d]=>Rj get d c
  |_=>none
def G7(get:Nat->Option (bm X))(c:CT X.ι):List (List (DV X))->Option (List (CT.T X.toSE c)×List Bool)
 |[]=>some ([],[])
 |r::rs=>(abk get r c).bind λx=>(G7 get c rs).bind λy=>some (x.1::y.1,x.2++y.2)
def MS(get:Nat->Option (bm X))(bad ri:List Nat)(fk:Option Nat)(wl:List (Nat×Nat))(n:Nat):(q:RT X.ι)->List (DV X)->Option ((RT.T X q×List Bool)×List (DV X))
 | .d c,d::ds=>if J1 bad (bk d)then(E9 get d c).bind λx=>some (x,ds)else none
 | .fresh e,d::ds=>match d with
  | .nil=>some (([],[]),ds)
  | .own k 0 len=>if fk=some k then(get k).bind λo=>match o with
   | .d8 b l=>(jr (.sl b) (.sl e) l).bind λ(l:List (CT.T X.toSE e))=>some ((sub l 0 len,[az (sub l 0 len).length len]),ds)
   | .cells sz rows=>if sz=CT.sz X e/\J1 bad (rows.map aP).flatten=true then(G7 get e rows).bind λx=>some ((x.1,az len (List.length x.1)::x.2),ds)else none
   | .map _ _ _=>none
   else none
  |_=>none
 | .whole j,d::ds=>match d with
  | .own k 0 len=>if k=j/\ri.contains j=true then(lk wl j).bind λeh=>some (((),[az len eh]),ds)else none
  |_=>none
 | .mu c,ds=>(get n).bind λo=>match o with
  | .d8 b l=>(jr (.sl b) (.sl c) l).bind λ(l:List (CT.T X.toSE c))=>match lk wl n with
   |some len=>some ((sub l 0 len,[az (sub l 0 len).length len]),ds)
   |none=>some ((l,[]),ds)
  |_=>none
 | .mr c,ds=>(get n).bind λo=>match o with
  | .cells sz [row]=>if sz=CT.sz X c/\J1 bad (aP row)=true then(abk get row c).bind λx=>some (x,ds)else none
  |_=>none
 | .mv,ds=>some (((),[]),ds)
 |_,[]=>none
def MU(get:Nat->Option (bm X))(bad ri:List Nat)(fk:Option Nat)(wl:List (Nat×Nat)):Nat->(l:List (RT X.ι))->(ds:List (DV X))->Option (sD X l×List Bool)
 |_,[],ds=>match ds with
  |[]=>some ((),[])
  |_=>none
 |n,[q],ds=>(MS get bad ri fk wl n q ds).bind λp=>match p.2 with
  |[]=>some p.1
  |_=>none
 |n,q::q'::l,ds=>(MS get bad ri fk wl n q ds).bind λp=>(MU get bad ri fk wl (if q.out then n+1 else n) (q'::l) p.2).bind λy=>some ((p.1.1,y.1),p.1.2++y.2)
def On(s:de X)(l:List (RT X.ι))(ds:List (DV X)):Option (sD X l×List Bool):=
 if J1 (vZ 0 l) (PE l ds).toList then MU (gz s.obj) (vZ 0 l++(PE l ds).toList) (rS 0 l) (PE l ds) (yi l ds) 0 l ds else none
def aoN(rs:List ResultVar)(l:List (RT X.ι)):Exit->de X->Option (sD X l)
 | .normal,s=>YD T s rs λds=>(On s l ds).bind λx=>Vm x.2 (some x.1)
 | .ret,s=>YD T s rs λds=>(On s l ds).bind λx=>Vm x.2 (some x.1)
 |_,_=>none
def exit(A:Type)(k:de X->Option A):Exit->de X->Option A
 | .normal,s=>k s
 | .ret,s=>k s
 |_,_=>none
variable {T}
section
variable {get:Nat->Option (bm X)} {fk:Option Nat} {os':List (Option fe)} {bad:List Nat}
theorem DU{ks:List Nat}(h:J1 bad ks=true):∀j∈ks,j∉bad:=λj hj=>by simpa using all_eq_true.1 h j hj
theorem PG(hbad:∀j,j∉bad->fk≠some j/\¬kept os' j){d:DV X}{c:CT X.ι}{x:CT.T X.toSE c×List Bool}(hc:c.one=true)(h:Rj get d c=some x)(hb:∀b∈x.2,b=true)(m8:∀j∈bk d,j∉bad):∃t,CT.tv X.toSE c x.1= .s t/\Pe (fw get) fk os' (den d) t:=by
 obtain⟨t,h1,h2⟩:=row_one hc x.1;refine⟨t,h2,?_⟩;have hbase:∀y,JK d c=some y->y=x.1->Pe (fw get) fk os' (den d) t:=by
  intro y hy he;subst he;have h3:=vR hy;rw[h2]at h3;have h4:=aa1 hc hy;unfold JK at hy;split at hy
  ·rw[(nY hy).1];simp only[den,h2,TV.av,Pe]
  ·simp only[den,Gb.wk,TV.av,AV.t.injEq]at h3;simp only[den,Pe];exact h3.symm
  ·simp only[den,Gb.wk,TV.av,AV.t.injEq]at h3;simp only[den,Pe];exact h3.symm
  ·cases hy
 unfold Rj at h;split at h
 ·rename_i kk aa len e;rw[ai]at h;obtain⟨o,h3,h⟩:=h;split at h
  ·rename_i b l0;rw[ai]at h;obtain⟨l,h4,h⟩:=h;cases h;have h5:(sub l aa len).length=len:=(by simpa[az]using hb (az (sub l aa len).length len) (by simp));have⟨h6,h7⟩:=jc h4;obtain⟨hf1,hf2⟩:=hbad kk (m8 kk (by simp[bk]));simp only[den,Pe];refine⟨hf1,hf2,bG (.d8 b l0),(sub l aa len).map (CT.row X.toSE e),by simp[fw,h3],?_,by simpa using h5,?_⟩
   ·simp only[bG,h7];simp[aI,sub,map_take,map_drop]
   ·simpa[CT.row]using h1.symm
  ·cases h
 ·rename_i kk aa len;rw[ai]at h;obtain⟨o,h3,h⟩:=h;split at h
  ·rename_i b l0;cases h;have h5:(sub l0 aa len).length=len:=(by simpa[az]using hb (az (sub l0 aa len).length len) (by simp));obtain⟨hf1,hf2⟩:=hbad kk (m8 kk (by simp[bk]));simp only[den,Pe];refine⟨hf1,hf2,bG (.d8 b l0),(sub l0 aa len).map (CT.row X.toSE b),by simp[fw,h3],?_,by simpa using h5,?_⟩
   ·simp only[bG];simp[aI,sub,map_take,map_drop]
   ·simpa[CT.row]using h1.symm
  ·cases h
 ·rename_i kk len e;rw[ai]at h;obtain⟨o,h3,h⟩:=h;split at h
  ·rename_i b l0;have⟨l,h4,h⟩:=ai.1 h;cases h;have h5:(sub l 0 len).length=len:=(by simpa[az]using hb (az (sub l 0 len).length len) (by simp));have⟨h6,h7⟩:=jc h4;obtain⟨hf1,hf2⟩:=hbad kk (m8 kk (by simp[bk]));simp only[den,Pe];refine⟨hf1,hf2,bG (.d8 b l0),(sub l 0 len).map (CT.row X.toSE e),by simp[fw,h3],?_,by simpa using h5,?_⟩
   ·simp only[bG,h7];simp[aI,sub,map_take,map_drop]
   ·simpa[CT.row]using h1.symm
  ·cases h
 ·have⟨y,h3,h⟩:=ai.1 h;injection h with h;exact hbase y h3 (by rw[<- h])
theorem KN(hbad:∀j,j∉bad->fk≠some j/\¬kept os' j):∀{ds:List (DV X)}{l:List (CT X.ι)}{h:HL X.toSE l×List Bool},wN get ds l=some h->(∀ b∈h.2,b=true)->l.all CT.one=true->(∀ j∈aP ds,j∉bad)->k9 (fw get) fk os' (bL ds) (HL.row X.toSE l h.1)
 |[],[],h,_,_,_,_=>trivial
 |d::ds,c::l,h,hr,hb,ha,m8=>by
  simp only[wN]at hr;have⟨x,h1,hr⟩:=ai.1 hr;have⟨g,h2,hr⟩:=ai.1 hr;cases hr;simp only[all_cons,aL]at ha;obtain⟨t,i1,i2⟩:=PG hbad ha.1 h1 (λ b hb'=>hb b (by simp[hb'])) (λ j hj=>m8 j (by simp[aP,hj]));have i3:=KN hbad h2 (λ b hb'=>hb b (by simp[hb'])) ha.2 (λ j hj=>m8 j (by simp[aP,hj]));obtain⟨t',j1,j2⟩:=row_one ha.1 x.1;rw[i1]at j2;cases j2;show k9 (fw get) fk os' (den d::bL ds) (CT.row X.toSE c x.1++HL.row X.toSE l g.1);rw[j1];exact⟨i2,i3⟩
 |[],_::_,_,hr,_,_,_=>by simp[wN]at hr
 |_::_,[],_,hr,_,_,_=>by simp[wN]at hr
theorem Rt(hbad:∀j,j∉bad->fk≠some j/\¬kept os' j){row:List (DV X)}{c:CT X.ι}{x:CT.T X.toSE c×List Bool}(h:abk get row c=some x)(hb:∀b∈x.2,b=true)(m8:∀j∈aP row,j∉bad):k9 (fw get) fk os' (bL row) (CT.row X.toSE c x.1):=by
 cases c
 case st i=>
  replace h:(wN get row (X.cQ i)).bind (λ h=>some (X.make i h.1,h.2))=some x:=h
  have⟨g,h1,h⟩:=ai.1 h;cases h;have:=KN hbad h1 hb (X.flat i) m8;show k9 (fw get) fk os' (bL row) (X.row i (X.make i g.1));rw[X.gd];exact this
 all_goals
  match row,h,m8 with
  |[d],h,m8=>
   obtain⟨t,i1,i2⟩:=PG (fk:=fk) hbad rfl h hb (λ j hj=>m8 j (by simp[aP,hj]));obtain⟨t',j1,j2⟩:=row_one rfl x.1;rw[i1]at j2;cases j2;rw[j1];exact⟨i2,trivial⟩
  |[],h,_=>cases h
  |_::_::_,h,_=>cases h
theorem MV(hbad:∀j,j∉bad->fk≠some j/\¬kept os' j){c:CT X.ι}:∀{rows:List (List (DV X))}{x:List (CT.T X.toSE c)×List Bool},G7 get c rows=some x->(∀ b∈x.2,b=true)->(∀ j∈(rows.map aP).flatten,j∉bad)->ek (fw get) fk os' (rows.map bL) (x.1.map (CT.row X.toSE c))/\rows.length=List.length x.1
 |[],x,h,_,_=>by simp only[G7,aA]at h;subst h;exact⟨trivial,rfl⟩
 |r::rs,x,h,hb,m8=>by
  simp only[G7]at h;have⟨y,h1,h⟩:=ai.1 h;have⟨z,h2,h⟩:=ai.1 h;cases h;have i1:=Rt hbad h1 (λ b hb'=>hb b (by simp[hb'])) (λ j hj=>m8 j (by simp[hj]));obtain⟨i2,i3⟩:=MV hbad h2 (λ b hb'=>hb b (by simp[hb'])) (λ j hj=>m8 j (by simp only[aF,flatten_cons,bf];exact .inr hj));exact⟨⟨i1,i2⟩,by simp[i3]⟩
theorem akH{x:AV}{t:Tree}(h:Pe (fw get) fk os' x t):Fi (fw get) fk os' x (.d (.s t)):=by cases x<;>first |exact h |exact h.elim
theorem DW(sz:CT X.ι)(l:List (CT.T X.toSE sz)):ek (fw get) fk os' (aI (l.map (CT.row X.toSE sz))) (l.map (CT.row X.toSE sz)):=by
 generalize l.map (CT.row X.toSE sz)=rows
 induction rows with
 |nil=>trivial
 |cons r rs ih=>
  refine⟨?_,ih⟩;show k9 (fw get) fk os' (r.map AV.t) r
  induction r with
  |nil=>trivial
  |cons y ys ih2=>exact⟨rfl,ih2⟩
theorem akI(hbad:∀j,j∉bad->fk≠some j/\¬kept os' j){c:CT X.ι}{d:DV X}{x:CT.T X.toSE c×List Bool}(h:E9 get d c=some x)(m8:∀j∈bk d,j∉bad)(hb:∀b∈x.2,b=true):Fi (fw get) fk os' (den d) (.d (CT.tv X.toSE c x.1)):=by
 cases c
 case st i=>
  replace h:ZE get d i=some x:=h
  cases d
  case agg cs=>
   simp only[ZE]at h;have⟨g,h1,h⟩:=ai.1 h;cases h;have:=KN (fk:=fk) hbad h1 hb (X.flat i) (by simpa[bk]using m8);show k9 (fw get) fk os' (bL cs) (X.row i (X.make i g.1));rw[X.gd];exact this
  case c a y=>
   simp only[ZE]at h;have⟨z,h1,h⟩:=ai.1 h;cases h;rw[(nY h1).1];show k9 (fw get) fk os' ((X.row i z).map AV.t) (X.row i z);generalize X.row i z=l
   induction l with
   |nil=>trivial
   |cons y ys ih=>exact⟨rfl,ih⟩
  all_goals cases h
 all_goals
  have⟨t,i1,i2⟩:=PG (fk:=fk) hbad rfl h hb m8;rw[i1];exact akH i2
theorem Wl{ri:List Nat}{wl:List (Nat×Nat)}{ns:List Nat}{n:Nat}(hbad:∀j,j∉bad->fk≠some j/\¬kept os' j)(qT:∀k,fk=some k->¬kept os' k)(hns:∀j eh,j∈ri->lk wl j=some eh->ns.getD j 0=eh)(hmu:∀j∈ri,kept os' j){q:RT X.ι}{ds:List (DV X)}{p:(RT.T X q×List Bool)×List (DV X)}(h:MS get bad ri fk wl n q ds=some p)(hb:∀b∈p.1.2,b=true):
 (∀ cs,nh (fw get) fk os' (bL p.2) cs->nh (fw get) fk os' (bL ds) (Vz ns q p.1.1++cs))/\
 (∀ t,pY q p.1.1=[some t]->∃o,get n=some o/\(bG o).sz=t.1/\ek (fw get) fk os' ((bG o).rows.take t.2.length) t.2)/\
 (∀ eh c,q= .mu c->lk wl n=some eh->Yy q p.1.1=[eh]):=by
 cases q
 case d c=>
  cases ds with
  |nil=>simp[MS]at h
  |cons d ds=>
   simp only[MS]at h;split at h
   ·rename_i hnb;rw[ai]at h;obtain⟨x,h1,h⟩:=h;cases h;exact⟨λ cs hcs=>⟨akI hbad h1 (DU hnb) hb,hcs⟩,λt ht=>by simp[pY]at ht,λ_ _ h=>by cases h⟩
   ·cases h
 case fresh e=>
  cases ds with
  |nil=>simp[MS]at h
  |cons d ds=>
   refine⟨λ cs hcs=>?_,λt ht=>by simp[pY]at ht,λ_ _ h=>by cases h⟩;simp only[MS]at h;split at h
   ·cases h;exact⟨rfl,hcs⟩
   ·rename_i k len;split at h
    ·rename_i m8;rw[ai]at h;obtain⟨o,h1,h⟩:=h;split at h
     ·rename_i b l0;rw[ai]at h;obtain⟨l,h2,h⟩:=h;cases h;have⟨h3,h4⟩:=jc h2;have h5:(sub l 0 len).length=len:=(by simpa[az]using hb (az (sub l 0 len).length len) (by simp));refine⟨⟨m8,qT k m8,rfl,bG (.d8 b l0),by simp[fw,h1],by simp only[bG];exact h3,?_,by simpa using h5⟩,hcs⟩;have e1:(bG (.d8 b l0)).rows.take len=aI ((sub l 0 len).map (CT.row X.toSE e)):=by
       simp only[bG,h4];simp[aI,sub,map_take]
      rw[e1];exact DW e _
     ·rename_i sz rows;split at h
      ·rename_i hc;rw[ai]at h;obtain⟨x,h2,h⟩:=h;cases h;obtain⟨i1,i2⟩:=MV (fk:=fk) hbad h2 (λ b hb'=>hb b (by simp[hb'])) (DU hc.2);have h5:len=List.length x.1:=(by simpa[az]using hb (az len (List.length x.1)) (by simp));refine⟨⟨m8,qT k m8,rfl,bG (.cells sz rows),by simp[fw,h1],hc.1,?_,by simpa using h5.symm⟩,hcs⟩;simp only[bG];rw[List.take_of_length_le (by simp;omega)];exact i1
      ·cases h
     ·cases h
    ·cases h
   ·cases h
 case whole j=>
  cases ds with
  |nil=>simp[MS]at h
  |cons d ds=>
   refine⟨λ cs hcs=>?_,λt ht=>by simp[pY]at ht,λ_ _ h=>by cases h⟩;simp only[MS]at h;split at h
   ·rename_i k len;split at h
    ·rename_i hc;obtain⟨rfl,hm⟩:=hc;rw[ai]at h;obtain⟨eh,h1,h⟩:=h;cases h;have h5:len=eh:=(by simpa[az]using hb (az len eh) (by simp));have hm:k∈ri:=(by simpa using hm);refine⟨⟨rfl,rfl,?_,hmu k hm⟩,hcs⟩;rw[h5];exact hns k eh hm h1
    ·cases h
   ·cases h
 case mu c=>
  simp only[MS]at h;rw[ai]at h;obtain⟨o,h1,h⟩:=h;split at h
  ·rename_i b l0;rw[ai]at h;obtain⟨l,h2,h⟩:=h;have⟨h3,h4⟩:=jc h2;split at h
   ·rename_i len hl;cases h;have h5:(sub l 0 len).length=len:=(by simpa[az]using hb (az (sub l 0 len).length len) (by simp));refine⟨λ cs hcs=>hcs,λt ht=>?_,λeh c' _ hl'=>?_⟩
    ·simp only[pY,List.cons.injEq,aA,and_true]at ht;subst ht;refine⟨_,h1,by simp only[bG,q9];exact h3,?_⟩;have e1:(bG (.d8 b l0)).rows.take (q9 c (sub l 0 len)).2.length=aI (q9 c (sub l 0 len)).2:=by
      simp only[bG,h4,q9,length_map,h5];simp[aI,sub,map_take]
     rw[e1];exact DW c _
    ·rw[hl]at hl';injection hl' with hl';subst hl';simp only[Yy,h5]
   ·rename_i hl;cases h;refine⟨λ cs hcs=>hcs,λt ht=>?_,λeh c' _ hl'=>by rw[hl]at hl';cases hl'⟩;simp only[pY,List.cons.injEq,aA,and_true]at ht;subst ht;refine⟨_,h1,by simp only[bG,q9];exact h3,?_⟩;have e1:(bG (.d8 b l0)).rows.take (q9 c l).2.length=aI (q9 c l).2:=by
     simp only[bG,h4,q9];rw[List.take_of_length_le (by simp[aI])]
    rw[e1];exact DW c _
  ·cases h
 case mr c=>
  simp only[MS]at h;rw[ai]at h;obtain⟨o,h1,h⟩:=h;split at h
  ·rename_i sz row;split at h
   ·rename_i hc;have⟨x,h2,h⟩:=ai.1 h;cases h;refine⟨λ cs hcs=>hcs,λt ht=>?_,λ_ _ h=>by cases h⟩;simp only[pY,List.cons.injEq,aA,and_true]at ht;subst ht;refine⟨_,h1,by simp only[bG,q9];exact hc.1,?_⟩;exact⟨Rt hbad h2 hb (DU hc.2),trivial⟩
   ·cases h
  ·cases h
 case mv=>
  simp only[MS,aA]at h;subst h;exact⟨λ cs hcs=>hcs,λt ht=>by simp[pY]at ht,λ_ _ h=>by cases h⟩
theorem G8{q:RT X.ι}{x:RT.T X q}:(pY q x).length=(if q.out then 1 else 0)/\(Yy q x).length=(if q.out then 1 else 0):=by cases q<;>exact⟨rfl,rfl⟩
theorem G9{n j:Nat}{q:RT X.ι}{l:List (RT X.ι)}:j∈rS n (q::l)->(j=n/\∃c,q= .mu c)\/j∈rS (if q.out then n+1 else n) l:=by
 cases q<;>simp only[rS,RT.out,if_true,Bool.false_eq_true,if_false,aN]
 case mu c=>exact λh=>h.imp (λ h=>⟨h,c,rfl⟩) id
 all_goals exact .inr
theorem Z1{j:Nat}:∀{l:List (RT X.ι)}{n:Nat},j∈rS n l->n<=j
 |[],n,h=>by simp[rS]at h
 |q::l,n,h=>by
  rcases G9 h with ⟨rfl,_⟩ |h
  ·exact aC _
  ·have:=Z1 h;split at this<;>omega
theorem adw:∀{l:List (RT X.ι)}{x:sD X l}{n j:Nat},j∈rS n l->∃p,(nN l x)[j -n]? =some (some p)
 |[],x,n,j,h=>by simp[rS]at h
 |[q],x,n,j,h=>by
  rcases G9 h with ⟨rfl,c,rfl⟩ |h
  ·exact⟨_,by simp only[Nat.sub_self];rfl⟩
  ·simp[rS]at h
 |q::q'::l,x,n,j,h=>by
  rcases G9 h with ⟨rfl,c,rfl⟩ |h
  ·exact⟨_,by simp only[Nat.sub_self];rfl⟩
  ·have⟨p,hp⟩:=adw (l:=q'::l) (x:=x.2) h;have hge:=Z1 h;refine⟨p,?_⟩;show(pY q x.1++nN (q'::l) x.2)[j -n]? =_;have hl:=(G8 (q:=q) (x:=x.1)).1;split at hl
   ·rename_i e;rw[aX e]at hp hge;rw[jy (by omega),hl,show j -n -1=j -(n+1)by omega];exact hp
   ·rename_i e;rw[aQ e]at hp hge;rw[jy (by omega),hl,Nat.sub_zero];exact hp
theorem Ct:∀{l:List (RT X.ι)}{x:sD X l}{n j:Nat}{p:fe},(nN l x)[j]? =some (some p)->n+j∈vZ n l
 |[],x,n,j,p,h=>by simp[nN]at h
 |[q],x,n,j,p,h=>by
  have h:(pY q x)[j]? =some (some p):=h;cases q<;>simp only[pY,List.getElem?_nil,reduceCtorEq]at h
  case mu c=>cases j<;>simp at h<;>simp[vZ]
  case mr c=>cases j<;>simp at h<;>simp[vZ]
  case mv=>cases j<;>simp at h
 |q::q'::l,x,n,j,p,h=>by
  have h:(pY q x.1++nN (q'::l) x.2)[j]? =some (some p):=h;cases q
  case mu c=>
   cases j with
   |zero=>simp[vZ]
   |succ j=>
    have:=Ct (l:=q'::l) (x:=x.2) (n:=n+1) (by simpa[pY]using h);simp only[vZ,aN];right;rw[show n+(j+1)=n+1+j by omega];exact this
  case mr c=>
   cases j with
   |zero=>simp[vZ]
   |succ j=>
    have:=Ct (l:=q'::l) (x:=x.2) (n:=n+1) (by simpa[pY]using h);simp only[vZ,aN];right;rw[show n+(j+1)=n+1+j by omega];exact this
  case mv=>
   cases j with
   |zero=>simp[pY]at h
   |succ j=>
    have:=Ct (l:=q'::l) (x:=x.2) (n:=n+1) (by simpa[pY]using h);simp only[vZ];rw[show n+(j+1)=n+1+j by omega];exact this
  all_goals
   simp only[vZ];exact Ct (l:=q'::l) (x:=x.2) (by simpa[pY]using h)
theorem adx{ri:List Nat}{wl:List (Nat×Nat)}{n:Nat}{q:RT X.ι}{ds:List (DV X)}{p:(RT.T X q×List Bool)×List (DV X)}(h:MS get bad ri fk wl n q ds=some p)(hb:∀b∈p.1.2,b=true):∀eh c,q= .mu c->lk wl n=some eh->Yy q p.1.1=[eh]:=by
 rintro eh c rfl hl;simp only[MS]at h;rw[ai]at h;obtain⟨o,h1,h⟩:=h;split at h
 ·rename_i b l0;have⟨l,h2,h⟩:=ai.1 h;rw[hl]at h;cases h;have h5:(sub l 0 eh).length=eh:=by simpa[az]using hb (az (sub l 0 eh).length eh) (by simp)
  simp only[Yy,h5]
 ·cases h
theorem KO{ri:List Nat}{wl:List (Nat×Nat)}:∀{n:Nat}{l:List (RT X.ι)}{ds:List (DV X)}{x:sD X l×List Bool},MU get bad ri fk wl n l ds=some x->(∀ b∈x.2,b=true)->∀j eh,n+j∈rS n l->lk wl (n+j)=some eh->(xF l x.1).getD j 0=eh
 |n,[],ds,x,h,hb,j,eh,hm,_=>by simp[rS]at hm
 |n,[q],ds,x,h,hb,j,eh,hm,hl=>by
  simp only[MU]at h;have⟨p,h1,h⟩:=ai.1 h;split at h
  ·cases h;rcases G9 hm with ⟨e,c,rfl⟩ |hm
   ·have e:j=0:=(by omega);subst e;have:=(adx h1 hb) eh c rfl hl;show(Yy _ p.1.1).getD 0 0=eh;rw[this];rfl
   ·simp[rS]at hm
  ·cases h
 |n,q::q'::l,ds,x,h,hb,j,eh,hm,hl=>by
  simp only[MU]at h;have⟨p,h1,h⟩:=ai.1 h;have⟨y,h2,h⟩:=ai.1 h;cases h;have hlen:=(G8 (q:=q) (x:=p.1.1)).2;rcases G9 hm with ⟨e,c,rfl⟩ |hm
  ·have e:j=0:=(by omega);subst e;have:=(adx h1 (λ b hb'=>hb b (by simp[hb']))) eh c rfl hl;show(Yy _ p.1.1++xF (q'::l) y.1).getD 0 0=eh;rw[this];rfl
  ·have hge:=Z1 hm;show(Yy _ p.1.1++xF (q'::l) y.1).getD j 0=eh;by_cases hq:q.out=true
   ·rw[aX hq]at h2 hm hge hlen;have:=KO h2 (λ b hb'=>hb b (by simp[hb'])) (j -1) eh (by rw[show n+1+(j -1)=n+j by omega];exact hm) (by rw[show n+1+(j -1)=n+j by omega];exact hl);rw[List.getD_eq_getElem?_getD,jy (by omega),hlen,<- List.getD_eq_getElem?_getD];exact this
   ·rw[aQ hq]at h2 hm hge hlen;have:=KO h2 (λ b hb'=>hb b (by simp[hb'])) j eh hm hl;rw[List.getD_eq_getElem?_getD,jy (by omega),hlen,Nat.sub_zero,<- List.getD_eq_getElem?_getD];exact this
theorem Z4{ri:List Nat}{wl:List (Nat×Nat)}{ns:List Nat}(hbad:∀j,j∉bad->fk≠some j/\¬kept os' j)(qT:∀k,fk=some k->¬kept os' k)(hns:∀j eh,j∈ri->lk wl j=some eh->ns.getD j 0=eh)(hmu:∀j∈ri,kept os' j):∀{n:Nat}{l:List (RT X.ι)}{ds:List (DV X)}{x:sD X l×List Bool},MU get bad ri fk wl n l ds=some x->(∀ b∈x.2,b=true)->
 nh (fw get) fk os' (bL ds) (AO ns l x.1)/\∀j t,(nN l x.1)[j]? =some (some t)->∃o,get (n+j)=some o/\(bG o).sz=t.1/\ek (fw get) fk os' ((bG o).rows.take t.2.length) t.2
 |n,[],ds,x,h,_=>by
  simp only[MU]at h;split at h
  ·exact⟨trivial,λj t ht=>by simp[nN]at ht⟩
  ·cases h
 |n,[q],ds,x,h,hb=>by
  simp only[MU]at h;rw[ai]at h;obtain⟨p,h1,h⟩:=h;split at h
  ·rename_i hp;cases h;have⟨i1,i2,_⟩:=Wl (ns:=ns) hbad qT hns hmu h1 hb;rw[hp]at i1;have:=i1 [] trivial;rw[append_nil]at this;refine⟨this,λj t ht=>?_⟩;have ht:(pY q p.1.1)[j]? =some (some t):=ht;have hl:=(G8 (q:=q) (x:=p.1.1)).1;have hj:=(dF.1 ht).1;have hj0:j=0:=(by split at hl<;>omega);subst hj0;refine i2 t ?_
   match ho:pY q p.1.1,ht,hl with
   |[z],ht,_=>simpa using ht
   |[],ht,_=>simp at ht
   |_::_::_,_,hl=>simp only[bI]at hl;split at hl<;>omega
  ·cases h
 |n,q::q'::l,ds,x,h,hb=>by
  simp only[MU]at h;have⟨p,h1,h⟩:=ai.1 h;have⟨y,h2,h⟩:=ai.1 h;cases h;obtain⟨i1,i2,_⟩:=Wl (ns:=ns) hbad qT hns hmu h1 (λ b hb'=>hb b (by simp[hb']));obtain⟨k1,k2⟩:=Z4 (ns:=ns) hbad qT hns hmu h2 (λ b hb'=>hb b (by simp[hb']));refine⟨i1 _ k1,λj t ht=>?_⟩;have ht:(pY q p.1.1++nN (q'::l) y.1)[j]? =some (some t):=ht;have hl:=(G8 (q:=q) (x:=p.1.1)).1;by_cases hq:q.out=true
  ·rw[aX hq]at k2 hl;cases j with
   |zero=>
    refine i2 t ?_
    match ho:pY q p.1.1,ht,hl with
    |[z],ht,_=>simpa using ht
    |[],_,hl=>simp at hl
    |_::_::_,_,hl=>simp at hl
   |succ j=>
    rw[jy (by omega),hl,Nat.add_sub_cancel]at ht;rw[show n+(j+1)=n+1+j by omega];exact k2 j t ht
  ·rw[aQ hq]at k2 hl;rw[jy (by omega),hl,Nat.sub_zero]at ht;exact k2 j t ht
end
theorem nh.R{get:Nat->Option aS}{fk:Option Nat}{os':List (Option fe)}:∀{xs:List AV}{cs:List RC},nh get fk os' xs cs->Fc get fk os' xs (match cs with |[c]=> .one c |cs=> .eC cs)
 |[],[],_=>rfl
 |[_],[_],h=>h.1
 |_::_::_,_::_::_,h=>h
 |[],_::_,h=>h.elim
 |_::_,[],h=>h.elim
 |[_],_::_::_,h=>h.2.elim
 |_::_::_,[_],h=>h.2.elim
theorem akJ{s:de X}{rs:List ResultVar}{l:List (RT X.ι)}{r:sD X l}(h:(YD T s rs λds=>(On s l ds).bind λx=>Vm x.2 (some x.1))=some r):∃xs fk,ng T s.st rs=some xs/\Fc s.st.obj fk (nN l r) xs (sK l r)/\Mb s.st.obj fk (nN l r):=by
 have⟨ds,h1,h⟩:=Jl T h;rw[ai]at h;obtain⟨x,h2,h⟩:=h;have⟨h3,h⟩:=o8 h;cases h;unfold On at h2;split at h2
 ·rename_i hnb;have hkn:∀j,kept (nN l x.1) j->j∈vZ 0 l:=λj ⟨p,hp⟩=>by
   have:=Ct (n:=0) hp;simpa using this
  have hbad:∀j,j∉vZ 0 l++(PE l ds).toList->PE l ds≠some j/\¬kept (nN l x.1) j:=by
   intro j hj;simp only[bf,Option.mem_toList,not_or]at hj;exact⟨hj.2,λh=>hj.1 (hkn j h)⟩
  have qT:∀k,PE l ds=some k->¬kept (nN l x.1) k:=λk hk hkk=>DU hnb k (by simp[hk]) (hkn k hkk);have hmu:∀j∈rS 0 l,kept (nN l x.1) j:=λj hj=>by
   have⟨p,hp⟩:=adw (x:=x.1) hj;exact⟨p,by simpa using hp⟩
  obtain⟨i1,i2⟩:=Z4 (ns:=xF l x.1) hbad qT (λ j eh hj hl=>KO h2 h3 j eh (by simpa using hj) (by simpa using hl)) hmu h2 h3;have gp:s.st.obj=fw (gz s.obj):=rfl;refine⟨bL ds,PE l ds,PD T h1,?_,λj p hp=>?_⟩
  ·rw[gp];exact i1.R
  ·have⟨o,g1,g2,g3⟩:=i2 j p hp;rw[Nat.zero_add]at g1;exact⟨λ e=>qT j e ⟨p,hp⟩,bG o,by rw[gp];simp[fw,g1],g2,by rw[gp];exact g3⟩
 ·cases h2
variable {Γ:FuncId->Option (bx X)} {am:TypeId->Option (CT X.ι)} {P:Program}
theorem aoO(hT : eY P T)(hm : P.follows .mixedOrders = true)(hΓ : sC P Γ){f : FuncId}{fn : Func}{c : Code}(hfn : P.funcs[f]? = some fn)(hb : fn.body = some c)(hname : (fn.name == "runtime.NumGoroutine") = false)(sa : List (AT X.ι))(sr : List (RT X.ι))(hN : sa.length <= fn.ntmps /\ p8 sa <= 1000 /\ (sr.filter RT.out).length = p8 sa)
 (h:Hn X.ι) (n:Nat) {a:iF X sa} {r:sD X sr} (hr:run Γ T am fn.ntmps n c (sD X sr) h (xa sa a) (aoN T fn.results.toList sr)=some r):qn P f (vV sa a) (pX sa a) (nN sr r) (sK sr r):=by
 have hl:(nN sr r).length=(pX sa a).length:=by
  rw[kX,<- hN.2.2];have:∀(sr:List (RT X.ι))(r:sD X sr),(nN sr r).length=(sr.filter RT.out).length:=by
   intro sr
   induction sr with
   |nil=>intro r;rfl
   |cons q l ih=>
    intro r;have hq:∀x:RT.T X q,(pY q x).length=(if q.out then 1 else 0):=λx=>G8.1;cases l with
    |nil=>
     show(pY q r).length=_;rw[hq];by_cases e:q.out=true<;>simp[e]
    |cons q' l=>
     show(pY q r.1++nN (q'::l) r.2).length=_;rw[dJ,hq,ih r.2];by_cases e:q.out=true<;>simp[List.filter_cons,e];omega
  exact this sr r
 refine aix hT hfn hb hname (by rw[kW];exact hN.1) (λ k hk=>?_) (by rw[kX];exact hN.2.1) hl ?_
 ·rw[vV,<- rQ,gY]at hk;have:=oL 0 sa a k hk;have:=hN.2.1;omega
 ·rw[<- aof];refine(kJ hT hm hΓ c _ h _ _ r (amG sa a hN.2.1) hr).mono ?_;rintro e σ ⟨s',_,_,rfl,g4⟩;cases e<;>first |exact akJ g4 |cases g4
theorem mV{f : FuncId}{fn : Func}{c : Code}(hfn : P.funcs[f]? = some fn)(hb : fn.body = some c)(hname : (fn.name == "runtime.NumGoroutine") = false): eO P f := ⟨fn, hfn, by rw [hb]; rfl, hname⟩
abbrev AE(P:Program)(f:FuncId)(s:bx X):Prop:=eO P f/\(∀ a r,s.fn a=some r->qn P f (vV s.args a) (pX s.args a) (nN s.res r) (sK s.res r))/\∀g,s.gen=some g->FG P f g
theorem zp{P:Program}{f:FuncId}{s:bx X}(h:eO P f)(h1:∀a r,s.fn a=some r->qn P f (vV s.args a) (pX s.args a) (nN s.res r) (sK s.res r))(hg:s.gen=none):AE P f s:=⟨h,h1,λg e=>by rw[hg]at e;cases e⟩
theorem Mp{P:Program}{f:FuncId}{g:cX X}(h:eO P f)(hg:FG P f g):AE P f ⟨[],[.d .bool],λ_=>none,some g⟩:=⟨h,λ_ _ e=>(by cases e),λ_ e=>(by cases e;exact hg)⟩
def oX(s t:bx X):bx X:=⟨s.args,s.res,s.fn,t.gen⟩
def xl(l:List (FuncId×bx X)):FuncId->Option (bx X):=λf=>lk l f
theorem aB:sC P (xl ([]:List (FuncId×bx X))):=λ_ _ h=>by cases h
theorem au{f:FuncId}{s:bx X}{l:List (FuncId×bx X)}(h:AE P f s)(hl:sC P (xl l)):sC P (xl ((f,s)::l)):=by
 intro g q hg;simp only[xl,lk]at hg;split at hg
 ·rename_i e;cases hg;subst e;exact h
 ·exact hl g q hg
end
end Go.Gb
