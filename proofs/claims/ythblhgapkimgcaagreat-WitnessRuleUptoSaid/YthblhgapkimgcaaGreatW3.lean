import Derived.Test.YthblhgapkimgcaaGreatW2
open List (mem_map all_eq_true cons_append length_map append_nil map_map map_congr_left flatten_cons map_nil all_cons map_take map_drop map_append mem_append_right)
namespace Go.Gb
open Go.RowKit
section
variable {X:SX} {A:Type}
theorem Z3:∀(l:List (CT X.ι))(v:VT (X:=X) l),(vY l v).map (·.c)=l
 |[],_=>rfl
 |[_],_=>rfl
 |c::c'::l,v=>by simp only[vY,aF,Z3 (c'::l) v.2]
theorem PI:∀{l:List Tree},(∀ t∈l,t.flat)->pE (l.map AV.t)
 |[],_=>trivial
 |t::l,h=>⟨h t (by simp),PI (λ u hu=>h u (by simp[hu]))⟩
theorem abp{c:CT X.ι}(h:xu c=true)(x:CT.T X.toSE c):uS (CT.tv X.toSE c x).av:=by
 have hf:=uW h x;cases c
 case st i=>exact PI hf
 all_goals first |exact hf _ (aW.2 rfl) |cases h
section
variable {ol:Nat->Nat}
mutual
theorem amK:∀(p:Pt X.ι)(L:List (DC X))(cs:List (CT X.ι)),L.map (·.c)=p.vars++cs->p.vars.all xu=true->uS (den (eP ol p L).1)/\(eP ol p L).2.map (·.c)=cs
 | .v c,L,cs,h,hs=>by
  match L,h with
  |d::r,h=>
   simp only[Pt.vars,aF,List.singleton_append,List.cons.injEq]at h;simp only[Pt.vars,all_cons,List.all_nil,Bool.and_true]at hs;exact⟨abp (h.1 ▸ hs) d.x,h.2⟩
  |[],h=>simp[Pt.vars]at h
 | .o k,L,cs,h,_=>⟨trivial,by simpa[Pt.vars,eP]using h⟩
 | .p k,L,cs,h,_=>⟨trivial,by simpa[Pt.vars,eP]using h⟩
 | .mp k,L,cs,h,_=>⟨trivial,by simpa[Pt.vars,eP]using h⟩
 | .oz k,L,cs,h,_=>⟨trivial,by simpa[Pt.vars,eP]using h⟩
 | .nil,L,cs,h,_=>⟨trivial,by simpa[Pt.vars,eP]using h⟩
 | .od k,L,cs,h,_=>by
  match L,h with
  |d::r,h=>
   simp only[Pt.vars,aF,List.singleton_append,List.cons.injEq]at h;exact⟨trivial,h.2⟩
  |[],h=>simp[Pt.vars]at h
 | .f F fs ps,L,cs,h,hs=>by
  simp only[Pt.vars,List.all_append,aK]at hs;simp only[Pt.vars,aM]at h;obtain⟨a1,a2⟩:=Cv fs L _ h hs.1;obtain⟨b1,b2⟩:=Cv ps _ _ a2 hs.2;exact⟨⟨a1,b1⟩,b2⟩
 | .a ps,L,cs,h,hs=>by
  simp only[Pt.vars]at h hs;exact Cv ps L cs h hs
theorem Cv:∀(ps:List (Pt X.ι))(L:List (DC X))(cs:List (CT X.ι)),L.map (·.c)=cP ps++cs->(cP ps).all xu=true->pE (bP (lh ol ps L).1)/\(lh ol ps L).2.map (·.c)=cs
 |[],L,cs,h,_=>⟨trivial,by simpa[cP,lh]using h⟩
 |p::ps,L,cs,h,hs=>by
  simp only[cP,List.all_append,aK]at hs;simp only[cP,aM]at h;obtain⟨a1,a2⟩:=amK p L _ h hs.1;obtain⟨b1,b2⟩:=Cv ps _ _ a2 hs.2;exact⟨⟨a1,b1⟩,b2⟩
end
mutual
theorem amL:∀(p:Pt X.ι)(L:List (DC X)),∀j∈bk (eP ol p L).1,j∈p.refs
 | .v c,L,j,h=>by cases L<;>simp[eP,bk]at h
 | .o k,L,j,h=>by simpa[eP,bk,Pt.refs]using h
 | .p k,L,j,h=>by simpa[eP,bk,Pt.refs]using h
 | .mp k,L,j,h=>by simpa[eP,bk,Pt.refs]using h
 | .oz k,L,j,h=>by simpa[eP,bk,Pt.refs]using h
 | .nil,L,j,h=>by simp[eP,bk]at h
 | .od k,L,j,h=>by cases L<;>simp[eP,bk]at h<;>simp[Pt.refs,h]
 | .f F fs ps,L,j,h=>by
  simp only[eP,bk,bf]at h;simp only[Pt.refs,bf];exact h.imp (yL fs _ j) (yL ps _ j)
 | .a ps,L,j,h=>by
  simp only[eP,bk]at h;simp only[Pt.refs];exact yL ps _ j h
theorem yL:∀(ps:List (Pt X.ι))(L:List (DC X)),∀j∈aP (lh ol ps L).1,j∈AZ ps
 |[],L,j,h=>by simp[lh,aP]at h
 |p::ps,L,j,h=>by
  simp only[lh,aP,bf]at h;simp only[AZ,bf];exact h.imp (amL p _ j) (yL ps _ j)
end
theorem KS:∀(rs:List (List (Pt X.ι)))(L:List (DC X))(cs:List (CT X.ι)),L.map (·.c)=vX rs++cs->(vZ ol rs L).2.map (·.c)=cs/\((vX rs).all xu=true->∀r∈(vZ ol rs L).1,pE (bP r))
 |[],L,cs,h=>⟨by simpa[vX,vZ]using h,by simp[vZ]⟩
 |r::rs,L,cs,h=>by
  simp only[vX,aM]at h;have step:(lh ol r L).2.map (·.c)=vX rs++cs:=tS r L _ h;obtain⟨b1,b2⟩:=KS rs _ _ step;refine⟨b1,λhs q hq=>?_⟩;simp only[vX,List.all_append,aK]at hs;simp only[vZ,aN]at hq;rcases hq with rfl |hq
  ·exact(Cv r L _ h hs.1).1
  ·exact b2 hs.2 q hq
where
 tS (ps:List (Pt X.ι)) (L:List (DC X)) (cs:List (CT X.ι)) (h:L.map (·.c)=cP ps++cs):(lh ol ps L).2.map (·.c)=cs:=pm ps L cs h
 C3:∀(p:Pt X.ι)(L:List (DC X))(cs:List (CT X.ι)),L.map (·.c)=p.vars++cs->(eP ol p L).2.map (·.c)=cs
  | .v c,L,cs,h=>by
   match L,h with
   |d::r,h=>simp only[Pt.vars,aF,List.singleton_append,List.cons.injEq]at h;exact h.2
   |[],h=>simp[Pt.vars]at h
  | .o k,L,cs,h=>by simpa[Pt.vars,eP]using h
  | .p k,L,cs,h=>by simpa[Pt.vars,eP]using h
  | .mp k,L,cs,h=>by simpa[Pt.vars,eP]using h
  | .oz k,L,cs,h=>by simpa[Pt.vars,eP]using h
  | .nil,L,cs,h=>by simpa[Pt.vars,eP]using h
  | .od k,L,cs,h=>by
   match L,h with
   |d::r,h=>simp only[Pt.vars,aF,List.singleton_append,List.cons.injEq]at h;exact h.2
   |[],h=>simp[Pt.vars]at h
  | .f F fs ps,L,cs,h=>by
   simp only[Pt.vars,aM]at h;exact pm ps _ _ (pm fs L _ h)
  | .a ps,L,cs,h=>by
   simp only[Pt.vars]at h;exact pm ps L cs h
 pm:∀(ps:List (Pt X.ι))(L:List (DC X))(cs:List (CT X.ι)),L.map (·.c)=cP ps++cs->(lh ol ps L).2.map (·.c)=cs
  |[],L,cs,h=>by simpa[cP,lh]using h
  |p::ps,L,cs,h=>by
   simp only[cP,aM]at h;exact pm ps _ _ (C3 p L _ h)
theorem VW:∀(rs:List (List (Pt X.ι)))(L:List (DC X)),∀j∈((vZ ol rs L).1.map aP).flatten,j∈rs.flatMap AZ
 |[],L,j,h=>by simp[vZ]at h
 |r::rs,L,j,h=>by
  simp only[vZ,aF,flatten_cons,bf]at h;simp only[List.flatMap_cons,bf];exact h.imp (yL r _ j) (VW rs _ j)
theorem yM:∀(O:List (Nat×OP X.ι))(L:List (DC X)),((dF (dn ol O L)).map (·.1)).Sublist (O.map (·.1))/\(∀ p∈dF (dn ol O L),∃op,(p.1,op)∈O/\∀j∈d5 p.2,j∈op.refs)/\
 (L.map (·.c)=cH O->(O.all λq=>match q.2 with | .l c=>xu c | .m _ _=>false | .c _ rows=>(vX rows).all xu)=true->∀p∈dF (dn ol O L),∀r∈(bI p.2).rows,pE r)
 |[],L=>⟨by simp[dn,dF],by simp[dn,dF],by simp[dn,dF]⟩
 |(k,.l c)::O,L=>by
  match L with
  |[]=>exact⟨by simp[dn,dF],by simp[dn,dF],by simp[dn,dF]⟩
  |⟨.sl c',x⟩::L=>
   have⟨h1,h2,h3⟩:=yM O L;refine⟨?_,?_,?_⟩
   ·simp only[dn,dF,aF];exact h1.cons_cons _
   ·intro p hp;simp only[dn,dF,aN]at hp;rcases hp with rfl |hp
    ·exact⟨.l c,by simp,by simp[d5]⟩
    ·have⟨op,g1,g2⟩:=h2 p hp;exact⟨op,eG _ g1,g2⟩
   ·intro hL hs p hp r hr;simp only[aF,cH,List.cons.injEq]at hL;simp only[all_cons,aK]at hs;simp only[dn,dF,aN]at hp;rcases hp with rfl |hp
    ·obtain⟨e,_⟩:=hL;injection e with e;simp only[bI,aI,mem_map]at hr;obtain⟨q,⟨y,hy,rfl⟩,rfl⟩:=hr;exact PI (uW (e ▸ hs.1) y)
    ·exact h3 hL.2 hs.2 p hp r hr
  |⟨.int _,x⟩::L=>exact⟨by simp[dn,dF],by simp[dn,dF],by simp[dn,dF]⟩
  |⟨.bool,x⟩::L=>exact⟨by simp[dn,dF],by simp[dn,dF],by simp[dn,dF]⟩
  |⟨.str,x⟩::L=>exact⟨by simp[dn,dF],by simp[dn,dF],by simp[dn,dF]⟩
  |⟨.any,x⟩::L=>exact⟨by simp[dn,dF],by simp[dn,dF],by simp[dn,dF]⟩
  |⟨.mp _ _,x⟩::L=>exact⟨by simp[dn,dF],by simp[dn,dF],by simp[dn,dF]⟩
  |⟨.st _,x⟩::L=>exact⟨by simp[dn,dF],by simp[dn,dF],by simp[dn,dF]⟩
 |(k,.m kc vc)::O,L=>by
  match L with
  |[]=>exact⟨by simp[dn,dF],by simp[dn,dF],by simp[dn,dF]⟩
  |⟨.mp tM tD,x⟩::L=>
   have⟨h1,h2,h3⟩:=yM O L;refine⟨?_,?_,?_⟩
   ·simp only[dn,dF,aF];exact h1.cons_cons _
   ·intro p hp;simp only[dn,dF,aN]at hp;rcases hp with rfl |hp
    ·exact⟨.m kc vc,by simp,by simp[d5]⟩
    ·have⟨op,g1,g2⟩:=h2 p hp;exact⟨op,eG _ g1,g2⟩
   ·intro hL hs;simp at hs
  |⟨.sl _,x⟩::L=>exact⟨by simp[dn,dF],by simp[dn,dF],by simp[dn,dF]⟩
  |⟨.int _,x⟩::L=>exact⟨by simp[dn,dF],by simp[dn,dF],by simp[dn,dF]⟩
  |⟨.bool,x⟩::L=>exact⟨by simp[dn,dF],by simp[dn,dF],by simp[dn,dF]⟩
  |⟨.str,x⟩::L=>exact⟨by simp[dn,dF],by simp[dn,dF],by simp[dn,dF]⟩
  |⟨.any,x⟩::L=>exact⟨by simp[dn,dF],by simp[dn,dF],by simp[dn,dF]⟩
  |⟨.st _,x⟩::L=>exact⟨by simp[dn,dF],by simp[dn,dF],by simp[dn,dF]⟩
 |(k,.c sz rows)::O,L=>by
  have⟨h1,h2,h3⟩:=yM O (vZ ol rows L).2;refine⟨?_,?_,?_⟩
  ·simp only[dn,dF,aF];exact h1.cons_cons _
  ·intro p hp;simp only[dn,dF,aN]at hp;rcases hp with rfl |hp
   ·exact⟨.c sz rows,by simp,λj hj=>VW rows L j hj⟩
   ·have⟨op,g1,g2⟩:=h2 p hp;exact⟨op,eG _ g1,g2⟩
  ·intro hL hs p hp r hr;simp only[cH]at hL;simp only[all_cons,aK]at hs;obtain⟨e1,e2⟩:=KS (ol:=ol) rows L _ hL;simp only[dn,dF,aN]at hp;rcases hp with rfl |hp
   ·simp only[bI,mem_map]at hr;obtain⟨q,hq,rfl⟩:=hr;exact e2 hs.1 q hq
   ·exact h3 e1 hs.2 p hp r hr
end
theorem PK(k:Nat):∀os:List (Nat×bm X),nw (sU os) k=(tt os k).map bI
 |[]=>rfl
 |(j,o)::r=>by
  simp only[sU,aF,nw,tt];split
  ·rfl
  ·exact PK k r
theorem VX(f:Nat->Nat)(c:CT X.ι)(x:CT.T X.toSE c):fX f (CT.tv X.toSE c x).av=(CT.tv X.toSE c x).av:=(zZ f (.c c x)).symm
theorem adt(f:Nat->Nat)(o:bm X):bI (oR f o)=JQ f (bI o):=by
 cases o with
 |cells sz rows=>simp only[oR,bI,JQ,map_map];congr 1;exact map_congr_left λr _=>Ct f r
 |d8 c l=>simp only[oR,bI,JQ,aI,map_map];congr 1;exact map_congr_left λr _=>(XX f _).symm
 |map kc vc l=>simp only[oR,bI,JQ,map_map];congr 1;exact map_congr_left λr _=>by simp only[Function.comp_apply,zF,VX]
theorem aiZ(i:Nat)(ae:List Nat)(os:List (Nat×bm X)):iy (Nm i ae os)=xF i ae (sU os):=by
 simp only[Nm,xF,rY];congr 1
 ·simp only[iy,map_map];refine map_congr_left λp _=>?_;simp only[Function.comp_apply,PK,Option.map_map];congr 1;cases tt os p.2<;>simp[adt]
 ·simp only[iy,sU,List.filter_map,map_map];refine map_congr_left λq _=>?_;simp[adt]
theorem VY{ds:List (DV X)}:(∀ j∈refs (den (yJ ds)),j∈aP ds)/\(pE (bP ds)->uS (den (yJ ds))):=by
 match ds with
 |[]=>exact⟨λ j hj=>by simp[yJ,den,bP,refs,eT]at hj,λ_=>by simp only[yJ,den,uS];exact trivial⟩
 |[d]=>exact⟨λ j hj=>by simp only[yJ,iO]at hj;simpa[aP]using hj,λh=>h.1⟩
 |d::e::r=>exact⟨λ j hj=>by simp only[yJ,den,refs,gZ]at hj;exact hj,λh=>h⟩
theorem ZW:∀xs:List (Nat×bm X),dF (xs.map λp=>(p.1,some p.2))=xs
 |[]=>rfl
 |p::xs=>by simp only[aF,dF,ZW xs]
theorem abq{P:Program}{g:cX X}{F:FuncId}(hg:Fi P F g){i:Nat}{first args caps:List (DV X)}{get:Nat->Option (bm X)}{k:KK X A}{r:A}(h:af0 g i (first++args++caps) get k=some r):
 ∃cx rd wr dv upd ab,j3 P i (den (.fn F first caps)) (bP args) cx (dI rd (fu get))=some ab/\jq ab.obs/\ab.v=den dv/\ab.upd=iy upd/\(∀ p∈upd,p.1=cJ i\/p.1∈wr)/\k dv upd rd wr=some r:=by
 unfold af0 at h;rw[ai]at h;obtain⟨m1,h1,h⟩:=h;rw[ai]at h;obtain⟨m,h2,h⟩:=h;have⟨h3,h⟩:=dZ h;rw[ai]at h;obtain⟨v,h4,h⟩:=h;have⟨h5,h⟩:=pF h;rw[ai]at h;obtain⟨rr,h6,h⟩:=h;simp only[aK]at h3;obtain⟨hok,A0⟩:=h3;simp only at h;generalize kq:(List.range g.iz.length).map (qu m)=ae at h A0;simp only[cX.ok,aK,aS]at hok;obtain⟨⟨⟨⟨n1,n2⟩,n3⟩,n4⟩,n5⟩:=hok;simp only[okG,aK,aS]at A0;obtain⟨⟨hnd,hnm⟩,AN⟩:=A0;have hlen:ae.length=g.iz.length:=by rw[<- kq];simp
 have hi:∀q∈m.nm,ae[q.2]? =some q.1:=by
  intro q hq;have:=all_eq_true.1 hnm q hq;split at this
  ·rename_i k' e;rw[e,Nat.eq_of_beq_eq_true this]
  ·cases this
 have hv:∀k∈m.vr,k∉ae:=λk hk=>by
  have:=all_eq_true.1 AN k hk;simpa using this
 have hrd:∀k,(∃ q,(k,q)∈m.nm)\/k∈m.vr->k∈ae++m.vr:=by
  rintro k (⟨q,hq⟩ |hk)
  ·exact List.mem_append_left _ (dm (hi _ hq))
  ·exact mem_append_right _ hk
 have hm2:=(lZ _ _ _ h2).1;have vl:=VE h4;obtain⟨_,nA,dA,lA⟩:=wo _ _ _ _ h1;simp only[bR]at dA;obtain⟨nB,dB,lB⟩:=DX (NM:=m.nm) _ _ _ h2 (λ q hq=>hq);have hL:m.ey=nA++nB:=by rw[dB,dA]
 have hdrop:(vY _ v).drop (cP g.py).length=nB:=by rw[vl,hL,<- lA,List.drop_left]
 have htake:(vY _ v).take (cP g.py).length=nA:=by rw[vl,hL,<- lA,List.take_left]
 have ho:∀q∈m.nm,∀c l,get q.1=some (.d8 c l)->DT g.iz nB q.2=l.length:=by
  rintro⟨p,q⟩ hq c l hl;have hq2:=hi _ hq;have hqn:q<g.iz.length:=by rw[<- hlen];exact(dD.1 hq2).1
  obtain⟨p',o,g1,g2,g3⟩:=lB [] q (by rw[n1];exact List.mem_range.2 hqn);have:p'=p:=by
   have e1:=hi _ g1;rw[hq2]at e1;injection e1 with e1;exact e1.symm
  subst this;simp only at hl;rw[hl]at g2;injection g2 with g2;have h3:=g3 c l g2.symm;rw[append_nil]at h3;have hk:=(DY g.iz nB).nodup (by rw[n1];exact List.nodup_range);simp only[DT,uU hk h3,Option.getD_some]
 obtain⟨P0,If,ds',eA,⟨hs,obs,pA,qA⟩,rA⟩:=yw (P:=P) (ae:=ae) (rd:=ae++m.vr) (NM:=m.nm) (pN:=m.vr) (dt:=DT g.iz nB) hi hv hrd ho _ _ _ _ h1 (λ q hq=>hm2.1 q hq) (λ c hc=>h5 c (hm2.2.1 c hc)) (λ q hq=>hm2.2.2 q hq);obtain⟨PT,T7,xs,eB,bs,mo,pB,qB,rB⟩:=z8 (P:=P) (ae:=ae) (rd:=ae++m.vr) (NM:=m.nm) (pN:=m.vr) (dt:=DT g.iz nB) hi hv hrd ho _ _ _ h2 (λ q hq=>hq) h5 (λ q hq=>hq);have T4:P0=nA:=by simp only[bR]at If;rw[<- If,dA]
 have T3:PT=nB:=List.append_cancel_left (T7.symm.trans dB);subst T4 T3;have H4:=eA [];have H3:=eB [];rw[append_nil]at H4 H3;have hargs:g.args v=ds':=by simp only[cX.args,VG,hdrop,htake,H4]
 have th:g.cE v=xs:=by simp only[cX.cE,Kf,hdrop,H3,ZW]
 have Ss:(g.iz.map λp=>(ae[p.1]?).getD 0)=ae:=by
  have:(g.iz.map λp=>(ae[p.1]?).getD 0)=(g.iz.map (·.1)).map λj=>(ae[j]?).getD 0:=by rw[map_map];rfl
  rw[this,n1];refine List.ext_getElem (by simp[hlen]) λj a b=>?_;simp[dJ b]
 rw[Ss]at qB rB;have qA0:=qA [];rw[append_nil,iC,iC]at qA0;have hcon:=hg v rr h6;rw[hargs,th]at hcon;obtain⟨s1,s2,s3⟩:=yM (ol:=DT g.ix ((vY (gO (lj 0 g.fx)++cH g.ix) rr).drop (cP g.fx).length)) g.ix ((vY _ rr).drop (cP g.fx).length);have AF:∀k,Hb g.iz.length k=true->z6 ae.length k:=by
  intro k hk;simp only[Hb,Bool.or_eq_true,aK,Nat.blt_eq,Nat.ble_eq]at hk;simp only[z6,hlen];exact hk
 have good:ZA ae.length (sU (g.outs rr)) (den (g.res rr)):=by
  refine⟨?_,?_,?_,?_⟩
  ·intro q hq;simp only[sU,mem_map]at hq;obtain⟨p,hp,rfl⟩:=hq;have⟨op,g1,_⟩:=s2 p hp;have:=all_eq_true.1 n3 _ g1;simp only[aK]at this;exact AF _ this.1
  ·have:(sU (g.outs rr)).map (·.1)=(g.outs rr).map (·.1):=(by simp[sU]);rw[this];exact s1.nodup n4
  ·intro q hq r' hr' j hj;simp only[sU,mem_map]at hq;obtain⟨p,hp,rfl⟩:=hq;have⟨op,g1,g2⟩:=s2 p hp;have:=all_eq_true.1 n3 _ g1;simp only[aK]at this;refine AF _ (all_eq_true.1 this.2 j (g2 j ?_));obtain⟨pk,po⟩:=p;cases po with
   |cells sz rows=>exact MR (List.mem_flatMap.2 ⟨r',hr',hj⟩)
   |d8 c l=>
    simp only[bI,aI,mem_map]at hr';obtain⟨z,_,rfl⟩:=hr';rw[abo]at hj;simp at hj
   |map kc vc l=>
    simp only[bI,mem_map]at hr';obtain⟨z,_,rfl⟩:=hr';simp only[eT,zX,append_nil]at hj;simp at hj
  ·intro j hj;have:=(VY (ds:=VG g.fx g.ix (vY _ rr))).1 j hj;exact AF _ (all_eq_true.1 n5 j (yL g.fx _ j this))
 have flat:g.flat=true->nb (sU (g.outs rr)) (den (g.res rr)):=by
  intro hf;simp only[cX.flat,aK]at hf;have hc:(vY (gO (lj 0 g.fx)++cH g.ix) rr).map (·.c)=cP g.fx++cH g.ix:=(Z3 _ rr).trans (by rw[PD]);refine⟨(VY (ds:=VG g.fx g.ix (vY _ rr))).2 ?_,?_⟩
  ·refine(Cv (ol:=_) g.fx _ [] ?_ hf.1).1;rw[append_nil,map_take,hc,List.take_left]
  ·intro q hq r' hr';simp only[sU,mem_map]at hq;obtain⟨p,hp,rfl⟩:=hq;exact s3 (by rw[map_drop,hc,List.drop_left]) hf.2 p hp r' hr'
 have cT:Vf (dI (ae++m.vr) (fu get)) (bP first++bP args++bP caps) ae m.vr bs:=by
  refine⟨hv,λj hj hn=>?_,λj hs' q o e1 e2 e3 z hz hn=>?_⟩
  ·rw[<- iC,<- iC,gZ]at hj;rcases rA j hj with ⟨q,hq⟩ |hj
   ·exact absurd (dm (hi _ hq)) hn
   ·exact hj
  ·rcases rB j hs' q o e1 e2 e3 z hz with ⟨q',hq⟩ |hz
   ·exact absurd (dm (hi _ hq)) hn
   ·exact hz
 refine⟨.tz ae m.vr bs hs (sU (g.outs rr)) (den (g.res rr)) g.flat,ae++m.vr,_,_,_,
  ⟨fX (cn i ae) (den (g.res rr)),xF i ae (sU (g.outs rr))++(if g.flat then []else m.vr.map λk=>(k,none)),obs++mo++[ye P F (bP ds') (xs.map λp=>bI p.2) (sU (g.outs rr)) (den (g.res rr)),ZA ae.length (sU (g.outs rr)) (den (g.res rr)),Vf (dI (ae++m.vr) (fu get)) (bP first++bP args++bP caps) ae m.vr bs]++(if g.flat then [nb (sU (g.outs rr)) (den (g.res rr))]else [])⟩,?_,?_,(zZ _ _).symm,?_,?_,h⟩
 ·simp only[den,j3,Mr,qB,qA0,af];rw[aX ⟨hnd,by omega⟩]
 ·refine qR _ (gM (gM (gM pA pB) ?_) ?_)
  ·intro z hz;simp only[aN,fq,or_false]at hz;rcases hz with rfl |rfl |rfl
   ·exact hcon
   ·exact good
   ·exact cT
  ·intro z hz;cases hf:g.flat with
   |true=>rw[hf]at hz;simp only[if_true,aW]at hz;subst hz;exact flat hf
   |false=>rw[hf]at hz;simp at hz
 ·simp only[rY,aiZ];congr 1;cases g.flat with
  |true=>rfl
  |false=>exact(Cr m.vr).symm
 ·intro p hp;refine .inr ?_;rcases bf.1 hp with hp |hp
  ·exact List.mem_append_left _ (mem_append_right _ (mem_map.2 ⟨p,hp,rfl⟩))
  ·cases hf:g.flat with
   |true=>rw[hf]at hp;simp at hp
   |false=>
    rw[hf]at hp;simp only[Bool.false_eq_true,if_false,mem_map]at hp;obtain⟨z,hz,rfl⟩:=hp;exact mem_append_right _ hz
end
section
variable {X:SX} {A:Type}
def VZ:RT X.ι->Bool
 | .d c=>xu c
 | .fresh e=>xu e
 | .whole _=>true
 | .mu c=>xu c
 | .mr c=>xu c
 | .mv=>true
theorem adu{c:CT X.ι}(h:xu c=true)(x:CT.T X.toSE c):(CT.tv X.toSE c x).flat:=by
 cases c
 case st i=>exact uW h x
 all_goals first |exact trivial |cases h
theorem V3{ns:List Nat}{q:RT X.ι}{x:RT.T X q}(h:VZ q=true):∀c∈VH ns q x,c.flat:=by
 intro c hc;cases q<;>simp only[VH,aW,fq]at hc
 case d c=>subst hc;exact adu h x
 case fresh e=>
  subst hc;intro row hr;obtain⟨y,_,rfl⟩:=mem_map.1 hr;exact uW h y
 case whole j=>subst hc;exact trivial
theorem Rw{ns:List Nat}:∀{l:List (RT X.ι)}{x:sN X l},l.all VZ=true->∀c∈AY ns l x,c.flat
 |[],x,_,c,hc=>by simp[AY]at hc
 |[q],x,h,c,hc=>V3 (by simpa using h) c hc
 |q::q'::l,x,h,c,hc=>by
  simp only[all_cons,aK]at h;simp only[AY,bf]at hc;rcases hc with hc |hc
  ·exact V3 h.1 c hc
  ·exact Rw (by simp only[all_cons,aK];exact h.2) c hc
theorem V4{l:List (RT X.ι)}(x:sN X l)(h:l.all VZ=true):(sV l x).flat:=by
 have:=Rw (ns:=xr l x) (x:=x) h;unfold sV;split
 ·rename_i c hc;exact this c (by rw[hc];simp)
 ·exact this
theorem ZX{q:RT X.ι}{x:RT.T X q}(h:VZ q=true):U1 (qf q x):=by
 intro p hp;cases q<;>simp only[qf,aW,fq,aA,reduceCtorEq]at hp
 case mu c=>
  subst hp;intro r hr;obtain⟨y,_,rfl⟩:=mem_map.1 hr;exact uW h y
 case mr c=>
  subst hp;intro r hr;obtain⟨y,_,rfl⟩:=mem_map.1 hr;exact uW h y
theorem ZY:∀{l:List (RT X.ι)}{x:sN X l},l.all VZ=true->U1 (nR l x)
 |[],x,_=>λp hp=>by simp[nR]at hp
 |[q],x,h=>ZX (q:=q) (by simpa using h)
 |q::q'::l,x,h=>by
  simp only[all_cons,aK]at h;intro p hp;rcases bf.1 (show some p∈qf q x.1++nR (q'::l) x.2 from hp)with hp |hp
  ·exact ZX h.1 p hp
  ·exact ZY (l:=q'::l) (by simp only[all_cons,aK];exact h.2) p hp
def Hf(i:Nat)(ae ns:List Nat):(q:RT X.ι)->RT.T X q->List (DV X)×List (Nat×Option (bm X))
 | .d c,x=>([.c c x],[])
 | .fresh e,l=>([.own (cJ i) 0 l.length],[(cJ i,some (.d8 e l))])
 | .whole j,_=>([match ae[j]? with |some k=> .own k 0 (ns.getD j 0) |none=> .undef],[])
 |_,_=>([],[])
def Kv(i:Nat)(ae ns:List Nat):(l:List (RT X.ι))->sN X l->Option (List (DV X)×List (Nat×Option (bm X)))
 |[],_=>some ([],[])
 |[q],x=>some (Hf i ae ns q x)
 |q::q'::l,x=>(Kv i ae ns (q'::l) x.2).bind λp=>if (Hf i ae ns q x.1).2.isEmpty || p.2.isEmpty then some ((Hf i ae ns q x.1).1++p.1,(Hf i ae ns q x.1).2++p.2)else none
def aoV:List (DV X)->DV X
 |[d]=>d
 |ds=> .ez ds
def FG(i:Nat)(ae:List Nat)(l:List (RT X.ι))(x:sN X l):Option (DV X×List (Nat×Option (bm X))):=
 (Kv i ae (xr l x) l x).bind λp=>some (aoV p.1,p.2)
theorem abr(u:List (Nat×Option (bm X))):(iy u).isEmpty=u.isEmpty:=by cases u<;>rfl
theorem Z0(i:Nat)(ae ns:List Nat)(q:RT X.ι)(x:RT.T X q):(∃ c,VH ns q x=[c]/\∃d,(Hf i ae ns q x).1=[d]/\JP i ae c=(den d,iy (Hf i ae ns q x).2))\/(VH ns q x=[]/\Hf i ae ns q x=([],[])):=by
 cases q
 case d c=>exact .inl ⟨_,rfl,_,rfl,rfl⟩
 case fresh e=>exact .inl ⟨_,rfl,_,rfl,by simp[JP,Hf,den,iy,bI,aI]⟩
 case whole j=>
  refine .inl ⟨_,rfl,_,rfl,?_⟩;simp only[JP,iy,Hf,map_nil,Prod.mk.injEq,and_true];cases ae[j]?<;>rfl
 all_goals exact .inr ⟨rfl,rfl⟩
theorem adv(i:Nat)(ae:List Nat)(c:RC):Mf i ae [c]=some ([(JP i ae c).1],(JP i ae c).2):=by simp[Mf]
theorem Z4(i:Nat)(ae ns:List Nat):∀(l:List (RT X.ι))(x:sN X l)(p:List (DV X)×List (Nat×Option (bm X))),Kv i ae ns l x=some p->Mf i ae (AY ns l x)=some (bP p.1,iy p.2)
 |[],_,p,h=>by simp only[Kv,aA]at h;subst h;rfl
 |[q],x,p,h=>by
  simp only[Kv,aA]at h;subst h;simp only[AY];rcases Z0 i ae ns q x with ⟨c,h1,d,h2,h3⟩ |⟨h1,h2⟩
  ·rw[h1,adv,h2,h3];simp[bP]
  ·rw[h1,h2];rfl
 |q::q'::l,x,p,h=>by
  simp only[Kv]at h;rw[ai]at h;obtain⟨p',h1,h⟩:=h;have ih:=Z4 i ae ns (q'::l) x.2 p' h1;split at h
  ·rename_i hc;cases h;simp only[AY];rcases Z0 i ae ns q x.1 with ⟨c,h1,d,h2,h3⟩ |⟨h1,h2⟩
   ·rw[h1];simp only[List.singleton_append,Mf,ih,af,h3,abr];rw[aX hc,h2];simp[bP,iy]
   ·rw[h1,h2];simp only[bR];exact ih
  ·cases h
theorem adw{i:Nat}{ae:List Nat}{l:List (RT X.ι)}{x:sN X l}{p:DV X×List (Nat×Option (bm X))}(h:FG i ae l x=some p):imp i ae (sV l x)=some (den p.1,iy p.2):=by
 unfold FG at h;rw[ai]at h;obtain⟨p',h1,h⟩:=h;cases h;have ih:=Z4 i ae _ l x p' h1;unfold sV;split
 ·rename_i c hc;rw[hc,adv]at ih;simp only[aA,Prod.mk.injEq]at ih;obtain⟨ds,u⟩:=p'
  match ds,ih with
  |[d],ih=>
   simp only[bP,List.cons.injEq,and_true]at ih;simp only[imp,aoV,<- ih.1,<- ih.2]
  |[],ih=>simp[bP]at ih
  |_::_::_,ih=>simp[bP]at ih
 ·rename_i hne;simp only[imp,ih,af];obtain⟨ds,u⟩:=p'
  match ds,ih with
  |[],_=>rfl
  |_::_::_,_=>rfl
  |[d],ih=>
   exfalso;generalize hcs:AY (xr l x) l x=cs at ih hne
   match cs,ih,hne with
   |[],ih,_=>simp[Mf,bP]at ih
   |[c],_,hne=>exact hne c rfl
   |c::c'::cs,ih,_=>
    simp only[Mf]at ih;cases h3:Mf i ae cs with
    |none=>rw[h3]at ih;simp at ih
    |some q=>
     rw[h3]at ih;simp only[af]at ih;split at ih
     ·simp only[af]at ih;split at ih
      ·simp[bP]at ih
      ·cases ih
     ·simp at ih
def L7:(q:RT X.ι)->RT.T X q->List (Option (bm X))
 | .mu c,x=>[some (.d8 c x)]
 | .mr c,x=>[some (.cells (CT.sz X c) [uV c x])]
 | .mv,_=>[none]
 |_,_=>[]
def V5:(l:List (RT X.ι))->sN X l->List (Option (bm X))
 |[],_=>[]
 |[q],x=>L7 q x
 |q::q'::l,x=>L7 q x.1++V5 (q'::l) x.2
def Hg:List Nat->List (Option (bm X))->List (Nat×Option (bm X))
 |k::ae,p::os=>(k,p)::Hg ae os
 |_,_=>[]
theorem adx(q:RT X.ι)(x:RT.T X q):(L7 q x).map (·.map bI)=(qf q x).map (·.map gC):=by
 cases q<;>try rfl
 case mr c=>simp only[L7,qf,aF,map_nil,Option.map_some,bI,gC,rF,aI,oO]
theorem PL:∀(l:List (RT X.ι))(x:sN X l),(V5 l x).map (·.map bI)=(nR l x).map (·.map gC)
 |[],_=>rfl
 |[q],x=>adx q x
 |q::q'::l,x=>by simp only[V5,nR,map_append,adx,PL (q'::l) x.2]
theorem Z5:∀(ae:List Nat)(os:List (Option (bm X)))(os':List (Option eZ)),os.map (·.map bI)=os'.map (·.map gC)->iy (Hg ae os)=AL ae os'
 |[],_,_,_=>by simp[Hg,AL,iy]
 |_::_,[],[],_=>rfl
 |k::ae,p::os,p'::os',h=>by
  simp only[aF,List.cons.injEq]at h;have:=Z5 ae os os' h.2;simp only[iy]at this;simp only[Hg,AL,iy,aF,h.1,this]
 |_::_,[],_::_,h=>by simp at h
 |_::_,_::_,[],h=>by simp at h
theorem KT:∀{ae:List Nat}{os:List (Option (bm X))}{p:Nat×Option (bm X)},p∈Hg ae os->p.1∈ae
 |[],_,_,h=>by simp[Hg]at h
 |_::_,[],_,h=>by simp[Hg]at h
 |k::ae,q::os,p,h=>by
  simp only[Hg,aN]at h;rcases h with rfl |h
  ·simp
  ·exact eG _ (KT h)
def abt(get:Nat->Option (bm X))(d:DV X)(c:CT X.ι):Option (List (CT.T X.toSE c)×Nat×List Bool):=
 match d with
 | .own k 0 len=>(get k).bind λo=>match o with
  | .d8 b l=>(jw (.sl b) (.sl c) l).bind λ(l:List (CT.T X.toSE c))=>some (l,k,[az len (List.length l)])
  |_=>none
 |_=>none
def V6(get:Nat->Option (bm X))(d:DV X)(c:CT X.ι):Option (CT.T X.toSE c×Nat):=
 match d with
 | .ptr k 0 0=>(get k).bind λo=>match o with
  | .cells sz [row]=>if sz=CT.sz X c then(G5 c row).bind λx=>some (x,k)else none
  |_=>none
 |_=>none
def oP(Γ:FuncId->Option (bz X))(get:Nat->Option (bm X)):List (DV X)->(l:List (AT X.ι))->Option (iG X l×List Nat×List Bool)
 |[],[]=>some ((),[],[])
 |d::ds,.mut c::l=>(abt get d c).bind λx=>(oP Γ get ds l).bind λh=>some ((x.1,h.1),x.2.1::h.2.1,x.2.2++h.2.2)
 |d::ds,.jz c::l=>(V6 get d c).bind λx=>(oP Γ get ds l).bind λh=>some ((x.1,h.1),x.2::h.2.1,h.2.2)
 |d::ds,.d c::l=>(Rt Γ get 3 [d] [.d c]).bind λx=>(oP Γ get ds l).bind λh=>some ((x.1.1,h.1),h.2.1,x.2++h.2.2)
 |d::ds,.ref c::l=>(Rt Γ get 3 [d] [.ref c]).bind λx=>(oP Γ get ds l).bind λh=>some ((x.1.1,h.1),h.2.1,x.2++h.2.2)
 |d::ds,.d7 as r::l=>(Rt Γ get 3 [d] [.d7 as r]).bind λx=>(oP Γ get ds l).bind λh=>some ((x.1.1,h.1),h.2.1,x.2++h.2.2)
 |d::ds,.nil::l=>match d with
  | .nil=>(oP Γ get ds l).bind λh=>some (((),h.1),h.2.1,h.2.2)
  |_=>none
 |_,_=>none
def Jr:List (DV X)->List (AT X.ι)->List Nat
 |d::ds,a::l=>(if a.im then []else bk d)++Jr ds l
 |_,_=>[]
def PN(get:Nat->Option (bm X)):List (DV X)->(l:List (CT X.ι))->Option (HL X.toSE l×List Bool)
 |[],[]=>some ((),[])
 |d::ds,c::l=>(Fj get d c).bind λx=>(PN get ds l).bind λh=>some ((x.1,h.1),x.2++h.2)
 |_,_=>none
variable (Γ:FuncId->Option (bz X))
def W4(i:Nat)(f:DV X)(args:List (DV X))(get:Nat->Option (bm X))(k:KK X A):Option A:=
 match f with
 | .fn F first caps=>(Γ F).bind λs=>match s.gen.filter λg=>(sg get g.py (first++args++caps) ⟨[],[],[],[]⟩).isSome with
  |some g=>af0 g i (first++args++caps) get k
  |none=>if (s.args.all (λ q=>q.pl)&&s.res.all (λ q=>!q.out))=true then(Rt Γ get 3 (first++args++caps) s.args).bind λa=>Vt a.2 ((s.fn a.1).bind λx=>(FG i [] s.res x).bind λp=>
   if s.res.all VZ then k p.1 p.2 (aP (first++args++caps)) []
   else k p.1 (p.2++MN (aP (first++args++caps))) (aP (first++args++caps)) (aP (first++args++caps)))
  else(oP Γ get (first++args++caps) s.args).bind λa=>Vt a.2.2 ((s.fn a.1).bind λx=>(FG i a.2.1 s.res x).bind λp=>
   if (decide a.2.1.Nodup&&(Jr (first++args++caps) s.args).all (λ j=>!a.2.1.contains j)&&decide ((V5 s.res x).length=a.2.1.length))=true then
    if s.res.all VZ then k p.1 (p.2++Hg a.2.1 (V5 s.res x)) (aP (first++args++caps)) a.2.1
    else k p.1 (p.2++(Hg a.2.1 (V5 s.res x)++MN ((aP (first++args++caps)).filter λj=>!a.2.1.contains j))) (aP (first++args++caps)) (a.2.1++(aP (first++args++caps)).filter λj=>!a.2.1.contains j)
   else none)
 | .d7 as q φ=>(PN get args as).bind λh=>Vt h.2 ((φ h.1).bind λy=>
  if xu q then k (.c q y) [] (aP args) []else k (.c q y) (MN (aP args)) (aP args) (aP args))
 |_=>none
def DO(fz:List Nat)(T:ea)(am:TypeId->Option (CT X.ι))(i:Nat)(o:Op)(ρ:Operand->DV X)(get:Nat->Option (bm X))(k:KK X A):Option A:=
 match o with
 | .call { callee:= .value f,args:=args,argTypes:=_ }=>W4 Γ i (ρ f) (args.toList.map ρ) get k
 |o=>if aoS o ρ then UP T am i o ρ get k else if aoT o ρ || fz.contains i then Up T am i o ρ get k else if aoU T o ρ then T8 T am o ρ get k else Lw T am i o ρ get k
variable {Γ}
theorem MS{P:Program}{get:Nat->Option (bm X)}{rd:List Nat}:∀{ds:List (DV X)}{l:List (CT X.ι)}{h:HL X.toSE l×List Bool},PN get ds l=some h->(∀ b∈h.2,b=true)->(∀ j∈aP ds,j∈rd)->
 ∃hs obs,(∀ p∈obs,p)/\∀ag,mq P (dI rd (fu get)) (bP ds) (hs++ag)=some ((HL.nq X.toSE l h.1).map TV.av,ag,obs)
 |[],[],h,_,_,_=>⟨[],[],by simp,λag=>rfl⟩
 |d::ds,c::l,h,hr,hc,hrd=>by
  simp only[PN]at hr;have⟨x,h1,hr⟩:=ai.1 hr;have⟨g,h2,hr⟩:=ai.1 hr;cases hr;obtain⟨hs1,o1,p1,q1⟩:=zY (P:=P) (rd:=rd) h1 (λ b hb=>hc b (by simp[hb])) (λ j hj=>hrd j (by simp[aP,hj]));obtain⟨hs2,o2,p2,q2⟩:=MS (P:=P) (rd:=rd) h2 (λ b hb=>hc b (by simp[hb])) (λ j hj=>hrd j (by simp[aP,hj]));refine⟨hs1++hs2,o1++o2,gM p1 p2,λag=>?_⟩;simp only[bP,mq,aM,q1,af,q2];rfl
 |[],_::_,_,hr,_,_=>by simp[PN]at hr
 |_::_,[],_,hr,_,_=>by simp[PN]at hr
theorem V7{i:Nat}{ae ns:List Nat}{q:RT X.ι}{x:RT.T X q}:∀p∈(Hf i ae ns q x).2,p.1=cJ i:=by cases q<;>simp[Hf]
theorem V8{i:Nat}{ae ns:List Nat}:∀{l:List (RT X.ι)}{x:sN X l}{p:List (DV X)×List (Nat×Option (bm X))},Kv i ae ns l x=some p->∀q∈p.2,q.1=cJ i
 |[],_,p,h=>by simp only[Kv,aA]at h;subst h;simp
 |[q],x,p,h=>by simp only[Kv,aA]at h;subst h;exact V7
 |q::q'::l,x,p,h=>by
  simp only[Kv]at h;have⟨p',h1,h⟩:=ai.1 h;split at h
  ·cases h;intro z hz;rcases bf.1 hz with hz |hz
   ·exact V7 z hz
   ·exact V8 h1 z hz
  ·cases h
theorem Z6{i:Nat}{ae:List Nat}{l:List (RT X.ι)}{x:sN X l}{p:DV X×List (Nat×Option (bm X))}(h:FG i ae l x=some p):∀q∈p.2,q.1=cJ i:=by
 unfold FG at h;have⟨p',h1,h⟩:=ai.1 h;cases h;exact V8 h1
theorem Hl{P:Program}{get:Nat->Option aR}{x:AV}{hs ag:List LH}{y:AV}{o:List Prop}(h:mq P get [x] hs=some ([y],ag,o)):nP P get x hs=some (y,ag,o):=by
 simp only[mq,af,append_nil,ai,aA,Prod.mk.injEq,List.cons.injEq,and_true]at h;obtain⟨q,h1,h2,h3,h4⟩:=h;rw[h1,<- h2,<- h3,<- h4]
theorem kY{d:DV X}{ds:List (DV X)}{a:AT X.ι}{l:List (AT X.ι)}{P:Nat->Prop}(h:∀j∈Jr (d::ds) (a::l),P j):(a.im=false->∀j∈bk d,P j)/\∀j∈Jr ds l,P j:=by
 simp only[Jr,bf]at h;exact⟨λ e j hj=>h j (.inl (by rw[e];simpa using hj)),λj hj=>h j (.inr hj)⟩
theorem aom{c:CT X.ι}{l:List (CT.T X.toSE c)}:dW ((aI (l.map (CT.row X.toSE c))).take (l.map (CT.row X.toSE c)).length)=aI (l.map (CT.row X.toSE c)):=by
 rw[List.take_of_length_le (by simp[aI])];simp only[dW,aI,map_map];exact map_congr_left λy _=>by
  simp only[Function.comp,map_map];exact map_congr_left λz _=>rfl
theorem YL{get:Nat->Option (bm X)}{d:DV X}{c:CT X.ι}{x:List (CT.T X.toSE c)×Nat×List Bool}(h:abt get d c=some x)(hc:∀b∈x.2.2,b=true):
 d= .own x.2.1 0 (List.length x.1)/\∃o,get x.2.1=some o/\(bI o).sz=(rF c x.1).1/\dW ((bI o).rows.take (rF c x.1).2.length)=aI (rF c x.1).2:=by
 unfold abt at h;split at h
 ·rename_i k len;rw[ai]at h;obtain⟨o,h1,h⟩:=h;split at h
  ·rename_i b l;rw[ai]at h;obtain⟨l',h2,h⟩:=h;cases h;have⟨h3,h4⟩:=jf h2;have h5:len=List.length l':=(by simpa[az]using hc (az len (List.length l')) (by simp));refine⟨by rw[h5],.d8 b l,h1,by simp only[bI,rF];exact h3,?_⟩;simp only[bI,rF,h4];exact aom
  ·cases h
 ·cases h
theorem V9{get:Nat->Option (bm X)}{d:DV X}{c:CT X.ι}{x:CT.T X.toSE c×Nat}(h:V6 get d c=some x):
 d= .ptr x.2 0 0/\∃o,get x.2=some o/\(bI o).sz=(rF c [x.1]).1/\dW ((bI o).rows.take (rF c [x.1]).2.length)=aI (rF c [x.1]).2:=by
 unfold V6 at h;split at h
 ·rename_i k;rw[ai]at h;obtain⟨o,h1,h⟩:=h;split at h
  ·rename_i sz row;split at h
   ·rename_i hsz;have⟨y,h2,h⟩:=ai.1 h;cases h;refine⟨rfl,_,h1,by simp only[bI,rF];exact hsz,?_⟩;simp only[bI,rF,aF,map_nil,List.length_singleton,List.take_succ_cons,List.take_zero,dW,aI];rw[yj h2]
   ·cases h
  ·cases h
 ·cases h
theorem nu{P:Program}{Γ:FuncId->Option (bz X)}(hΓ:sC P Γ){get:Nat->Option (bm X)}{rd ae:List Nat}:∀{n:Nat}{ds:List (DV X)}{l:List (AT X.ι)}{a:iG X l×List Nat×List Bool},oP Γ get ds l=some a->(∀ b∈a.2.2,b=true)->(∀ j∈aP ds,j∈rd)->(∀ j∈Jr ds l,j∉ae)->ae.drop n=a.2.1->
 (∃ hs obs,(∀ p∈obs,p)/\∀ag,lY P (dI rd (fu get)) ae (bP ds) (hs++ag)=some (dP n l a.1,ag,obs))/\∃mo,AJ (dI rd (fu get)) a.2.1 (qd l a.1)=some mo/\∀p∈mo,p
 |n,[],[],a,h,_,_,_,_=>by
  simp only[oP,aA]at h;subst h;exact⟨⟨[],[],by simp,λag=>rfl⟩,[],rfl,by simp⟩
 |n,d::ds,.mut c::l,a,h,hc,hrd,hnr,hid=>by
  simp only[oP]at h;have⟨x,h1,h⟩:=ai.1 h;have⟨q,h2,h⟩:=ai.1 h;cases h;obtain⟨rfl,o,g1,g2,g3⟩:=YL h1 (λ b hb=>hc b (by simp[hb]));have Bm:ae[n]? =some x.2.1:=by rw[<- List.head?_drop,hid];rfl
  have Bs:ae.drop (n+1)=q.2.1:=by rw[<- List.tail_drop,hid];rfl
  obtain⟨⟨hs,obs,p1,p2⟩,mo,m1,m2⟩:=nu hΓ (n:=n+1) h2 (λ b hb=>hc b (by simp[hb])) (λ j hj=>hrd j (by simp[aP,hj])) (kY hnr).2 Bs;refine⟨⟨.mut n::hs,obs,p1,λag=>?_⟩,((bI o).sz=(rF c x.1).1/\dW ((bI o).rows.take (rF c x.1).2.length)=aI (rF c x.1).2)::mo,?_,?_⟩
  ·simp only[bP,den,lY,cons_append,oM,Bm,if_true,af,p2,dP,bR]
  ·simp only[qd,AJ,eD (hrd x.2.1 (by simp[aP,bk])) g1,af,m1]
  ·intro p hp;rcases aN.1 hp with rfl |hp
   ·exact⟨g2,g3⟩
   ·exact m2 p hp
 |n,d::ds,.jz c::l,a,h,hc,hrd,hnr,hid=>by
  simp only[oP]at h;have⟨x,h1,h⟩:=ai.1 h;have⟨q,h2,h⟩:=ai.1 h;cases h;obtain⟨rfl,o,g1,g2,g3⟩:=V9 h1;have Bm:ae[n]? =some x.2:=by rw[<- List.head?_drop,hid];rfl
  have Bs:ae.drop (n+1)=q.2.1:=by rw[<- List.tail_drop,hid];rfl
  obtain⟨⟨hs,obs,p1,p2⟩,mo,m1,m2⟩:=nu hΓ (n:=n+1) h2 (λ b hb=>hc b (by simp[hb])) (λ j hj=>hrd j (by simp[aP,hj])) (kY hnr).2 Bs;refine⟨⟨.mut n::hs,obs,p1,λag=>?_⟩,((bI o).sz=(rF c [x.1]).1/\dW ((bI o).rows.take (rF c [x.1]).2.length)=aI (rF c [x.1]).2)::mo,?_,?_⟩
  ·simp only[bP,den,lY,cons_append,oM,Bm,if_true,af,p2,dP,bR]
  ·simp only[qd,AJ,eD (hrd x.2 (by simp[aP,bk])) g1,af,m1]
  ·intro p hp;rcases aN.1 hp with rfl |hp
   ·exact⟨g2,g3⟩
   ·exact m2 p hp
 |n,d::ds,.d c::l,a,h,hc,hrd,hnr,hid=>by
  simp only[oP]at h;have⟨x,h1,h⟩:=ai.1 h;have⟨q,h2,h⟩:=ai.1 h;cases h;obtain⟨hs1,o1,p1,q1⟩:=rX (P:=P) hΓ 3 (n:=n) h1 (λ b hb=>hc b (by simp[hb])) (rd:=rd) (λ j hj=>hrd j (by simp only[aP,append_nil]at hj;simp[aP,hj]));obtain⟨⟨hs,obs,p2,q2⟩,mo,m1,m2⟩:=nu hΓ (n:=n) h2 (λ b hb=>hc b (by simp[hb])) (λ j hj=>hrd j (by simp[aP,hj])) (kY hnr).2 hid;refine⟨⟨YK (den d) hs1++hs,o1++obs,gM p1 p2,λag=>?_⟩,mo,m1,m2⟩;have:=yu (Hl (q1 (hs++ag))) (λ k hk=>(kY hnr).1 rfl k (by rwa [iO]at hk));rw[MQ]at this;simp only[bP,lY,aM,this,af,q2,dP]
 |n,d::ds,.ref c::l,a,h,hc,hrd,hnr,hid=>by
  simp only[oP]at h;have⟨x,h1,h⟩:=ai.1 h;have⟨q,h2,h⟩:=ai.1 h;cases h;obtain⟨hs1,o1,p1,q1⟩:=rX (P:=P) hΓ 3 (n:=n) h1 (λ b hb=>hc b (by simp[hb])) (rd:=rd) (λ j hj=>hrd j (by simp only[aP,append_nil]at hj;simp[aP,hj]));obtain⟨⟨hs,obs,p2,q2⟩,mo,m1,m2⟩:=nu hΓ (n:=n) h2 (λ b hb=>hc b (by simp[hb])) (λ j hj=>hrd j (by simp[aP,hj])) (kY hnr).2 hid;refine⟨⟨YK (den d) hs1++hs,o1++obs,gM p1 p2,λag=>?_⟩,mo,m1,m2⟩;have:=yu (Hl (q1 (hs++ag))) (λ k hk=>(kY hnr).1 rfl k (by rwa [iO]at hk));rw[MQ]at this;simp only[bP,lY,aM,this,af,q2,dP]
 |n,d::ds,.d7 as r::l,a,h,hc,hrd,hnr,hid=>by
  simp only[oP]at h;have⟨x,h1,h⟩:=ai.1 h;have⟨q,h2,h⟩:=ai.1 h;cases h;obtain⟨hs1,o1,p1,q1⟩:=rX (P:=P) hΓ 3 (n:=n) h1 (λ b hb=>hc b (by simp[hb])) (rd:=rd) (λ j hj=>hrd j (by simp only[aP,append_nil]at hj;simp[aP,hj]));obtain⟨⟨hs,obs,p2,q2⟩,mo,m1,m2⟩:=nu hΓ (n:=n) h2 (λ b hb=>hc b (by simp[hb])) (λ j hj=>hrd j (by simp[aP,hj])) (kY hnr).2 hid;refine⟨⟨YK (den d) hs1++hs,o1++obs,gM p1 p2,λag=>?_⟩,mo,m1,m2⟩;have:=yu (Hl (q1 (hs++ag))) (λ k hk=>(kY hnr).1 rfl k (by rwa [iO]at hk));rw[MQ]at this;simp only[bP,lY,aM,this,af,q2,dP]
 |n,d::ds,.nil::l,a,h,hc,hrd,hnr,hid=>by
  simp only[oP]at h;split at h
  ·have⟨q,h2,h⟩:=ai.1 h;cases h;obtain⟨⟨hs,obs,p2,q2⟩,mo,m1,m2⟩:=nu hΓ (n:=n) h2 hc (λ j hj=>hrd j (by simp[aP,hj])) (kY hnr).2 hid;refine⟨⟨.nil::hs,obs,p2,λag=>?_⟩,mo,m1,m2⟩;have:=yu (P:=P) (get':=dI rd (fu get)) (ae:=ae) (x:= .cV) (hs:= .nil::(hs++ag)) (p:=(.cV,hs++ag,[])) rfl (λ k hk=>by simp[refs]at hk);simp only[YK]at this;simp only[bP,den,lY,cons_append,this,af,q2,dP,bR]
  ·cases h
 |_,[],_::_,_,h,_,_,_,_=>by simp[oP]at h
 |_,_::_,[],_,h,_,_,_,_=>by simp[oP]at h
theorem ady{P:Program}(hΓ:sC P Γ){i:Nat}{f:DV X}{args:List (DV X)}{get:Nat->Option (bm X)}{k:KK X A}{r:A}(h:W4 Γ i f args get k=some r):
 ∃cx rd wr dv upd ab,j3 P i (den f) (bP args) cx (dI rd (fu get))=some ab/\jq ab.obs/\ab.v=den dv/\ab.upd=iy upd/\(∀ p∈upd,p.1=cJ i\/p.1∈wr)/\k dv upd rd wr=some r:=by
 unfold W4 at h;split at h
 ·rename_i F first caps
  rw[ai]at h;obtain⟨s,h1,h⟩:=h;split at h
  ·rename_i g hgen;exact abq ((hΓ F s h1).2.2 g (Option.filter_eq_some_iff.1 hgen).1) h
  split at h
  ·rename_i hpure;rw[ai]at h;obtain⟨⟨a,cs⟩,h2,h⟩:=h;have⟨hcs,h⟩:=pF h;rw[ai]at h;obtain⟨x,h3,h⟩:=h;rw[ai]at h;obtain⟨p,h4,h⟩:=h;have hf0:=(hΓ F s h1).2.1 a x h3;simp only[aK]at hpure;rw[wm (aoQ hpure.1),adh hpure.2]at hf0;have hf:=MC hf0;have hi:=adw h4;have hk:=Z6 h4;obtain⟨hs,obs,g1,g2⟩:=rX (P:=P) hΓ 3 h2 hcs (rd:=aP (first++args++caps)) (λ j hj=>hj);have g3:=g2 [];rw[append_nil,iC,iC]at g3;have hrefs:eT (bP first++bP args++bP caps)=aP (first++args++caps):=(by rw[<- iC,<- iC,gZ]);split at h
   ·rename_i hfl;refine⟨.call hs (sV s.res x) true,_,[],p.1,p.2,⟨den p.1,iy p.2,obs++[rb P F (wh s.args a) (sV s.res x),(sV s.res x).flat]⟩,?_,?_,rfl,rfl,λq hq=> .inl (hk q hq),h⟩
    ·simp only[den,j3,oN,xB,hi,af,g3];rfl
    ·exact qR _ (gM g1 (by
      intro q hq;simp only[aN,fq,or_false]at hq;rcases hq with rfl |rfl
      ·exact hf
      ·exact V4 x hfl))
   ·refine⟨.call hs (sV s.res x) false,_,_,p.1,_,⟨den p.1,iy p.2++(aP (first++args++caps)).map (λ k=>(k,none)),obs++[rb P F (wh s.args a) (sV s.res x)]⟩,?_,?_,rfl,?_,?_,h⟩
    ·simp only[den,j3,oN,xB,hi,af,g3,hrefs];rfl
    ·exact qR _ (gM g1 (by
      intro q hq;simp only[aW]at hq;subst hq;exact hf))
    ·simp only[rY,Cr]
    ·intro q hq;rcases bf.1 hq with hq |hq
     ·exact .inl (hk q hq)
     ·exact .inr (Jp hq)
  ·rename_i hpure;rw[ai]at h;obtain⟨⟨a,ae,cs⟩,h2,h⟩:=h;have⟨hcs,h⟩:=pF h;rw[ai]at h;obtain⟨x,h3,h⟩:=h;rw[ai]at h;obtain⟨p,h4,h⟩:=h;split at h
   ·rename_i hc;simp only[aK,aS]at hc;obtain⟨⟨hnd,hnr⟩,hlen⟩:=hc;have hf:=(hΓ F s h1).2.1 a x h3;have hi:=adw h4;have hk:=Z6 h4;obtain⟨⟨hs,obs,g1,g2⟩,mo,m1,m2⟩:=nu (P:=P) hΓ (rd:=aP (first++args++caps)) (ae:=ae) (n:=0) h2 hcs (λ j hj=>hj) (λ j hj=>by simpa using all_eq_true.1 hnr j hj) rfl;have g3:=g2 [];rw[append_nil,iC,iC]at g3;have hrefs:eT (bP first++bP args++bP caps)=aP (first++args++caps):=(by rw[<- iC,<- iC,gZ]);have hlen':(nR s.res x).length=ae.length:=by
     rw[<- hlen];simpa using (congrArg List.length (PL s.res x)).symm
    have hout:iy (Hg ae (V5 s.res x))=AL ae (nR s.res x):=Z5 _ _ _ (PL s.res x);split at h
    ·rename_i hfl;refine⟨.tx ae (qd s.args a) (nR s.res x) hs (sV s.res x) true,_,ae,p.1,_,⟨den p.1,iy p.2++AL ae (nR s.res x),obs++mo++[qq P F (wh s.args a) (qd s.args a) (nR s.res x) (sV s.res x),(sV s.res x).flat,U1 (nR s.res x)]⟩,?_,?_,rfl,?_,?_,h⟩
     ·simp only[den,j3,oN,GN,hi,af,m1,g3];rw[aX ⟨hnd,hlen'⟩];rfl
     ·refine qR _ (gM (gM g1 m2) ?_);intro q hq;simp only[aN,fq,or_false]at hq;rcases hq with rfl |rfl |rfl
      ·exact hf
      ·exact V4 x hfl
      ·exact ZY hfl
     ·simp only[rY,hout]
     ·intro q hq;rcases bf.1 hq with hq |hq
      ·exact .inl (hk q hq)
      ·exact .inr (KT hq)
    ·refine⟨.tx ae (qd s.args a) (nR s.res x) hs (sV s.res x) false,_,_,p.1,_,⟨den p.1,iy p.2++(AL ae (nR s.res x)++((aP (first++args++caps)).filter λj=>!ae.contains j).map (λ k=>(k,none))),obs++mo++[qq P F (wh s.args a) (qd s.args a) (nR s.res x) (sV s.res x)]⟩,?_,?_,rfl,?_,?_,h⟩
     ·simp only[den,j3,oN,GN,hi,af,m1,g3,GL,hrefs];rw[aX ⟨hnd,hlen'⟩];rfl
     ·refine qR _ (gM (gM g1 m2) ?_);intro q hq;simp only[aW]at hq;subst hq;exact hf
     ·simp only[rY,hout,Cr]
     ·intro q hq;rcases bf.1 hq with hq |hq
      ·exact .inl (hk q hq)
      ·rcases bf.1 hq with hq |hq
       ·exact .inr (List.mem_append_left _ (KT hq))
       ·exact .inr (mem_append_right _ (Jp hq))
   ·cases h
 ·rename_i as q φ;rw[ai]at h;obtain⟨⟨hh,cs⟩,h1,h⟩:=h;have⟨hcs,h⟩:=pF h;rw[ai]at h;obtain⟨y,h2,h⟩:=h;obtain⟨hs,obs,g1,g2⟩:=MS (P:=P) h1 hcs (rd:=aP args) (λ j hj=>hj);have g3:=g2 [];rw[append_nil]at g3;have hφ:∃h' x',φ h'=some x'/\HL.nq X.toSE as hh=HL.nq X.toSE as h'/\CT.tv X.toSE q y=CT.tv X.toSE q x':=⟨hh,y,h2,rfl,rfl⟩;split at h
  ·rename_i hfl;refine⟨.C5 hs (HL.nq X.toSE as hh) (CT.tv X.toSE q y) true,_,[],.c q y,[],⟨(CT.tv X.toSE q y).av,[],obs++[(HL.nq X.toSE as hh).map TV.av=(HL.nq X.toSE as hh).map TV.av,(∃ h' x',φ h'=some x'/\HL.nq X.toSE as hh=HL.nq X.toSE as h'/\CT.tv X.toSE q y=CT.tv X.toSE q x'),(CT.tv X.toSE q y).flat]⟩,?_,?_,rfl,rfl,by simp,h⟩
   ·simp only[den,j3,oN,xB,g3,af];rfl
   ·exact qR _ (gM g1 (by
     intro z hz;simp only[aN,fq,or_false]at hz;rcases hz with rfl |rfl |rfl
     ·trivial
     ·exact hφ
     ·exact adu hfl y))
  ·refine⟨.C5 hs (HL.nq X.toSE as hh) (CT.tv X.toSE q y) false,_,_,.c q y,_,⟨(CT.tv X.toSE q y).av,(aP args).map (λ k=>(k,none)),obs++[(HL.nq X.toSE as hh).map TV.av=(HL.nq X.toSE as hh).map TV.av,(∃ h' x',φ h'=some x'/\HL.nq X.toSE as hh=HL.nq X.toSE as h'/\CT.tv X.toSE q y=CT.tv X.toSE q x')]⟩,?_,?_,rfl,(Cr _).symm,λz hz=> .inr (Jp hz),h⟩
   ·simp only[den,j3,oN,xB,g3,af,gZ];rfl
   ·exact qR _ (gM g1 (by
     intro z hz;simp only[aN,fq,or_false]at hz;rcases hz with rfl |rfl
     ·trivial
     ·exact hφ))
 ·cases h
theorem af4{P:Program}(hΓ:sC P Γ){fz:List Nat}{T:ea}{am:TypeId->Option (CT X.ι)}{i:Nat}{o:Oper}{ρ:Operand->DV X}{get:Nat->Option (bm X)}{k:KK X A}{r:A}(h:DO Γ fz T am i o.op ρ get k=some r):d6 P T i o ρ get k r:=by
 obtain⟨dst,op,ty,ao,after,guard⟩:=o;unfold DO at h;simp only at h;split at h
 ·rename_i f args cQ;have:=ady hΓ h;simp only[<- Uq]at this;obtain⟨cx,rd,wr,dv,upd,ab,g1,g2⟩:=this;exact .call g1 g2
 ·split at h
  ·exact afW (o:=⟨dst,op,ty,ao,after,guard⟩) h
  ·split at h
   ·exact afX (o:=⟨dst,op,ty,ao,after,guard⟩) h
   ·split at h
    ·exact afY (o:=⟨dst,op,ty,ao,after,guard⟩) h
    ·rename_i hne _ _ _;have⟨cx,rd,wr,dv,upd,ab,g1,g2⟩:=ZM (o:=⟨dst,op,ty,ao,after,guard⟩) h;exact d6.op (λ f args cQ e=>hne f args cQ e) g1 g2
end
def li(x y:AV):Prop:=∀P β w I v,VR P β w I x v->VR P β w I y v
theorem li.refl(x:AV):li x x:=λ_ _ _ _ _ h=>h
theorem li.undef(x:AV):li x .undef:=λ_ _ _ _ _ _=>by simp[VR]
theorem li.wk(x:AV):li x (wk x):=λ_ _ _ _ _ h=>h.wk
section
variable {P:Program} {w0:World} {O0:j8} {N:Nat} {β:Nat->Option cL} {I:Nat->Prop} {a:Act} {w:World} {f g:Nat->Nat} {D:Nat->Prop}
mutual
theorem VR.rn(hgf:∀k,D k->g (f k)=k):∀(x:AV)(v:Value),(∀ k∈refs x,D k)->VR P β w I x v->VR P (λ j=>β (g j)) w I (fX f x) v
 | .own k aa len,v,hd,h=>by simp only[fX,VR,hgf k (hd k (by simp[refs]))]at h ⊢;exact h
 | .ptr k row aa,v,hd,h=>by simp only[fX,VR,hgf k (hd k (by simp[refs]))]at h ⊢;exact h
 | .agg cs,v,hd,h=>by
  simp only[fX,VR]at h ⊢;obtain⟨vs,h1,h2⟩:=h;exact⟨vs,h1,bj.rn hgf cs _ (by simpa[refs]using hd) h2⟩
 | .ez cs,v,hd,h=>by
  simp only[fX,VR]at h ⊢;obtain⟨vs,h1,h2⟩:=h;exact⟨vs,h1,bj.rn hgf cs _ (by simpa[refs]using hd) h2⟩
 | .fn F first caps,v,hd,h=>by
  simp only[fX,VR]at h ⊢;obtain⟨fs,cs,h1,h2,h3⟩:=h;exact⟨fs,cs,h1,bj.rn hgf first _ (λ k hk=>hd k (by simp[refs,hk])) h2,bj.rn hgf caps _ (λ k hk=>hd k (by simp[refs,hk])) h3⟩
 | .t x,v,_,h=>by simpa[fX,VR]using h
 | .ep r o,v,_,h=>by simpa[fX,VR]using h
 | .d7 φ,v,_,h=>by simpa[fX,VR]using h
 | .mp k,v,hd,h=>by simp only[fX,VR,hgf k (hd k (by simp[refs]))]at h ⊢;exact h
 | .oz k len,v,hd,h=>by simp only[fX,VR,hgf k (hd k (by simp[refs]))]at h ⊢;exact h
 | .cV,v,_,h=>by simpa[fX,VR]using h
 | .ub,v,_,h=>by simpa[fX,VR]using h
 | .undef,v,_,h=>by simp[fX,VR]
theorem bj.rn(hgf:∀k,D k->g (f k)=k):∀(xs:List AV)(vs:List Value),(∀ k∈eT xs,D k)->bj P β w I xs vs->bj P (λ j=>β (g j)) w I (zF f xs) vs
 |[],[],_,_=>by simp[zF,bj]
 |x::xs,v::vs,hd,h=>by
  simp only[bj]at h;simp only[zF,bj];exact⟨VR.rn hgf x v (λ k hk=>hd k (by simp[eT,hk])) h.1,bj.rn hgf xs vs (λ k hk=>hd k (by simp[eT,hk])) h.2⟩
 |[],_::_,_,h=>by simp[bj]at h
 |_::_,[],_,h=>by simp[bj]at h
end
def mS(D:Nat->Prop)(f:Nat->Nat):List AV->List AV->Prop
 |[],[]=>True
 |x::xs,y::ys=>((∀ k∈refs x,D k)/\li (fX f x) y)/\mS D f xs ys
 |_,_=>False
def ie(D:Nat->Prop)(f:Nat->Nat):List (List AV)->List (List AV)->Prop
 |[],[]=>True
 |r::rs,q::qs=>mS D f r q/\ie D f rs qs
 |_,_=>False
theorem mS.length:∀{r q:List AV},mS D f r q->q.length=r.length
 |[],[],_=>rfl
 |_::xs,_::ys,h=>by simp[mS.length h.2]
 |[],_::_,h=>h.elim
 |_::_,[],h=>h.elim
theorem cW.re(hgf:∀k,D k->g (f k)=k):∀{r q:List AV}{c:Array Value}{aa:Nat},mS D f r q->cW P β w I r c aa->cW P (λ j=>β (g j)) w I q c aa
 |[],[],_,_,_,_=>trivial
 |x::xs,y::ys,c,aa,hr,⟨⟨v,h1,h2,h3⟩,h4⟩=>⟨⟨v,h1,hr.1.2 _ _ _ _ _ (VR.rn hgf x v hr.1.1 h2),h3⟩,cW.re hgf hr.2 h4⟩
 |[],_::_,_,_,h,_=>h.elim
 |_::_,[],_,_,h,_=>h.elim
theorem bp.re(hgf:∀k,D k->g (f k)=k):∀{rs qs:List (List AV)}{c:Array Value}{aa sz:Nat},ie D f rs qs->bp P β w I rs c aa sz->bp P (λ j=>β (g j)) w I qs c aa sz
 |[],[],_,_,_,_,_=>trivial
 |r::rs,q::qs,c,aa,sz,hr,⟨h1,h2,h3⟩=>⟨by rw[hr.1.length];exact h1,cW.re hgf hr.1 h2,bp.re hgf hr.2 h3⟩
 |[],_::_,_,_,_,h,_=>h.elim
 |_::_,[],_,_,_,h,_=>h.elim
theorem bj.re(hgf:∀k,D k->g (f k)=k):∀{r q:List AV}{vs:List Value},mS D f r q->bj P β w I r vs->bj P (λ j=>β (g j)) w I q vs
 |[],[],[],_,_=>by simp[bj]
 |x::xs,y::ys,v::vs,hr,h=>by
  simp only[bj]at h ⊢;exact⟨hr.1.2 _ _ _ _ _ (VR.rn hgf x v hr.1.1 h.1),bj.re hgf hr.2 h.2⟩
 |[],_::_,_,h,_=>h.elim
 |_::_,[],_,h,_=>h.elim
 |[],[],_::_,_,h=>by simp[bj]at h
 |_::_,_::_,[],_,h=>by simp[bj]at h
theorem cp.re(hgf:∀k,D k->g (f k)=k):∀{rs qs:List (List AV)}{es:List MapEntry},ie D f rs qs->cp P β w I rs es->cp P (λ j=>β (g j)) w I qs es
 |[],[],[],_,_=>trivial
 |r::rs,q::qs,_::es,hr,⟨h1,h2⟩=>⟨bj.re hgf hr.1 h1,cp.re hgf hr.2 h2⟩
 |[],_::_,_,h,_=>h.elim
 |_::_,[],_,h,_=>h.elim
 |[],[],_::_,_,h=>h.elim
 |_::_,_::_,[],_,h=>h.elim
theorem ie.length:∀{rs qs:List (List AV)},ie D f rs qs->qs.length=rs.length
 |[],[],_=>rfl
 |_::xs,_::ys,h=>by simp[ie.length h.2]
 |[],_::_,h=>h.elim
 |_::_,[],h=>h.elim
theorem Rel.re{s s':St}(hgf:∀k,D k->g (f k)=k)(hg:∀j,j<1000->g j=j)(hr:Rel P w0 O0 N β I s a w)(hok:∀t,s.ok t=none\/s'.env t= .undef)(hok':∀t,s'.ok t=none)
 (hE:∀t,s'.env t= .undef\/((∀ k∈refs (s.env t),D k)/\li (fX f (s.env t)) (s'.env t)))
 (hO:∀j o',s'.obj j=some o'->∃k o,s.obj k=some o/\D k/\f k=j/\o'.sz=o.sz/\ie D f o.rows o'.rows):Rel P w0 O0 N (λ j=>β (g j)) I s' a w:=by
 refine⟨hr.defers,hr.size,λt=>?_,?_⟩
 ·have h1:=hr.env t;rw[hok' t];rcases hok t with hk |h
  rotate_left
  ·rw[h];simp[eI,VR]
  rw[hk]at h1;rcases hE t with h |⟨h2,h3⟩
  ·rw[h];simp[eI,VR]
  ·exact h3 _ _ _ _ _ (VR.rn hgf _ _ h2 h1)
 ·have hm:=hr.mem;constructor
  ·intro j o' hj;obtain⟨k,o,h1,h2,rfl,h4,h5⟩:=hO j o' hj;have⟨B,hB,sA⟩:=hm.cE k o h1;refine⟨B,by simp only[hgf k h2];exact hB,?_⟩;cases B with
   |none=>
    simp only[OR]at sA ⊢;rw[sA]at h5;cases ho:o'.rows with
    |nil=>rfl
    |cons=>rw[ho]at h5;exact h5.elim
   | «at» b sz n=>
    obtain⟨g1,c,e,g2,g3,g4⟩:=sA;exact⟨by rw[g1,h4],c,e,g2,g3,bp.re hgf h5 g4⟩
   |mp b=>
    obtain⟨es,cl,g1,gl,g2,g3⟩:=sA;have hl:=h5.length;exact⟨es,cl,g1,by omega,λe=>cp.re hgf h5 (g2 (by omega)),g3⟩
  ·intro j j' o o' B B' b h1 h2 h3 h4 h5 h6;obtain⟨k,q,i1,i2,rfl,_⟩:=hO j o h1;obtain⟨k',q',i1',i2',rfl,_⟩:=hO j' o' h2;simp only[hgf k i2,hgf k' i2']at h3 h4;rw[hm.gp k k' q q' B B' b i1 i1' h3 h4 h5 h6]
  ·intro j o B b h1 h2;obtain⟨k,q,i1,i2,rfl,_⟩:=hO j o h1;simp only[hgf k i2]at h2;exact hm.ownB k q B b i1 h2
  ·exact hm.lt
  ·exact hm.up
  ·exact hm.keep
  ·exact hm.le
  ·exact hm.os
  ·exact hm.tape
  ·exact hm.output
  ·intro j B hj;show β (g j)=some B;rw[hg j (O0.lt j B hj)];exact hm.anch j B hj
  ·exact hm.vars
end
section
variable {X:SX}
theorem adz{D:Nat->Prop}(f:Nat->Nat):∀r:List (DV X),(∀ k∈aP r,D k)->mS D f (bP r) (bP (JS f r))
 |[],_=>trivial
 |x::xs,h=>⟨⟨λ k hk=>h k (by rw[iO]at hk;simp[aP,hk]),by rw[zZ];exact li.refl _⟩,adz f xs λk hk=>h k (by simp[aP,hk])⟩
theorem Js{D:Nat->Prop}(f:Nat->Nat)(o:bm X)(h:∀k∈d5 o,D k):(bI (oR f o)).sz=(bI o).sz/\ie D f (bI o).rows (bI (oR f o)).rows:=by
 cases o with
 |cells sz rows=>
  refine⟨rfl,?_⟩;simp only[bI,oR,map_map];simp only[d5]at h
  induction rows with
  |nil=>trivial
  |cons r rs ih=>
   refine⟨adz f r λk hk=>h k (by simp[hk]),ih λk hk=>h k ?_⟩;simp only[aF,flatten_cons,bf];exact .inr hk
 |d8 c l=>
  refine⟨rfl,?_⟩;simp only[bI,oR];generalize l.map (CT.row X.toSE c)=rows;have hrow:∀r:List Tree,mS D f (r.map AV.t) (r.map AV.t):=by
   intro r
   induction r with
   |nil=>trivial
   |cons y ys ih=>exact⟨⟨by simp[refs],li.refl _⟩,ih⟩
  induction rows with
  |nil=>trivial
  |cons r rs ih=>exact⟨hrow r,ih⟩
 |map kc vc l=>
  refine⟨rfl,?_⟩;simp only[bI,oR];clear h
  induction l with
  |nil=>trivial
  |cons p ps ih=>exact⟨⟨⟨by simp[zX],by rw[VX];exact li.refl _⟩,⟨by simp[zX],by rw[VX];exact li.refl _⟩,trivial⟩,ih⟩
structure Low(s:de X):Prop where
 le:s.nx<=1000000
 ge:1000<=s.nx
 env:∀t,∀k∈bk (eL s.env t),k<s.nx
 obj:∀k o,gA s.obj k=some o->k<s.nx/\∀j∈d5 o,j<s.nx
theorem Wh{o:bm X}{r:List AV}{x:AV}(hr:r∈(bI o).rows)(hx:x∈r):∀j∈refs x,j∈d5 o:=by
 intro j hj;cases o with
 |cells sz rows=>
  simp only[bI,mem_map]at hr;obtain⟨q,hq,rfl⟩:=hr;rw[nQ,mem_map]at hx;obtain⟨d,hd,rfl⟩:=hx;simp only[d5,List.mem_flatten,mem_map];refine⟨_,⟨q,hq,rfl⟩,?_⟩;have:∀l:List (DV X),d∈l->j∈aP l:=by
   intro l
   induction l with
   |nil=>intro h;simp at h
   |cons y ys ih=>intro h;rcases aN.1 h with rfl |h
                  ·simp only[aP,bf];left;rwa [iO]at hj
                  ·simp only[aP,bf];exact .inr (ih h)
  exact this q hd
 |d8 c l=>
  simp only[bI,aI,mem_map]at hr;obtain⟨q,_,rfl⟩:=hr;simp only[mem_map]at hx;obtain⟨t,_,rfl⟩:=hx;simp[refs]at hj
 |map kc vc l=>
  simp only[bI,mem_map]at hr;obtain⟨q,_,rfl⟩:=hr;simp only[aN,fq,or_false]at hx;rcases hx with rfl |rfl<;>simp[zX]at hj
theorem Low.old{s:de X}(h:Low s):tB s.st:=by
 have hle:=h.le;constructor
 ·intro t k hk;have:=h.env t k (by rw[<- iO];exact hk);omega
 ·intro k o hk;simp only[de.st,dM]at hk;obtain⟨o',h1,rfl⟩:=hk;have⟨h2,h3⟩:=h.obj k o' h1;refine⟨by omega,λr hr x hx j hj=>?_⟩;have:=h3 j (Wh hr hx j hj);omega
end
section
variable {X:SX} {A:Type}
def pb(e b:List (Nat×DV X))(t:Nat):DV X:=match lk e t with |some x=>x |none=>eL b t
def wA(o b:List (Nat×Option (bm X)))(k:Nat):Option (bm X):=match lk o k with |some x=>x |none=>gA b k
def zI(dst:Option Tmp)(dv:DV X)(e:List (Nat×DV X)):List (Nat×DV X):=match dst with |some t=>(t,dv)::e |none=>e
def Wi:DV X->DV X
 | .skip=> .undef
 |x=>x
def Kw(e:List (Nat×DV X)):Operand->Bool
 | .tmp t=>match lk e t with |some .skip=>false |_=>true
 |_=>true
def Rx(e b:List (Nat×DV X))(o:Op):Bool:=
 match o with
 | .pick c x y=>Kw e c&&((Kw e x&&Kw e y) || match YE (pb e b) c with | .c .bool t=>bif t then Kw e x else Kw e y |_=>false)
 |o=>o.operands.toList.all (Kw e)
abbrev DS:=List (Nat×List Nat×List Nat)
section
variable (Γ:FuncId->Option (bz X)) (fz:List Nat) (T:ea) (am:TypeId->Option (CT X.ι)) (al:Array Oper) (b:de X)
def yN(k:List (Nat×DV X)->List (Nat×Option (bm X))->DS->Option A):List Nat->List (Nat×DV X)->List (Nat×Option (bm X))->DS->Option A
 |[],e,o,oe=>k e o oe
 |i::r,e,o,oe=>(al[i]?).bind λop=>match op.guard with
  |none=>bif Rx e b.env op.op then DO Γ fz T am i op.op (YE (pb e b.env)) (wA o b.obj) λdv upd rd wr=>yN k r (zI op.dst (Wi dv) e) (upd++o) ((i,rd,wr)::oe)else none
  |some (j,p)=>((al[j]?).bind (·.dst)).bind λt=>match pb e b.env t with
   | .c .bool v=>
    bif v then(bif p then(bif Rx ((t,.c .bool true)::e) b.env op.op then DO Γ fz T am i op.op (YE (pb ((t,.c .bool true)::e) b.env)) (wA o b.obj) λdv upd rd wr=>yN k r (zI op.dst (Wi dv) ((t,.c .bool true)::e)) (upd++o) ((i,rd,wr)::oe)else none)
     else yN k r (zI op.dst .skip ((t,.c .bool true)::e)) o ((i,[],[])::oe))
    else(bif p then yN k r (zI op.dst .skip ((t,.c .bool false)::e)) o ((i,[],[])::oe)
     else(bif Rx ((t,.c .bool false)::e) b.env op.op then DO Γ fz T am i op.op (YE (pb ((t,.c .bool false)::e) b.env)) (wA o b.obj) λdv upd rd wr=>yN k r (zI op.dst (Wi dv) ((t,.c .bool false)::e)) (upd++o) ((i,rd,wr)::oe)else none))
   | .skip=>bif(lk e t).isSome then yN k r (zI op.dst .skip e) o ((i,[],[])::oe)else none
   |_=>none
end
def iB(b:de X)(e:List (Nat×DV X))(o:List (Nat×Option (bm X))):St:=⟨λ t=>den (pb e b.env t),λk=>(wA o b.obj k).map bI,λt=>match lk e t with |some .skip=>some false |_=>none⟩
theorem ai1(x:DV X):den (Wi x)=den x:=by cases x<;>rfl
theorem akK(b:de X)(e:List (Nat×DV X))(o:List (Nat×Option (bm X)))(dst:Option Tmp)(dv:DV X)(upd:List (Nat×Option (bm X)))(obs:List Prop):
 (iB b e o).app dst (⟨den dv,iy upd,obs⟩,none)=iB b (zI dst (Wi dv) e) (upd++o):=by
 simp only[iB,St.app,St.mk.injEq];refine⟨?_,?_,?_⟩
 ·funext t;cases dst with
  |none=>simp[AP,zI]
  |some d=>
   simp only[AP,zI,pb,lk,aA];by_cases h:d=t<;>simp[h,ai1]
 ·funext j
  induction upd with
  |nil=>rfl
  |cons p u ih=>
   obtain⟨q,x⟩:=p;simp only[iy,aF,cO,cons_append,wA,lk]at ih ⊢;by_cases h:j=q
   ·simp[h]
   ·rw[aQ h,aQ (Ne.symm h)];exact ih
 ·funext t;cases dst with
  |none=>simp[AP,zI]
  |some d=>
   simp only[AP,zI,lk,aA];by_cases h:d=t
   ·simp only[h,if_true];cases dv<;>rfl
   ·simp only[aQ h]
theorem ai2(b:de X)(e:List (Nat×DV X))(o:List (Nat×Option (bm X)))(dst:Option Tmp):(iB b e o).app dst (⟨.undef,[],[]⟩,some false)=iB b (zI dst .skip e) o:=by
 simp only[iB,St.app,St.mk.injEq];refine⟨?_,rfl,?_⟩
 ·funext t;cases dst with
  |none=>simp[AP,zI]
  |some d=>
   simp only[AP,zI,pb,lk,aA];by_cases h:d=t<;>simp[h,den]
 ·funext t;cases dst with
  |none=>simp[AP,zI]
  |some d=>
   simp only[AP,zI,lk,aA];by_cases h:d=t<;>simp[h]
theorem adA(b:de X)(e:List (Nat×DV X))(o:List (Nat×Option (bm X))):ll (iB b e o).env=λx=>den (YE (pb e b.env) x):=by funext x;exact(Vq _ x).symm
theorem Cw{b:de X}{e:List (Nat×DV X)}{o:List (Nat×Option (bm X))}{x:Operand}(h:Kw e x=true):xq (iB b e o).ok x=[]:=by
 cases x with
 |tmp t=>
  simp only[Kw]at h;simp only[xq,iB];cases ht:lk e t with
  |none=>rfl
  |some d=>rw[ht]at h;cases d<;>first |rfl |cases h
 |_=>rfl
theorem ai3{b:de X}{e:List (Nat×DV X)}{o:List (Nat×Option (bm X))}{P:Program}{T:ea}{i:Nat}{op:Oper}{cx:i8}{get:Nat->Option aR}{ab:Out}(hok:Rx e b.env op.op=true)
 (h:jC P T i op cx (ll (iB b e o).env) get=some ab):∀p∈needs (iB b e o).env (iB b e o).ok op.op,p:=by
 obtain⟨dst,op,ty,ao,after,guard⟩:=op;unfold needs;split
 ·rename_i c x y heq;simp only at heq;subst heq;simp only[Rx,aK,Bool.or_eq_true]at hok;obtain⟨hc,hxy⟩:=hok;have hb:∃t,ll (iB b e o).env c= .t (.sc (.bool t)):=by
   have h0:(∃ n,cx= .ext n)\/(∃ ae fr q,cx= .xm ae fr q)\/qa T i ⟨dst,.pick c x y,ty,ao,after,guard⟩ cx (ll (iB b e o).env) get=some ab:=(by cases cx<;>first |exact .inl ⟨_,rfl⟩ |exact .inr (.inl ⟨_,_,_,rfl⟩) |exact .inr (.inr h));rcases h0 with ⟨n,rfl⟩ |⟨ae,fr,q,rfl⟩ |h0
   ·simp[jC,sS,IT,sQ]at h
   ·simp[jC,GQ,XS]at h
   ·simp only[qa]at h0;split at h0
    ·rename_i t ht;exact⟨t,ht⟩
    ·cases h0
  obtain⟨t,ht⟩:=hb;rw[ht];simp only[Cw hc,bR];rcases hxy with ⟨hx,hy⟩ |hxy
  ·simp[Cw hx,Cw hy]
  ·split at hxy
   ·rename_i t' ht';have e1:ll (iB b e o).env c= .t (.sc (.bool t')):=(by rw[adA];simp only[ht'];rfl);rw[e1]at ht;injection ht with ht;injection ht with ht;injection ht with ht;subst ht;cases t' with
    |true=>
     simp only[aj]at hxy;simp[Cw hxy]
    |false=>
     simp only[ak]at hxy;simp[Cw hxy]
   ·cases hxy
 ·rename_i o' hne;intro p hp;have hall:∀x∈op.operands.toList,Kw e x=true:=by
   have:Rx e b.env op=op.operands.toList.all (Kw e):=(by cases op<;>first |rfl |exact(hne _ _ _ rfl).elim);rw[this]at hok;exact all_eq_true.1 hok
  simp only[List.mem_flatMap]at hp;obtain⟨x,hx,hp⟩:=hp;rw[Cw (hall x hx)]at hp;simp at hp
theorem akL{a b:List Prop}(h:∀p∈a,p)(h':jq b):jq (a++b):=qR _ (gM h (Mv b h'))
variable {Γ:FuncId->Option (bz X)} {fz:List Nat} {T:ea} {am:TypeId->Option (CT X.ι)} {al:Array Oper} {b:de X} {P:Program}
theorem ai4(hΓ:sC P Γ){i:Nat}{op:Oper}{e:List (Nat×DV X)}{o:List (Nat×Option (bm X))}{k:KK X A}{r:A}(hop:al[i]? =some op)(hw:want al op (iB b e o).env (iB b e o).ok=some true)(hok:Rx e b.env op.op=true)
 (h:DO Γ fz T am i op.op (YE (pb e b.env)) (wA o b.obj) k=some r):
 ∃(a:mT)(dv:DV X)(upd:List (Nat×Option (bm X))),a.sym=false/\k dv upd a.rd a.wr=some r/\∀(c7:Nat->mT)(K:St->Prop),c7 i=a->K (iB b (zI op.dst (Wi dv) e) (upd++o))->xp P T al c7 i K (iB b e o):=by
 have⟨cx,rd,wr,dv,upd,ab,h1,h2,h3,h4,h5,h6⟩:=af4 hΓ h;refine⟨⟨cx,rd,wr,false⟩,dv,upd,rfl,h6,λc7 K ha hK=>?_⟩;have h1':jC P T i op cx (ll (iB b e o).env) (dI rd (iB b e o).obj)=some ab:=by rw[adA];exact h1
 refine⟨op,(⟨ab.v,ab.upd,needs (iB b e o).env (iB b e o).ok op.op++ab.obs⟩,none),hop,?_,?_,?_⟩
 ·unfold opAt;simp only[hop,af,hw,ha,h1'];rw[aX];rw[all_eq_true];intro p hp;rw[h4]at hp;simp only[iy,mem_map]at hp;obtain⟨q,hq,rfl⟩:=hp;rcases h5 q hq with h |h
  ·simp[h,Vd.2 (.inl rfl:ij (cJ i) (cJ i))]
  ·simp[h]
 ·exact akL (ai3 hok h1') h2
 ·rw[h3,h4,akK];exact hK
theorem step_skip{i:Nat}{op:Oper}{e:List (Nat×DV X)}{o:List (Nat×Option (bm X))}(hop:al[i]? =some op)(hw:want al op (iB b e o).env (iB b e o).ok=some false)
 (c7:Nat->mT) (K:St->Prop) (ha:c7 i=⟨.none,[],[],false⟩) (hK:K (iB b (zI op.dst .skip e) o)):xp P T al c7 i K (iB b e o):=by
 refine⟨op,(⟨.undef,[],[]⟩,some false),hop,?_,trivial,?_⟩
 ·unfold opAt;simp only[hop,af,hw,ha]
 ·rw[ai2];exact hK
theorem af5{e:List (Nat×DV X)}{o:List (Nat×Option (bm X))}{t:Nat}{v:Bool}(h:pb e b.env t= .c .bool v):iB b ((t,.c .bool v)::e) o=iB b e o:=by
 simp only[iB,St.mk.injEq,true_and];refine⟨?_,?_⟩
 ·funext s;by_cases hs:t=s
  ·subst hs;rw[h];simp[pb,lk]
  ·simp[pb,lk,hs]
 ·funext s;by_cases hs:t=s
  ·subst hs;simp only[lk,if_true];unfold pb at h;cases ht:lk e t with
   |none=>rfl
   |some d=>rw[ht]at h;simp only at h;subst h;rfl
  ·simp[lk,hs]
def JU(tr:List (Nat×mT)):DS:=tr.map λp=>(p.1,p.2.rd,p.2.wr)
def Ry(al:Array Oper)(t:Nat):Prop:=∃(j:Nat)(op:Oper),al[j]? =some op/\op.dst=some t
theorem adB{dst:Option Tmp}{dv:DV X}{e:List (Nat×DV X)}{p:Nat×DV X}(h:p∈zI dst dv e):p∈e\/dst=some p.1:=by
 cases dst with
 |none=>exact .inl h
 |some t=>
  simp only[zI,aN]at h;rcases h with rfl |h
  ·exact .inr rfl
  ·exact .inl h
theorem DZ(hΓ:sC P Γ){k:List (Nat×DV X)->List (Nat×Option (bm X))->DS->Option A}{r:A}:∀(l:List Nat)(e:List (Nat×DV X))(o:List (Nat×Option (bm X)))(oe:DS),yN Γ fz T am al b k l e o oe=some r->
 ∃(tr:List (Nat×mT))(e':List (Nat×DV X))(o':List (Nat×Option (bm X))),tr.map (·.1)=l/\k e' o' ((JU tr).reverse++oe)=some r/\(∀ p∈e',p∈e\/Ry al p.1)/\
  ∀c7:Nat->mT,(∀ p∈tr,c7 p.1=p.2)->Sj P T al c7 (λ σ=>σ=iB b e' o') l (iB b e o)
 |[],e,o,oe,h=>⟨[],e,o,rfl,h,λ_ hp=> .inl hp,λ_ _=>rfl⟩
 |i::l,e,o,oe,h=>by
  simp only[yN]at h;have⟨op,hop,h⟩:=ai.1 h
  have exec:∀e:List (Nat×DV X),want al op (iB b e o).env (iB b e o).ok=some true->
   (bif Rx e b.env op.op then DO Γ fz T am i op.op (YE (pb e b.env)) (wA o b.obj) λdv upd rd wr=>yN Γ fz T am al b k l (zI op.dst (Wi dv) e) (upd++o) ((i,rd,wr)::oe)else none)=some r->
   ∃(tr:List (Nat×mT)) (e':List (Nat×DV X)) (o':List (Nat×Option (bm X))),tr.map (·.1)=i::l/\k e' o' ((JU tr).reverse++oe)=some r/\(∀ p∈e',p∈e\/Ry al p.1)/\
    ∀c7:Nat->mT,(∀ p∈tr,c7 p.1=p.2)->Sj P T al c7 (λ σ=>σ=iB b e' o') (i::l) (iB b e o):=by
   intro e hw h;have⟨hok,h⟩:=dZ h;have⟨a,dv,upd,_,h1,h2⟩:=ai4 hΓ hop hw hok h;obtain⟨tr,e',o',g1,g2,g4,g3⟩:=DZ hΓ l _ _ _ h1;refine⟨(i,a)::tr,e',o',by simp[g1],?_,λp hp=>(g4 p hp).elim (λ hp=>(adB hp).elim .inl λhd=> .inr ⟨i,op,hop,hd⟩) .inr,λc7 ha=>?_⟩
   ·simpa[JU]using g2
   ·exact h2 c7 _ (ha (i,a) (by simp)) (g3 c7 λp hp=>ha p (by simp[hp]))
  have skip:∀e:List (Nat×DV X),want al op (iB b e o).env (iB b e o).ok=some false->yN Γ fz T am al b k l (zI op.dst .skip e) o ((i,[],[])::oe)=some r->
   ∃(tr:List (Nat×mT)) (e':List (Nat×DV X)) (o':List (Nat×Option (bm X))),tr.map (·.1)=i::l/\k e' o' ((JU tr).reverse++oe)=some r/\(∀ p∈e',p∈e\/Ry al p.1)/\
    ∀c7:Nat->mT,(∀ p∈tr,c7 p.1=p.2)->Sj P T al c7 (λ σ=>σ=iB b e' o') (i::l) (iB b e o):=by
   intro e hw h;obtain⟨tr,e',o',g1,g2,g4,g3⟩:=DZ hΓ l _ _ _ h;refine⟨(i,⟨.none,[],[],false⟩)::tr,e',o',by simp[g1],?_,λp hp=>(g4 p hp).elim (λ hp=>(adB hp).elim .inl λhd=> .inr ⟨i,op,hop,hd⟩) .inr,λc7 ha=>?_⟩
   ·simpa[JU]using g2
   ·exact step_skip hop hw c7 _ (ha (i,_) (by simp)) (g3 c7 λp hp=>ha p (by simp[hp]))
  split at h
  ·rename_i hg;exact exec e (by simp[want,hg]) h
  ·rename_i j p hg;rw[ai]at h;obtain⟨t,ht,h⟩:=h;split at h
   ·rename_i v hv;have hw:∀e:List (Nat×DV X),pb e b.env t= .c .bool v->want al op (iB b e o).env (iB b e o).ok=some (v==p):=by
     intro e he;simp only[want,hg,ht];have h0:(iB b e o).ok t=none:=by
      simp only[iB];unfold pb at he;cases hq:lk e t with
      |none=>rfl
      |some d=>rw[hq]at he;simp only at he;subst he;rfl
     have h1:(iB b e o).env t= .t (.sc (.bool v)):=(by simp only[iB,he];rfl);rw[h0,h1]
    have hk:=af5 (b:=b) (o:=o) hv;have hv':pb ((t,.c .bool v)::e) b.env t= .c .bool v:=(by simp[pb,lk]);have htd:Ry al t:=by
     have⟨oj,h1,h2⟩:=ai.1 ht;exact⟨j,oj,h1,h2⟩
    have wide:(∃ (tr:List (Nat×mT)) (e':List (Nat×DV X)) (o':List (Nat×Option (bm X))),tr.map (·.1)=i::l/\k e' o' ((JU tr).reverse++oe)=some r/\(∀ p∈e',p∈((t,.c .bool v)::e:List (Nat×DV X))\/Ry al p.1)/\
     ∀c7:Nat->mT,(∀ p∈tr,c7 p.1=p.2)->Sj P T al c7 (λ σ=>σ=iB b e' o') (i::l) (iB b ((t,.c .bool v)::e) o))->
     ∃(tr:List (Nat×mT)) (e':List (Nat×DV X)) (o':List (Nat×Option (bm X))),tr.map (·.1)=i::l/\k e' o' ((JU tr).reverse++oe)=some r/\(∀ p∈e',p∈e\/Ry al p.1)/\
     ∀c7:Nat->mT,(∀ p∈tr,c7 p.1=p.2)->Sj P T al c7 (λ σ=>σ=iB b e' o') (i::l) (iB b e o):=by
     rintro⟨tr,e',o',g1,g2,g4,g3⟩;refine⟨tr,e',o',g1,g2,λq hq=>?_,hk ▸ g3⟩;rcases g4 q hq with h |h
     ·rcases aN.1 h with rfl |h
      ·exact .inr htd
      ·exact .inl h
     ·exact .inr h
    apply wide;cases v with
    |true=>
     simp only[aj]at h;cases p with
     |true=>exact exec _ (hw _ hv') h
     |false=>exact skip _ (hw _ hv') h
    |false=>
     simp only[ak]at h;cases p with
     |true=>exact skip _ (hw _ hv') h
     |false=>exact exec _ (hw _ hv') h
   ·rename_i hv;have⟨hsome,h⟩:=dZ h;refine skip e ?_ h;simp only[want,hg,ht];have h1:(iB b e o).env t= .undef:=(by simp only[iB,hv];rfl);cases hq:lk e t with
    |some d=>
     have h0:(iB b e o).ok t=some false:=by
      unfold pb at hv;rw[hq]at hv;simp only at hv;subst hv;simp only[iB,hq]
     rw[h0,h1]
    |none=>rw[hq]at hsome;cases hsome
   ·cases h
end
section
variable {X:SX} {A:Type}
def fN(nx k:Nat):Nat:=if k<1000000 then k else nx+(k -1000000)
def gN(nx j:Nat):Nat:=if j<nx then j else 1000000+(j -nx)
def G3(nx sz k:Nat):Bool:=decide (k<nx) || (decide (1000000<=k)&&decide (k<1000000+sz))
def okE(nx sz:Nat)(e:List (Nat×DV X)):Bool:=e.all λp=>(bk p.2).all (G3 nx sz)
def okO(nx sz:Nat)(o:List (Nat×Option (bm X))):Bool:=o.all λp=>G3 nx sz p.1&&match p.2 with |some x=>(d5 x).all (G3 nx sz) |none=>true
def L5(oe:DS):Nat->mT:=λi=>match lk oe i with |some p=>⟨.none,p.1,p.2,false⟩ |none=>⟨.none,[],[],false⟩
def FF(tr:List (Nat×mT)):Nat->mT:=λi=>match lk tr i with |some a=>a |none=>⟨.none,[],[],false⟩
def I3:DV X->DV X
 | .skip=> .undef
 |x=>x
theorem akN(x:DV X):den (I3 x)=den x:=by cases x<;>rfl
theorem Z7(x:DV X):bk (I3 x)=bk x:=by cases x<;>rfl
def fin(s:de X)(e:List (Nat×DV X))(o:List (Nat×Option (bm X)))(sz:Nat):de X:=
 ⟨e.map (λ p=>(p.1,I3 (nr (fN s.nx) p.2)))++s.env,o.map (λ p=>(fN s.nx p.1,p.2.map (oR (fN s.nx))))++s.obj,s.nx+sz,o.map (λ p=>fN s.nx p.1)++s.log⟩
def akO(N:Nat)(al:Array Oper)(d:Bool)(nx:Nat)(e:List (Nat×DV X))(o:List (Nat×Option (bm X)))(oe:DS):Bool:=
 Pi N al&&(!d || NO al (L5 oe))&&okE nx (64*al.size) e&&okO nx (64*al.size) o&&decide (nx+64*al.size<=1000000)
def Z2(Γ:FuncId->Option (bz X))(fz:List Nat)(T:ea)(am:TypeId->Option (CT X.ι))(N:Nat)(al:Array Oper)(d:Bool)(s:de X)(k:de X->Option A):Option A:=
 yN Γ fz T am al s (λ e o oe=>bif akO N al d s.nx e o oe then k (fin s e o (64*al.size))else none) (List.range al.size) [] [] []
theorem adC{al:Array Oper}{c7 t8:Nat->mT}(h:∀i,(c7 i).rd=(t8 i).rd/\(c7 i).wr=(t8 i).wr):NO al c7=NO al t8:=by
 have h1:xC c7=xC t8:=by
  funext i j;simp only[xC,(h i).1,(h i).2,(h j).1,(h j).2]
 have h2:∀md,Pn md al c7=Pn md al t8:=by
  intro md;funext listed i;simp only[Pn,h1]
 have h3:∀(md:Region.Mode)(n k:Nat)(listed:Array Bool),lexFrom' md al c7 n k listed=lexFrom' md al t8 n k listed:=by
  intro md n
  induction n with
  |zero=>intro k listed;rfl
  |succ n ih=>intro k listed;simp only[lexFrom',h2,ih]
 exact h3 _ _ _ _
theorem Cx{α:Type}:∀(a b:List (Nat×α))(k:Nat),lk (a++b) k=match lk a k with |some x=>some x |none=>lk b k
 |[],_,_=>rfl
 |(j,x)::a,b,k=>by
  simp only[cons_append,lk];by_cases h:j=k
  ·simp[h]
  ·simp only[aQ h,Cx a b k]
theorem ahU{α:Type}:∀{l:List (Nat×α)}{k:Nat},lk l k=none->∀x,(k,x)∉l
 |(j,y)::r,k,h,x=>by
  simp only[lk]at h;split at h
  ·cases h
  ·rename_i hn;simp only[aN,Prod.mk.injEq,not_or];exact⟨λ e=>hn e.1.symm,ahU h x⟩
 |[],_,_,_=>by simp
theorem aon{tr:List (Nat×mT)}(hn:(tr.map (·.1)).Nodup)(i:Nat):(L5 (JU tr).reverse i).rd=(FF tr i).rd/\(L5 (JU tr).reverse i).wr=(FF tr i).wr:=by
 have hn':((JU tr).reverse.map (·.1)).Nodup:=by
  rw[List.map_reverse];have h1:((JU tr).map (·.1)).Nodup:=by simpa[JU,Function.comp_def]using hn
  exact List.pairwise_reverse.2 (h1.imp λh=>Ne.symm h)
 unfold L5 FF;cases h:lk tr i with
 |none=>
  cases h':lk (JU tr).reverse i with
  |none=>exact⟨rfl,rfl⟩
  |some p=>
   have:=rD h';simp only[JU,List.mem_reverse,mem_map]at this;obtain⟨q,hq,he⟩:=this;injection he with e1 e2;subst e1;exact(ahU h q.2 hq).elim
 |some a=>
  have h1:=rD h;have h2:(i,a.rd,a.wr)∈(JU tr).reverse:=by
   simp only[JU,List.mem_reverse,mem_map];exact⟨(i,a),h1,rfl⟩
  rw[uU hn' h2];exact⟨rfl,rfl⟩
theorem akP{tr:List (Nat×mT)}(hn:(tr.map (·.1)).Nodup):∀p∈tr,FF tr p.1=p.2:=by
 rintro⟨i,a⟩ hp;unfold FF;rw[uU hn hp]
theorem Wj{nx sz k:Nat}(h:G3 nx sz k=true):k<nx\/(1000000<=k/\k<1000000+sz):=by simpa[G3]using h
theorem TE{nx sz k:Nat}(hle:nx+sz<=1000000)(h:k<nx\/(1000000<=k/\k<1000000+sz)):gN nx (fN nx k)=k:=by
 unfold gN fN;rcases h with h |⟨h1,h2⟩
 ·rw[aX (show k<1000000 by omega),aX h]
 ·rw[aQ (show ¬k<1000000 by omega),aQ (by omega)];omega
theorem Z8{nx sz k:Nat}(hle:nx+sz<=1000000)(h:k<nx\/(1000000<=k/\k<1000000+sz)):fN nx k<nx+sz:=by
 unfold fN;rcases h with h |⟨h1,h2⟩
 ·rw[aX (show k<1000000 by omega)];omega
 ·rw[aQ (show ¬k<1000000 by omega)];omega
theorem Nd{nx k:Nat}(hle:nx<=1000000)(h:k<nx):fN nx k=k:=aX (by omega)
mutual
theorem Wl{f:Nat->Nat}:∀x:DV X,(∀ k∈bk x,f k=k)->nr f x=x
 | .own k _ _,h=>by simp only[nr,h k (by simp[bk])]
 | .ptr k _ _,h=>by simp only[nr,h k (by simp[bk])]
 | .qt k _ _,h=>by simp only[nr,h k (by simp[bk])]
 | .mp k,h=>by simp only[nr,h k (by simp[bk])]
 | .oz k _,h=>by simp only[nr,h k (by simp[bk])]
 | .tf k _ _ _ _,h=>by simp only[nr,h k (by simp[bk])]
 | .agg cs,h=>by simp only[nr,Aa cs (by simpa[bk]using h)]
 | .ez cs,h=>by simp only[nr,Aa cs (by simpa[bk]using h)]
 | .fn F first caps,h=>by simp only[nr,Aa first (λ k hk=>h k (by simp[bk,hk])),Aa caps (λ k hk=>h k (by simp[bk,hk]))]
 | .c _ _,_=>rfl
 | .rp _ _ _,_=>rfl
 | .ws _ _ _ _ _,_=>rfl
 | .d7 _ _ _,_=>rfl
 | .raw _,_=>rfl
 | .nil,_=>rfl
 | .ub,_=>rfl
 | .skip,_=>rfl
 | .undef,_=>rfl
theorem Aa{f:Nat->Nat}:∀l:List (DV X),(∀ k∈aP l,f k=k)->JS f l=l
 |[],_=>rfl
 |x::xs,h=>by simp only[JS,Wl x (λ k hk=>h k (by simp[aP,hk])),Aa xs (λ k hk=>h k (by simp[aP,hk]))]
end
mutual
theorem Wm(f:Nat->Nat):∀x:DV X,bk (nr f x)=(bk x).map f
 | .own _ _ _=>rfl
 | .ptr _ _ _=>rfl
 | .qt _ _ _=>rfl
 | .mp _=>rfl
 | .oz _ _=>rfl
 | .tf _ _ _ _ _=>rfl
 | .agg cs=>by simp only[nr,bk,yx f cs]
 | .ez cs=>by simp only[nr,bk,yx f cs]
 | .fn F first caps=>by simp only[nr,bk,yx f first,yx f caps,map_append]
 | .c _ _=>rfl
 | .rp _ _ _=>rfl
 | .ws _ _ _ _ _=>rfl
 | .d7 _ _ _=>rfl
 | .raw _=>rfl
 | .nil=>rfl
 | .ub=>rfl
 | .skip=>rfl
 | .undef=>rfl
theorem yx(f:Nat->Nat):∀l:List (DV X),aP (JS f l)=(aP l).map f
 |[]=>rfl
 |x::xs=>by simp only[JS,aP,Wm f x,yx f xs,map_append]
end
theorem adD(f:Nat->Nat)(o:bm X):d5 (oR f o)=(d5 o).map f:=by
 cases o with
 |cells sz rows=>simp only[oR,d5,map_map,List.map_flatten];congr 1;exact map_congr_left λr _=>yx f r
 |d8 c l=>rfl
 |map kc vc l=>rfl
theorem akQ{α β:Type}(f:α->β):∀(l:List (Nat×α))(k:Nat),lk (l.map λp=>(p.1,f p.2)) k=(lk l k).map f
 |[],_=>rfl
 |(j,x)::r,k=>by
  simp only[aF,lk];by_cases h:j=k
  ·simp[h]
  ·simp only[aQ h,akQ f r k]
theorem ahW{α β:Type}(f:α->β)(g:Nat->Nat):∀(l:List (Nat×α))(j:Nat),(∀ p∈l,∀q∈l,g p.1=g q.1->p.1=q.1)->
 (∀ y,lk (l.map λp=>(g p.1,f p.2)) j=some y->∃k x,lk l k=some x/\g k=j/\y=f x)/\(lk (l.map λp=>(g p.1,f p.2)) j=none->∀p∈l,g p.1≠j)
 |[],_,_=>⟨λ _ h=>by simp[lk]at h,λ_=>by simp⟩
 |(k0,x0)::r,j,hi=>by
  obtain⟨i1,i2⟩:=ahW f g r j (λ p hp q hq=>hi p (by simp[hp]) q (by simp[hq]));simp only[aF,lk];by_cases h:g k0=j
  ·rw[aX h];exact⟨λ y hy=>by injection hy with hy;exact⟨k0,x0,by simp,h,hy.symm⟩,λhn=>by cases hn⟩
  ·rw[aQ h];refine⟨λ y hy=>?_,λhn p hp=>?_⟩
   ·have⟨k,x,h1,h2,h3⟩:=i1 y hy;refine⟨k,x,?_,h2,h3⟩;have hne:k0≠k:=λe=>h (by rw[e];exact h2);rw[aQ hne];exact h1
   ·rcases aN.1 hp with rfl |hp
    ·exact h
    ·exact i2 hn p hp
structure Ext(ds:Nat->Prop)(s s':de X):Prop where
 env:∀t,¬ds t->eL s'.env t=eL s.env t\/eL s'.env t= .undef
 obj:∃d,s'.log=d++s.log/\∀k,k<s.nx->k∉d->gA s'.obj k=gA s.obj k\/gA s'.obj k=none
 nx:s.nx<=s'.nx
variable {Γ:FuncId->Option (bz X)} {fz:List Nat} {T:ea} {am:TypeId->Option (CT X.ι)} {P:Program} {N:Nat}
theorem MU(s:de X)(e:List (Nat×DV X))(o:List (Nat×Option (bm X)))(sz t:Nat):eL (fin s e o sz).env t=match lk e t with |some d=>I3 (nr (fN s.nx) d) |none=>eL s.env t:=by
 simp only[fin,eL,Cx,akQ (λ d=>I3 (nr (fN s.nx) d))];cases lk e t<;>rfl
theorem abu(hT:eY P T)(hm:P.follows .mixedOrders=true)(hΓ:sC P Γ){id:Nat}{al:Array Oper}{d:Bool}{s:de X}{k:de X->Option A}{r:A}(hl:Low s)(h:Z2 Γ fz T am N al d s k=some r):
 ∃s':de X,k s'=some r/\Low s'/\Ext (Ry al) s s'/\Ev P N (.region id al d) (λ e σ=>e= .normal/\σ=s'.st) s.st:=by
 unfold Z2 at h;obtain⟨tr,e,o,h1,h2,h3,h4⟩:=DZ hΓ _ _ _ _ h;have⟨h5,h6⟩:=dZ h2;simp only[akO,aK,append_nil]at h5;obtain⟨⟨⟨⟨hd,hlex⟩,hE⟩,hO⟩,hnx⟩:=h5;have hle:s.nx+64*al.size<=1000000:=of_decide_eq_true hnx;have HA:(tr.map (·.1)).Nodup:=by rw[h1];exact List.nodup_range
 have S8:∀t x,lk e t=some x->∀j∈bk x,j<s.nx\/(1000000<=j/\j<1000000+64*al.size):=by
  intro t x hx j hj;have:=all_eq_true.1 hE _ (rD hx);exact Wj (all_eq_true.1 this j hj)
 have HM:∀p∈o,(p.1<s.nx\/(1000000<=p.1/\p.1<1000000+64*al.size))/\∀x,p.2=some x->∀j∈d5 x,j<s.nx\/(1000000<=j/\j<1000000+64*al.size):=by
  intro p hp;have:=all_eq_true.1 hO _ hp;simp only[aK]at this;refine⟨Wj this.1,λx hx j hj=>?_⟩;have h2:=this.2;rw[hx]at h2;exact Wj (all_eq_true.1 h2 j hj)
 have hinj:∀p∈o,∀q∈o,fN s.nx p.1=fN s.nx q.1->p.1=q.1:=by
  intro p hp q hq he;have:=congrArg (gN s.nx) he
  rwa [TE hle (HM p hp).1,TE hle (HM q hq).1]at this
 have xf:∀j,(∃ q x,lk o q=some x/\fN s.nx q=j/\gA (fin s e o (64*al.size)).obj j=x.map (oR (fN s.nx)))\/(gA (fin s e o (64*al.size)).obj j=gA s.obj j/\∀p∈o,fN s.nx p.1≠j):=by
  intro j;obtain⟨i1,i2⟩:=ahW (λ x:Option (bm X)=>x.map (oR (fN s.nx))) (fN s.nx) o j hinj;simp only[fin,gA,Cx];cases hj:lk (o.map λp=>(fN s.nx p.1,p.2.map (oR (fN s.nx)))) j with
  |none=>exact .inr ⟨rfl,i2 hj⟩
  |some y=>
   have⟨q,x,g1,g2,g3⟩:=i1 y hj;exact .inl ⟨q,x,g1,g2,by rw[g3];rfl⟩
 refine⟨fin s e o (64*al.size),h6,?_,?_,?_⟩
 ·constructor
  ·exact hle
  ·have:=hl.ge;show 1000<=s.nx+64*al.size;omega
  ·intro t j hj;rw[MU]at hj;cases ht:lk e t with
   |none=>rw[ht]at hj;have:=hl.env t j hj;show j<s.nx+64*al.size;omega
   |some x=>
    rw[ht,Z7,Wm]at hj;obtain⟨q,hq,rfl⟩:=mem_map.1 hj;exact Z8 hle (S8 t x ht q hq)
  ·intro j x hx;rcases xf j with ⟨q,y,g1,rfl,g3⟩ |⟨g1,_⟩
   ·rw[g3]at hx;rw[dM]at hx;obtain⟨z,rfl,rfl⟩:=hx;obtain⟨k1,k2⟩:=HM _ (rD g1);refine⟨Z8 hle k1,λi hi=>?_⟩;rw[adD]at hi;obtain⟨i',hi',rfl⟩:=mem_map.1 hi;exact Z8 hle (k2 z rfl i' hi')
   ·rw[g1]at hx;have⟨k1,k2⟩:=hl.obj j x hx;refine⟨show j<s.nx+64*al.size by omega,λi hi=>?_⟩;have:=k2 i hi;show i<s.nx+64*al.size;omega
 ·refine⟨λ t ht=> .inl ?_,⟨o.map (λ p=>fN s.nx p.1),rfl,λj hj hn=>?_⟩,by show s.nx<=s.nx+64*al.size;omega⟩
  ·rw[MU];cases hx:lk e t with
   |none=>rfl
   |some x=>
    rcases h3 _ (rD hx)with h |h
    ·simp at h
    ·exact(ht h).elim
  ·rcases xf j with ⟨q,y,g1,g2,g3⟩ |⟨g1,_⟩
   ·exact(hn (mem_map.2 ⟨(q,y),rD g1,g2⟩)).elim
   ·exact .inl g1
 ·have hst:iB s [] []=s.st:=rfl;have hex:=h4 (FF tr) (akP HA);rw[hst]at hex;intro w0 O0 β I a w hr ho;have done:∀(e':Exit)(a':Act)(w':World),(∃ β' I' σ1,Rel P w0 O0 N β' I' σ1 a' w'/\e'= .normal/\σ1=iB s e o)->∃ β' I' σ1,Rel P w0 O0 N β' I' σ1 a' w'/\tB σ1/\e'= .normal/\σ1=(fin s e o (64*al.size)).st:=by
   rintro e' a' w' ⟨β',I',σ1,g1,rfl,rfl⟩;refine⟨_,I',(fin s e o (64*al.size)).st,Rel.re (f:=fN s.nx) (g:=gN s.nx) (D:=λk=>k<s.nx\/(1000000<=k/\k<1000000+64*al.size)) (λ k hk=>TE hle hk) (λ j hj=>by have:=hl.ge;unfold gN;rw[aX (by omega)]) g1 (λ t=>?_) (λ _=>rfl) (λ t=> .inr ?_) (λ j o' hj=>?_),?_,rfl,rfl⟩
   ·show(match lk e t with |some .skip=>some false |_=>none)=none\/den (eL (fin s e o (64*al.size)).env t)= .undef;rw[MU];cases ht:lk e t with
    |none=>exact .inl rfl
    |some d=>cases d<;>first |exact .inl rfl |exact .inr rfl
   ·show(∀ k∈refs (den (pb e s.env t)),_)/\li (fX (fN s.nx) (den (pb e s.env t))) (den (eL (fin s e o (64*al.size)).env t));rw[MU,iO,<- zZ];unfold pb;cases ht:lk e t with
    |none=>
     refine⟨λ q hq=> .inl (hl.env t q hq),?_⟩;rw[Wl _ (λ q hq=>Nd (by omega) (hl.env t q hq))];exact li.refl _
    |some x=>exact⟨S8 t x ht,by simp only[akN];exact li.refl _⟩
   ·simp only[de.st,dM]at hj;obtain⟨x,hx,rfl⟩:=hj;rcases xf j with ⟨q,y,i1,rfl,i3⟩ |⟨i1,i2⟩
    ·rw[i3,dM]at hx;obtain⟨z,rfl,rfl⟩:=hx;obtain⟨k1,k2⟩:=HM _ (rD i1);obtain⟨r1,r2⟩:=Js (D:=λk=>k<s.nx\/(1000000<=k/\k<1000000+64*al.size)) (fN s.nx) z (λ i hi=>k2 z rfl i hi);refine⟨q,bI z,?_,k1,rfl,r1,r2⟩;simp only[iB,wA,i1,Option.map_some]
    ·rw[i1]at hx;have⟨k1,k2⟩:=hl.obj j x hx;have hid:oR (fN s.nx) x=x:=by
      cases x with
      |d8 c l=>rfl
      |map kc vc l=>rfl
      |cells sz rows=>
       simp only[oR];congr 1;have:∀q∈rows,JS (fN s.nx) q=q:=λq hq=>Aa q λi hi=>Nd (by omega) (k2 i (by
        simp only[d5,List.mem_flatten,mem_map];exact⟨_,⟨q,hq,rfl⟩,hi⟩))
       rw[map_congr_left this];simp
     obtain⟨r1,r2⟩:=Js (D:=λk=>k<s.nx\/(1000000<=k/\k<1000000+64*al.size)) (fN s.nx) x (λ i hi=> .inl (k2 i hi));rw[hid]at r1 r2;refine⟨j,bI x,?_,.inl k1,Nd (by omega) k1,r1,r2⟩;simp only[iB,wA];cases hlo:lk o j with
     |none=>simp[hx]
     |some y=>exact(i2 _ (rD hlo) (Nd (by omega) k1)).elim
   ·have hL:Low (fin s e o (64*al.size)):=by
     constructor
     ·exact hle
     ·have:=hl.ge;show 1000<=s.nx+64*al.size;omega
     ·intro t j hj;rw[MU]at hj;cases ht:lk e t with
      |none=>rw[ht]at hj;have:=hl.env t j hj;show j<s.nx+64*al.size;omega
      |some x=>
       rw[ht,Z7,Wm]at hj;obtain⟨q,hq,rfl⟩:=mem_map.1 hj;exact Z8 hle (S8 t x ht q hq)
     ·intro j x hx;rcases xf j with ⟨q,y,g1,rfl,g3⟩ |⟨g1,_⟩
      ·rw[g3]at hx;rw[dM]at hx;obtain⟨z,rfl,rfl⟩:=hx;obtain⟨k1,k2⟩:=HM _ (rD g1);refine⟨Z8 hle k1,λi hi=>?_⟩;rw[adD]at hi;obtain⟨i',hi',rfl⟩:=mem_map.1 hi;exact Z8 hle (k2 z rfl i' hi')
      ·rw[g1]at hx;have⟨k1,k2⟩:=hl.obj j x hx;refine⟨show j<s.nx+64*al.size by omega,λi hi=>?_⟩;have:=k2 i hi;show i<s.nx+64*al.size;omega
    exact hL.old
  cases d with
  |false=>exact wp_mono (aiH hT hd ho hex hr) done
  |true=>
   refine wp_mono (Vl hT hm hd ?_ ho hex hr) done;rw[<- adC (aon HA)];simpa using hlex
end
end Go.Gb
namespace Go.Gb
open Go.RowKit
structure Sh(ι:Type) where
 slots:List (Nat×Pt ι)
 cE:List (Nat×OP ι)
 keep:List Nat
 da:List Nat
 nx:Nat
 AH:List (Nat×CT ι)
def Sh.vars{ι:Type}(s:Sh ι):List (CT ι):=gO s.slots++cH s.cE
section
variable {X:SX}
def nz(z:Bool)(k:Nat):DV X:=bif z then .oz k 0 else .own k 0 0
def zE(z:Bool)(s:de X)(t:Nat)(c:CT X.ι):de X:=
 match eL s.env t with
 | .nil=>if s.nx<1000000 then⟨(t,nz z s.nx)::s.env,(s.nx,some (.d8 c []))::s.obj,s.nx+1,s.nx::s.log⟩else s
 |_=>s
def FA(s:de X)(q j:Nat)(c:CT X.ι):de X:=
 match gA s.obj q with
 |some (.cells sz [row])=>match row[j]? with
  |some .nil=>if s.nx<1000000 then⟨s.env,(q,some (.cells sz [row.set j (.own s.nx 0 0)]))::(s.nx,some (.d8 c []))::s.obj,s.nx+1,q::s.nx::s.log⟩else s
  |_=>s
 |_=>s
def PO:List (Nat×CT X.ι)->de X->de X
 |[],s=>s
 |(t,c)::r,s=>PO r (bif Nat.ble 1000000 t then bif Nat.ble 1099511627776 t then zE true s (t -1099511627776) c else FA s ((t -1000000)/4096) ((t -1000000)%4096) c else zE false s t c)
def isU:DV X->Bool
 | .undef | .skip=>true
 |_=>false
def encS(sh:Sh X.ι)(s0:de X)(v:VT (X:=X) sh.vars):de X:=
 let L:=vY sh.vars v
 let n:=(gO sh.slots).length
 let ol:=λk=>(lk (lens sh.cE (L.drop n)) k).getD 0
 ⟨KR ol sh.slots (L.take n)++sh.keep.map (λ t=>(t,eL s0.env t)),dn ol sh.cE (L.drop n)++sh.da.map (λ k=>(k,gA s0.obj k)),sh.nx,
  (List.range s0.nx).filter (λ k=>!sh.da.contains k)++s0.log⟩
def okS(sh:Sh X.ι)(ds:List Nat)(s0 s':de X)(m:MA X):Bool:=
 decide (m.nm.map (·.1)++sh.da).Nodup&&decide (m.nm.map (·.2)++sh.da).Nodup&&decide (sh.cE.map (·.1)).Nodup&&m.nm.all (λ q=>(sh.cE.map (·.1)).contains q.2&&decide (q.2<sh.nx)&&(decide (q.1=q.2) || decide (1000<=q.2)))&&
  sh.slots.all (λ p=>ds.contains p.1)&&sh.keep.all (λ t=>!ds.contains t&&!isU (eL s'.env t)&&(bk (eL s0.env t)).all λj=>sh.da.contains j || m.nm.contains (j,j))&&
  sh.da.all (λ k=>decide (k<s0.nx)&&!(s'.log.take (s'.log.length -s0.log.length)).contains k&&(gA s'.obj k).isSome&&match gA s0.obj k with |some o=>(d5 o).all λj=>sh.da.contains j || m.nm.contains (j,j) |none=>false)&&
  decide (s0.nx<=sh.nx)&&decide (sh.nx<=1000000)
def N5{A:Type}(sh:Sh X.ι)(ds:List Nat)(s0 s':de X)(k:VT (X:=X) sh.vars->Option A):Option A:=
 (He (gA s'.obj) (eL s'.env) sh.slots ⟨[],[],[]⟩).bind λm=>(Cs (gA s'.obj) sh.cE m).bind λm=>bif okS sh ds s0 s' m then(YG sh.vars m.ey).bind λv=>Vt m.iS (k v)else none
def qh{A:Type}(sh:Sh X.ι)(ds:List Nat)(s0 s':de X)(k:VT (X:=X) sh.vars->Option A):Option A:=
 bif sh.AH.all (λ p=>bif Nat.ble 1000000 p.1 then !Nat.ble 1099511627776 p.1 || ds.contains (p.1 -1099511627776)else ds.contains p.1)then N5 sh ds s0 (PO sh.AH s') k else none
end
section
variable {X:SX}
theorem Z9{d:DV X}{c:CT X.ι}{x:CT.T X.toSE c}(h:JR d c=some x):bk d=[]:=by
 cases d
 case c=>rfl
 case nil=>rfl
 all_goals cases c<;>cases h
theorem Rz:∀{ds:List (DV X)}{l:List (CT X.ι)}{h:HL X.toSE l},yH ds l=some h->aP ds=[]
 |[],[],_,_=>rfl
 |d::ds,c::l,h,hr=>by
  simp only[yH]at hr;have⟨x,h1,hr⟩:=ai.1 hr;have⟨g,h2,hr⟩:=ai.1 hr;simp only[aP,Z9 h1,Rz h2,append_nil]
 |[],_::_,_,hr=>by simp[yH]at hr
 |_::_,[],_,hr=>by simp[yH]at hr
theorem amO{d:DV X}{c:CT X.ι}{x:CT.T X.toSE c}(h:dat d c=some x):li (den d) (den (.c c x:DV X))/\bk d=[]:=by
 cases c
 case st i=>
  replace h:DH d i=some x:=h
  cases d
  case agg cs=>
   simp only[DH]at h;have⟨g,h1,h⟩:=ai.1 h;cases h;refine⟨λ P β w I v hv=>?_,by simp only[bk,Rz h1]⟩;have h2:=(yI h1 (X.flat i)).1;simp only[den,VR]at hv;obtain⟨vs,rfl,hv⟩:=hv;show VR P β w I (.agg ((X.row i (X.make i g)).map AV.t)) _;have h3:(X.row i (X.make i g)).map AV.t=(bP cs).map Gb.wk:=(by rw[h2];exact congrArg _ (X.gd i g));rw[h3];simp only[VR];exact⟨vs,rfl,bj.wk _ _ hv⟩
  case c a y=>
   replace h:jw a (.st i) y=some x:=h
   rw[(om h).1];exact⟨li.refl _,rfl⟩
  all_goals cases h
 all_goals
  have h1:=vW h;refine⟨λ P β w I v hv=>?_,Z9 h⟩;simp only[den];rw[<- h1];exact hv.wk
def gi(m m':MA X):Prop:=(∀ q∈m.nm,q∈m'.nm)/\(∀ c∈m.iS,c∈m'.iS)
theorem gi.refl(m:MA X):gi m m:=⟨λ _ h=>h,λ_ h=>h⟩
theorem gi.trans{a b c:MA X}(h:gi a b)(h':gi b c):gi a c:=⟨λ q hq=>h'.1 q (h.1 q hq),λq hq=>h'.2 q (h.2 q hq)⟩
theorem fB(m:MA X)(k' k:Nat):(addN m k' k).ey=m.ey/\(addN m k' k).iS=m.iS:=by unfold addN;split<;>exact⟨rfl,rfl⟩
theorem nS(m:MA X)(k' k:Nat):(k',k)∈(addN m k' k).nm:=by
 unfold addN;split
 ·rename_i h;simpa using h
 ·simp
theorem pG(m:MA X)(k' k:Nat):gi m (addN m k' k):=by
 unfold addN;split
 ·exact gi.refl m
 ·exact⟨λ q hq=>by simp[hq],λ_ h=>h⟩
variable {get:Nat->Option (bm X)}
mutual
theorem ahX:∀(p:Pt X.ι)(d:DV X)(m m':MA X),mP get p d m=some m'->gi m m'/\∃an,m'.ey=m.ey++an/\an.length=p.vars.length
 | .v c,d,m,m',h=>by
  simp only[mP]at h;rw[ai]at h;obtain⟨x,h1,h⟩:=h;cases h;exact⟨⟨λ _ h=>h,λ_ h=>h⟩,[⟨c,x⟩],rfl,rfl⟩
 | .o k,d,m,m',h=>by
  simp only[mP]at h;split at h
  ·rename_i k' len;have⟨o,h1,h⟩:=ai.1 h;split at h
   ·cases h;refine⟨gi.trans (b:=⟨m.nm,m.ey,m.iS++_⟩) ⟨λ _ h=>h,λ_ h=>by simp[h]⟩ (pG _ _ _),[],by rw[(fB _ _ _).1];simp,rfl⟩
   ·cases h
  ·cases h
 | .oz k,d,m,m',h=>by
  simp only[mP]at h;split at h
  ·have⟨o,h1,h⟩:=ai.1 h;split at h
   ·cases h;refine⟨gi.trans (b:=⟨m.nm,m.ey,m.iS++_⟩) ⟨λ _ h=>h,λ_ h=>by simp[h]⟩ (pG _ _ _),[],by rw[(fB _ _ _).1];simp,rfl⟩
   ·cases h
  ·have⟨o,h1,h⟩:=ai.1 h;split at h
   ·cases h;refine⟨gi.trans (b:=⟨m.nm,m.ey,m.iS++_⟩) ⟨λ _ h=>h,λ_ h=>by simp[h]⟩ (pG _ _ _),[],by rw[(fB _ _ _).1];simp,rfl⟩
   ·cases h
  ·cases h
 | .p k,d,m,m',h=>by
  simp only[mP]at h;split at h
  ·cases h;exact⟨pG _ _ _,[],by rw[(fB _ _ _).1];simp,rfl⟩
  ·cases h
 | .mp k,d,m,m',h=>by
  simp only[mP]at h;split at h
  ·cases h;exact⟨pG _ _ _,[],by rw[(fB _ _ _).1];simp,rfl⟩
  ·cases h
 | .nil,d,m,m',h=>by
  simp only[mP]at h;split at h
  ·cases h;exact⟨gi.refl _,[],by simp,rfl⟩
  ·cases h
 | .f F fs cs,d,m,m',h=>by
  simp only[mP]at h;split at h
  ·split at h
   ·rw[ai]at h;obtain⟨m1,h1,h⟩:=h;obtain⟨a1,n1,b1,c1⟩:=yO fs _ m m1 h1;obtain⟨a2,n2,b2,c2⟩:=yO cs _ m1 m' h;exact⟨a1.trans a2,n1++n2,by rw[b2,b1,aM],by simp[Pt.vars,c1,c2]⟩
   ·cases h
  ·cases h
 | .od k,d,m,m',h=>by
  simp only[mP]at h;split at h
  ·rename_i k' aa len;have⟨o,h1,h⟩:=ai.1 h;split at h
   ·cases h;refine⟨gi.trans (b:=⟨m.nm,m.ey++[⟨.int .i64,(aa:Int)⟩],m.iS++_⟩) ⟨λ _ h=>h,λ_ h=>by simp[h]⟩ (pG _ _ _),[⟨.int .i64,(aa:Int)⟩],by rw[(fB _ _ _).1],rfl⟩
   ·cases h
  ·cases h
 | .a ps,d,m,m',h=>by
  simp only[mP]at h;split at h
  ·exact yO ps _ m m' h
  ·cases h
theorem yO:∀(ps:List (Pt X.ι))(ds:List (DV X))(m m':MA X),sX get ps ds m=some m'->gi m m'/\∃an,m'.ey=m.ey++an/\an.length=(cP ps).length
 |[],[],m,m',h=>by
  simp only[sX,aA]at h;subst h;exact⟨gi.refl _,[],by simp,rfl⟩
 |p::ps,d::ds,m,m',h=>by
  simp only[sX]at h;have⟨m1,h1,h⟩:=ai.1 h;have⟨a1,n1,b1,c1⟩:=ahX p d m m1 h1;have⟨a2,n2,b2,c2⟩:=yO ps ds m1 m' h;exact⟨a1.trans a2,n1++n2,by rw[b2,b1,aM],by simp[cP,c1,c2]⟩
 |[],_::_,m,m',h=>by simp[sX]at h
 |_::_,[],m,m',h=>by simp[sX]at h
end
theorem yP:∀(rs:List (List (Pt X.ι)))(qs:List (List (DV X)))(m m':MA X),Fp get rs qs m=some m'->gi m m'/\∃an,m'.ey=m.ey++an/\an.length=(vX rs).length
 |[],[],m,m',h=>by
  simp only[Fp,aA]at h;subst h;exact⟨gi.refl _,[],by simp,rfl⟩
 |r::rs,q::qs,m,m',h=>by
  simp only[Fp]at h;have⟨m1,h1,h⟩:=ai.1 h;have⟨a1,n1,b1,c1⟩:=yO r q m m1 h1;have⟨a2,n2,b2,c2⟩:=yP rs qs m1 m' h;exact⟨a1.trans a2,n1++n2,by rw[b2,b1,aM],by simp[vX,c1,c2]⟩
 |[],_::_,m,m',h=>by simp[Fp]at h
 |_::_,[],m,m',h=>by simp[Fp]at h
section
variable {NM:List (Nat×Nat)} {f:Nat->Nat} {dt:Nat->Nat}
def DN(NM:List (Nat×Nat))(j:Nat):Prop:=∃k,(j,k)∈NM
def SN(NM:List (Nat×Nat))(j:Nat):Prop:=∃k,(k,j)∈NM
theorem MV{D:Nat->Prop}{f:Nat->Nat}{P:Program}{β:Nat->Option cL}{w:World}{I:Nat->Prop}:∀{a b:List AV}(_:mS D f a b)(u:List Value),bj P β w I (zF f a) u->bj P β w I b u
 |[],[],_,u,hu=>hu
 |[],_::_,hr,_,_=>hr.elim
 |_::_,[],hr,_,_=>hr.elim
 |y::ys,z::zs,hr,[],hu=>by simp[zF,bj]at hu
 |y::ys,z::zs,hr,v::vs,hu=>by
  simp only[zF,bj]at hu ⊢;exact⟨hr.1.2 _ _ _ _ _ hu.1,MV hr.2 vs hu.2⟩
mutual
theorem adF(hf:∀q∈NM,f q.1=q.2)(ho:∀q∈NM,∀c l,get q.1=some (.d8 c l)->dt q.2=l.length):∀(p:Pt X.ι)(d:DV X)(m m':MA X),mP get p d m=some m'->(∀ q∈m'.nm,q∈NM)->(∀ c∈m'.iS,c=true)->
 ∃an,m'.ey=m.ey++an/\∃d',(∀ ag,eP dt p (an++ag)=(d',ag))/\li (fX f (den d)) (den d')/\(∀ j∈bk d,DN NM j)/\(∀ j∈bk d',SN NM j)
 | .v c,d,m,m',h,_,_=>by
  simp only[mP]at h;rw[ai]at h;obtain⟨x,h1,h⟩:=h;cases h;have⟨h2,h3⟩:=amO h1;refine⟨[⟨c,x⟩],rfl,.c c x,λag=>rfl,?_,by simp[h3],by simp[bk]⟩;rw[<- zZ,Wl d (by simp[h3])];exact h2
 | .o k,d,m,m',h,hn,hc=>by
  simp only[mP]at h;split at h
  ·rename_i k' len;rw[ai]at h;obtain⟨o,h1,h⟩:=h;split at h
   ·rename_i c l;cases h;have hq:(k',k)∈NM:=hn _ (nS _ _ _);have he:len=l.length:=by
     have:=hc (az len l.length) (by rw[(fB _ _ _).2];simp);simpa[az]using this
    refine⟨[],by rw[(fB _ _ _).1];simp,.own k 0 (dt k),λag=>rfl,?_,?_,?_⟩
    ·simp only[den,fX];rw[hf _ hq,ho _ hq c l h1,he];exact li.refl _
    ·intro j hj;simp only[bk,aW]at hj;subst hj;exact⟨k,hq⟩
    ·intro j hj;simp only[bk,aW]at hj;subst hj;exact⟨k',hq⟩
   ·cases h
  ·cases h
 | .oz k,d,m,m',h,hn,hc=>by
  simp only[mP]at h;split at h
  ·rename_i k' len;rw[ai]at h;obtain⟨o,h1,h⟩:=h;split at h
   ·rename_i c l;cases h;have hq:(k',k)∈NM:=hn _ (nS _ _ _);have he:len≠0/\len=l.length:=by
     have:=hc (!(len==0)&&az len l.length) (by rw[(fB _ _ _).2];simp);simpa[az]using this
    refine⟨[],by rw[(fB _ _ _).1];simp,.oz k (dt k),λag=>rfl,?_,λj hj=>?_,λj hj=>?_⟩
    ·simp only[den,fX];rw[hf _ hq,ho _ hq c l h1,<- he.2];intro P β w I v hv;simp only[VR]at hv ⊢;exact .inr ⟨he.1,hv.resolve_left λh=>he.1 h.2.2.2⟩
    ·simp only[bk,aW]at hj;subst hj;exact⟨k,hq⟩
    ·simp only[bk,aW]at hj;subst hj;exact⟨k',hq⟩
   ·cases h
  ·rename_i k' len;rw[ai]at h;obtain⟨o,h1,h⟩:=h;split at h
   ·rename_i c l;cases h;have hq:(k',k)∈NM:=hn _ (nS _ _ _);have he:len=l.length:=by
     have:=hc (az len l.length) (by rw[(fB _ _ _).2];simp);simpa[az]using this
    refine⟨[],by rw[(fB _ _ _).1];simp,.oz k (dt k),λag=>rfl,?_,λj hj=>?_,λj hj=>?_⟩
    ·simp only[den,fX];rw[hf _ hq,ho _ hq c l h1,he];exact li.refl _
    ·simp only[bk,aW]at hj;subst hj;exact⟨k,hq⟩
    ·simp only[bk,aW]at hj;subst hj;exact⟨k',hq⟩
   ·cases h
  ·cases h
 | .p k,d,m,m',h,hn,hc=>by
  simp only[mP]at h;split at h
  ·rename_i k';cases h;have hq:(k',k)∈NM:=hn _ (nS _ _ _);refine⟨[],by rw[(fB _ _ _).1];simp,.ptr k 0 0,λag=>rfl,?_,?_,?_⟩
   ·simp only[den,fX];rw[hf _ hq];exact li.refl _
   ·intro j hj;simp only[bk,aW]at hj;subst hj;exact⟨k,hq⟩
   ·intro j hj;simp only[bk,aW]at hj;subst hj;exact⟨k',hq⟩
  ·cases h
 | .mp k,d,m,m',h,hn,hc=>by
  simp only[mP]at h;split at h
  ·rename_i k';cases h;have hq:(k',k)∈NM:=hn _ (nS _ _ _);refine⟨[],by rw[(fB _ _ _).1];simp,.mp k,λag=>rfl,?_,?_,?_⟩
   ·simp only[den,fX];rw[hf _ hq];exact li.refl _
   ·intro j hj;simp only[bk,aW]at hj;subst hj;exact⟨k,hq⟩
   ·intro j hj;simp only[bk,aW]at hj;subst hj;exact⟨k',hq⟩
  ·cases h
 | .nil,d,m,m',h,_,_=>by
  simp only[mP]at h;split at h
  ·cases h;exact⟨[],by simp,.nil,λag=>rfl,li.refl _,by simp[bk],by simp[bk]⟩
  ·cases h
 | .f F fs cs,d,m,m',h,hn,hc=>by
  simp only[mP]at h;split at h
  ·rename_i F' first caps
   split at h
   ·rename_i e;subst e;rw[ai]at h;obtain⟨m1,h1,h⟩:=h;have hm:=(yO cs _ m1 m' h).1;obtain⟨n1,a1,f',b1,c1,e1,g1⟩:=Cy hf ho fs _ m m1 h1 (λ q hq=>hn q (hm.1 q hq)) (λ q hq=>hc q (hm.2 q hq));obtain⟨n2,a2,c',b2,c2,e2,g2⟩:=Cy hf ho cs _ m1 m' h hn hc;refine⟨n1++n2,by rw[a2,a1,aM],.fn F f' c',λag=>by simp only[eP,aM,b1,b2],?_,?_,?_⟩
    ·intro P β w I v hv;simp only[den,fX,VR]at hv ⊢;obtain⟨us,vs,rfl,hu,hv⟩:=hv;exact⟨us,vs,rfl,MV c1 _ hu,MV c2 _ hv⟩
    ·intro j hj;simp only[bk,bf]at hj;exact hj.elim (e1 j) (e2 j)
    ·intro j hj;simp only[bk,bf]at hj;exact hj.elim (g1 j) (g2 j)
   ·cases h
  ·cases h
 | .od k,d,m,m',h,hn,hc=>by
  simp only[mP]at h;split at h
  ·rename_i k' aa len;rw[ai]at h;obtain⟨o,h1,h⟩:=h;split at h
   ·rename_i c l;cases h;have hq:(k',k)∈NM:=hn _ (nS _ _ _);have he:aa+len=l.length:=by
     have:=hc (az (aa+len) l.length) (by rw[(fB _ _ _).2];simp);simpa[az]using this
    refine⟨[⟨.int .i64,(aa:Int)⟩],by rw[(fB _ _ _).1],.own k aa (dt k -aa),λag=>?_,?_,?_,?_⟩
    ·simp only[eP,cons_append,bR];have:ZN (X:=X) ⟨.int .i64,(aa:Int)⟩=aa:=by
      simp only[ZN];rw[VF];simp
     rw[this]
    ·simp only[den,fX];rw[hf _ hq,ho _ hq c l h1,show l.length -aa=len by omega];exact li.refl _
    ·intro j hj;simp only[bk,aW]at hj;subst hj;exact⟨k,hq⟩
    ·intro j hj;simp only[bk,aW]at hj;subst hj;exact⟨k',hq⟩
   ·cases h
  ·cases h
 | .a ps,d,m,m',h,hn,hc=>by
  simp only[mP]at h;split at h
  ·rename_i ds;have⟨an,h1,ds',h2,h3,h4,h5⟩:=Cy hf ho ps ds m m' h hn hc;refine⟨an,h1,.agg ds',λag=>by simp only[eP,h2],?_,by simpa[bk]using h4,by simpa[bk]using h5⟩;intro P β w I v hv;simp only[den,fX,VR]at hv ⊢;obtain⟨vs,rfl,hv⟩:=hv;refine⟨vs,rfl,?_⟩;exact MV h3 _ hv
  ·cases h
theorem Cy(hf:∀q∈NM,f q.1=q.2)(ho:∀q∈NM,∀c l,get q.1=some (.d8 c l)->dt q.2=l.length):∀(ps:List (Pt X.ι))(ds:List (DV X))(m m':MA X),sX get ps ds m=some m'->(∀ q∈m'.nm,q∈NM)->(∀ c∈m'.iS,c=true)->
 ∃an,m'.ey=m.ey++an/\∃ds',(∀ ag,lh dt ps (an++ag)=(ds',ag))/\mS (DN NM) f (bP ds) (bP ds')/\(∀ j∈aP ds,DN NM j)/\(∀ j∈aP ds',SN NM j)
 |[],[],m,m',h,_,_=>by
  simp only[sX,aA]at h;subst h;exact⟨[],by simp,[],λag=>rfl,trivial,by simp[aP],by simp[aP]⟩
 |p::ps,d::ds,m,m',h,hn,hc=>by
  simp only[sX]at h;have⟨m1,h1,h⟩:=ai.1 h;have hm:=(yO ps ds m1 m' h).1;obtain⟨n1,a1,d',b1,c1,e1,g1⟩:=adF hf ho p d m m1 h1 (λ q hq=>hn q (hm.1 q hq)) (λ q hq=>hc q (hm.2 q hq));have⟨n2,a2,ds',b2,c2,e2,g2⟩:=Cy hf ho ps ds m1 m' h hn hc;refine⟨n1++n2,by rw[a2,a1,aM],d'::ds',λag=>?_,⟨⟨λ k hk=>e1 k (by rwa [iO]at hk),c1⟩,c2⟩,?_,?_⟩
  ·simp only[lh,aM,b1,b2]
  ·intro j hj;simp only[aP,bf]at hj;exact hj.elim (e1 j) (e2 j)
  ·intro j hj;simp only[aP,bf]at hj;exact hj.elim (g1 j) (g2 j)
 |[],_::_,m,m',h,_,_=>by simp[sX]at h
 |_::_,[],m,m',h,_,_=>by simp[sX]at h
end
theorem RA(hf:∀q∈NM,f q.1=q.2)(ho:∀q∈NM,∀c l,get q.1=some (.d8 c l)->dt q.2=l.length):∀(rs:List (List (Pt X.ι)))(qs:List (List (DV X)))(m m':MA X),Fp get rs qs m=some m'->(∀ q∈m'.nm,q∈NM)->(∀ c∈m'.iS,c=true)->
 ∃an,m'.ey=m.ey++an/\∃D2,(∀ ag,vZ dt rs (an++ag)=(D2,ag))/\ie (DN NM) f (qs.map bP) (D2.map bP)/\(∀ j∈(qs.map aP).flatten,DN NM j)/\(∀ j∈(D2.map aP).flatten,SN NM j)
 |[],[],m,m',h,_,_=>by
  simp only[Fp,aA]at h;subst h;exact⟨[],by simp,[],λag=>rfl,trivial,by simp,by simp⟩
 |r::rs,q::qs,m,m',h,hn,hc=>by
  simp only[Fp]at h;have⟨m1,h1,h⟩:=ai.1 h;have hm:=(yP rs qs m1 m' h).1;obtain⟨n1,a1,d',b1,c1,e1,g1⟩:=Cy hf ho r q m m1 h1 (λ q hq=>hn q (hm.1 q hq)) (λ q hq=>hc q (hm.2 q hq));have⟨n2,a2,ds',b2,c2,e2,g2⟩:=RA hf ho rs qs m1 m' h hn hc;refine⟨n1++n2,by rw[a2,a1,aM],d'::ds',λag=>?_,⟨c1,c2⟩,?_,?_⟩
  ·simp only[vZ,aM,b1,b2]
  ·intro j hj;simp only[aF,flatten_cons,bf]at hj;exact hj.elim (e1 j) (e2 j)
  ·intro j hj;simp only[aF,flatten_cons,bf]at hj;exact hj.elim (g1 j) (g2 j)
 |[],_::_,m,m',h,_,_=>by simp[Fp]at h
 |_::_,[],m,m',h,_,_=>by simp[Fp]at h
end
end
section
variable {X:SX} {get:Nat->Option (bm X)} {env:Nat->DV X}
theorem Ho:∀(sl:List (Nat×Pt X.ι))(m m':MA X),He get env sl m=some m'->gi m m'/\∃an,m'.ey=m.ey++an/\an.length=(gO sl).length
 |[],m,m',h=>by
  simp only[He,aA]at h;subst h;exact⟨gi.refl _,[],by simp,rfl⟩
 |(t,p)::r,m,m',h=>by
  simp only[He]at h;rw[ai]at h;obtain⟨m1,h1,h⟩:=h;obtain⟨a1,n1,b1,c1⟩:=ahX p _ m m1 h1;have⟨a2,n2,b2,c2⟩:=Ho r m1 m' h;exact⟨a1.trans a2,n1++n2,by rw[b2,b1,aM],by simp[gO,c1,c2]⟩
theorem l5:∀(os:List (Nat×OP X.ι))(m m':MA X),Cs get os m=some m'->gi m m'/\∃an,m'.ey=m.ey++an/\an.length=(cH os).length
 |[],m,m',h=>by
  simp only[Cs,aA]at h;subst h;exact⟨gi.refl _,[],by simp,rfl⟩
 |(k,op)::r,m,m',h=>by
  simp only[Cs]at h;rw[ai]at h;obtain⟨o,h1,h⟩:=h;split at h
  ·rename_i c c' l;rw[ai]at h;obtain⟨l',h2,h⟩:=h;obtain⟨a2,n2,b2,c2⟩:=l5 r _ m' h;refine⟨gi.trans (gi.trans (b:=⟨m.nm,m.ey++[⟨.sl c,l'⟩],m.iS⟩) ⟨λ _ h=>h,λ_ h=>h⟩ (pG _ _ _)) a2,[⟨.sl c,l'⟩]++n2,?_,by simp[cH,c2]⟩;rw[b2,(fB _ _ _).1,aM]
  ·rename_i kc vc tM tD l;rw[ai]at h;obtain⟨l',h2,h⟩:=h;obtain⟨a2,n2,b2,c2⟩:=l5 r _ m' h;refine⟨gi.trans (gi.trans (b:=⟨m.nm,m.ey++[⟨.mp kc vc,l'⟩],m.iS⟩) ⟨λ _ h=>h,λ_ h=>h⟩ (pG _ _ _)) a2,[⟨.mp kc vc,l'⟩]++n2,?_,by simp[cH,c2]⟩;rw[b2,(fB _ _ _).1,aM]
  ·rename_i sz rows sz' rows';split at h
   ·rw[ai]at h;obtain⟨m1,h2,h⟩:=h;obtain⟨a1,n1,b1,c1⟩:=yP rows _ _ m1 h2;have⟨a2,n2,b2,c2⟩:=l5 r m1 m' h;refine⟨((pG m _ _).trans a1).trans a2,n1++n2,?_,by simp[cH,c1,c2]⟩;rw[b2,b1,(fB _ _ _).1,aM]
   ·cases h
  ·cases h
variable {NM:List (Nat×Nat)} {f:Nat->Nat} {dt:Nat->Nat}
theorem D5:∀(os:List (Nat×OP X.ι))(m m':MA X),Cs get os m=some m'->(∀ q∈m'.nm,q∈NM)->∃an,m'.ey=m.ey++an/\∀ag,∀k∈os.map (·.1),∃k' o,(k',k)∈NM/\get k'=some o/\∀c l,o= .d8 c l->(k,List.length l)∈lens os (an++ag)
 |[],m,m',h,_=>by
  simp only[Cs,aA]at h;subst h;exact⟨[],by simp,λag k hk=>by simp at hk⟩
 |(k,op)::r,m,m',h,hn=>by
  simp only[Cs]at h;rw[ai]at h;obtain⟨o,h1,h⟩:=h;split at h
  ·rename_i c c' l;rw[ai]at h;obtain⟨l',h2,h⟩:=h;have hm:=(l5 r _ m' h).1;obtain⟨n2,b2,c2⟩:=D5 r _ m' h hn;refine⟨[⟨.sl c,l'⟩]++n2,by rw[b2,(fB _ _ _).1,aM],λag j hj=>?_⟩;simp only[aF,aN]at hj;simp only[cons_append,bR,lens];by_cases hjk:j=k
   ·subst hjk;refine⟨_,_,hn _ (hm.1 _ (nS _ _ _)),h1,λc2 l2 he=>?_⟩;injection he with e1 e2;subst e1;have e2:=eq_of_heq e2;subst e2;have:=congrArg List.length (jf h2).2;simp only[length_map]at this;rw[this];exact List.mem_cons_self
   ·rcases hj with rfl |hj
    ·exact(hjk rfl).elim
    ·have⟨k',o',g1,g2,g3⟩:=c2 ag j hj;exact⟨k',o',g1,g2,λc l he=>eG _ (g3 c l he)⟩
  ·rename_i kc vc tM tD l;rw[ai]at h;obtain⟨l',h2,h⟩:=h;have hm:=(l5 r _ m' h).1;obtain⟨n2,b2,c2⟩:=D5 r _ m' h hn;refine⟨[⟨.mp kc vc,l'⟩]++n2,by rw[b2,(fB _ _ _).1,aM],λag j hj=>?_⟩;simp only[aF,aN]at hj;simp only[cons_append,bR,lens,List.drop_succ_cons,List.drop_zero];by_cases hjk:j=k
   ·subst hjk;exact⟨_,_,hn _ (hm.1 _ (nS _ _ _)),h1,λc2 l2 he=>by cases he⟩
   ·rcases hj with rfl |hj
    ·exact(hjk rfl).elim
    ·exact c2 ag j hj
  ·rename_i sz rows sz' rows';split at h
   ·have⟨m1,h2,h⟩:=ai.1 h;obtain⟨a1,n1,b1,c1⟩:=yP rows _ _ m1 h2;have hm:=(l5 r _ m' h).1;obtain⟨n2,b2,c2⟩:=D5 r _ m' h hn;refine⟨n1++n2,by rw[b2,b1,(fB _ _ _).1,aM],λag j hj=>?_⟩;simp only[aF,aN]at hj;have hd:(n1++n2++ag).drop (vX rows).length=n2++ag:=(by rw[<- c1,aM,List.drop_left]);simp only[lens,hd];by_cases hjk:j=k
    ·subst hjk;exact⟨_,_,hn _ (hm.1 _ (a1.1 _ (nS _ _ _))),h1,λc2 l2 he=>by cases he⟩
    ·rcases hj with rfl |hj
     ·exact(hjk rfl).elim
     ·exact c2 ag j hj
   ·cases h
  ·cases h
theorem Jt:∀(os:List (Nat×OP X.ι))(L:List (DC X)),((lens os L).map (·.1)).Sublist (os.map (·.1))
 |[],_=>by simp[lens]
 |(k,.l c)::r,L=>by
  simp only[lens];split
  ·exact(Jt r _).cons_cons _
  ·exact List.nil_sublist _
 |(k,.m kc vc)::r,L=>by
  simp only[lens];exact(Jt r _).cons _
 |(k,.c sz rows)::r,L=>by
  simp only[lens];exact(Jt r _).cons _
theorem MW(hf:∀q∈NM,f q.1=q.2)(ho:∀q∈NM,∀c l,get q.1=some (.d8 c l)->dt q.2=l.length):∀(sl:List (Nat×Pt X.ι))(m m':MA X),He get env sl m=some m'->(∀ q∈m'.nm,q∈NM)->(∀ c∈m'.iS,c=true)->
 ∃an,m'.ey=m.ey++an/\∃es,(∀ ag,KR dt sl (an++ag)=es)/\(∀ p∈es,p.1∈sl.map (·.1)/\li (fX f (den (env p.1))) (den p.2)/\(∀ j∈bk (env p.1),DN NM j)/\(∀ j∈bk p.2,SN NM j))
 |[],m,m',h,_,_=>by
  simp only[He,aA]at h;subst h;exact⟨[],by simp,[],λag=>rfl,by simp⟩
 |(t,p)::r,m,m',h,hn,hc=>by
  simp only[He]at h;have⟨m1,h1,h⟩:=ai.1 h;have hm:=(Ho r m1 m' h).1;obtain⟨n1,a1,d',b1,c1,e1,g1⟩:=adF hf ho p _ m m1 h1 (λ q hq=>hn q (hm.1 q hq)) (λ q hq=>hc q (hm.2 q hq));have⟨n2,a2,es,b2,c2⟩:=MW hf ho r m1 m' h hn hc;refine⟨n1++n2,by rw[a2,a1,aM],(t,d')::es,λag=>by simp only[KR,aM,b1,b2],λq hq=>?_⟩;rcases aN.1 hq with rfl |hq
  ·exact⟨by simp,c1,e1,g1⟩
  ·have⟨i1,i2⟩:=c2 q hq;exact⟨by simp only[aF,aN];exact .inr i1,i2⟩
theorem aac{D:Nat->Prop}(f:Nat->Nat):∀rows:List (List Tree),ie D f (aI rows) (aI rows)
 |[]=>trivial
 |r::rs=>by
  refine⟨?_,aac f rs⟩
  induction r with
  |nil=>trivial
  |cons y ys ih=>exact⟨⟨by simp[refs],li.refl _⟩,ih⟩
theorem aad{a b c d:CT X.ι}{l:List (CT.T X.toSE a×CT.T X.toSE b)}{l':List (CT.T X.toSE c×CT.T X.toSE d)}(h:jw (.mp a b) (.mp c d) l=some l'):bI (.map c d l':bm X)=bI (.map a b l):=by
 have⟨e,h⟩:=rE h;injection e with e1 e2;subst e1;subst e2;subst h;rfl
theorem aae{D:Nat->Prop}(f:Nat->Nat){kc vc:CT X.ι}:∀l:List (CT.T X.toSE kc×CT.T X.toSE vc),ie D f (bI (.map kc vc l:bm X)).rows (bI (.map kc vc l:bm X)).rows
 |[]=>trivial
 |p::ps=>⟨⟨⟨by simp[zX],by rw[VX];exact li.refl _⟩,⟨by simp[zX],by rw[VX];exact li.refl _⟩,trivial⟩,aae f ps⟩
theorem Ab(hf:∀q∈NM,f q.1=q.2)(ho:∀q∈NM,∀c l,get q.1=some (.d8 c l)->dt q.2=l.length):∀(os:List (Nat×OP X.ι))(m m':MA X),Cs get os m=some m'->(∀ q∈m'.nm,q∈NM)->(∀ c∈m'.iS,c=true)->
 ∃an,m'.ey=m.ey++an/\∃xs,(∀ ag,dn dt os (an++ag)=xs)/\(∀ p∈xs,p.1∈os.map (·.1)/\∃k' o o',p.2=some o'/\(k',p.1)∈NM/\get k'=some o/\(bI o').sz=(bI o).sz/\ie (DN NM) f (bI o).rows (bI o').rows/\(∀ j∈d5 o',SN NM j))
 |[],m,m',h,_,_=>by
  simp only[Cs,aA]at h;subst h;exact⟨[],by simp,[],λag=>rfl,by simp⟩
 |(k,op)::r,m,m',h,hn,hc=>by
  simp only[Cs]at h;rw[ai]at h;obtain⟨o,h1,h⟩:=h;split at h
  ·rename_i c c' l;rw[ai]at h;obtain⟨l',h2,h⟩:=h;have hm:=(l5 r _ m' h).1;obtain⟨n2,a2,xs,b2,c2⟩:=Ab hf ho r _ m' h hn hc;refine⟨[⟨.sl c,l'⟩]++n2,by rw[a2,(fB _ _ _).1,aM],(k,some (.d8 c l'))::xs,λag=>by simp only[cons_append,bR,dn,b2],λq hq=>?_⟩;rcases aN.1 hq with rfl |hq
   ·refine⟨by simp,_,_,_,rfl,hn _ (hm.1 _ (nS _ _ _)),h1,?_,?_,by simp[d5]⟩
    ·simp only[bI,(jf h2).1]
    ·simp only[bI,(jf h2).2];exact aac f _
   ·have⟨i1,i2⟩:=c2 q hq;exact⟨by simp only[aF,aN];exact .inr i1,i2⟩
  ·rename_i kc vc tM tD l;rw[ai]at h;obtain⟨l',h2,h⟩:=h;have hm:=(l5 r _ m' h).1;obtain⟨n2,a2,xs,b2,c2⟩:=Ab hf ho r _ m' h hn hc;refine⟨[⟨.mp kc vc,l'⟩]++n2,by rw[a2,(fB _ _ _).1,aM],(k,some (.map kc vc l'))::xs,λag=>by simp only[cons_append,bR,dn,b2],λq hq=>?_⟩;rcases aN.1 hq with rfl |hq
   ·refine⟨by simp,_,_,_,rfl,hn _ (hm.1 _ (nS _ _ _)),h1,?_,?_,by simp[d5]⟩
    ·rw[aad h2]
    ·rw[aad h2];exact aae f _
   ·have⟨i1,i2⟩:=c2 q hq;exact⟨by simp only[aF,aN];exact .inr i1,i2⟩
  ·rename_i sz rows sz' rows';split at h
   ·rename_i hsz;have⟨m1,h2,h⟩:=ai.1 h;have hm1:=(yP rows _ _ m1 h2).1;have hm:=(l5 r _ m' h).1;obtain⟨n1,a1,qs,b1,c1,e1,g1⟩:=RA hf ho rows _ _ m1 h2 (λ q hq=>hn q (hm.1 q hq)) (λ q hq=>hc q (hm.2 q hq));obtain⟨n2,a2,xs,b2,c2⟩:=Ab hf ho r _ m' h hn hc;refine⟨n1++n2,by rw[a2,a1,(fB _ _ _).1,aM],(k,some (.cells sz qs))::xs,λag=>by simp only[aM,dn,b1,b2],λq hq=>?_⟩;rcases aN.1 hq with rfl |hq
    ·exact⟨by simp,_,_,_,rfl,hn _ (hm.1 _ (hm1.1 _ (nS _ _ _))),h1,hsz,c1,g1⟩
    ·have⟨i1,i2⟩:=c2 q hq;exact⟨by simp only[aF,aN];exact .inr i1,i2⟩
   ·cases h
  ·cases h
theorem ai7{d:DV X}(h:isU d=false)(h':d= .undef):False:=by subst h';cases h
theorem abw{A:Type}{sh:Sh X.ι}{ds:List Nat}{s0 s':de X}{k:VT (X:=X) sh.vars->Option A}{r:A}(hl0:Low s0)(hx:Ext (· ∈ds) s0 s')(h:N5 sh ds s0 s' k=some r):
 ∃v,k v=some r/\Low (encS sh s0 v)/\Ext (· ∈ds) s0 (encS sh s0 v)/\∀(P:Program) (w0:World) (O0:j8) (N:Nat) (β:Nat->Option cL) (I:Nat->Prop) (a:Act) (w:World),Rel P w0 O0 N β I s'.st a w->∃ β',Rel P w0 O0 N β' I (encS sh s0 v).st a w:=by
 unfold N5 at h;have⟨m1,h1,h⟩:=ai.1 h;have⟨m,h2,h⟩:=ai.1 h;have⟨h3,h⟩:=dZ h;have⟨v,h4,h⟩:=ai.1 h;have⟨h5,h6⟩:=pF h;simp only[okS,aK,aS]at h3;obtain⟨⟨⟨⟨⟨⟨⟨⟨n1,n2⟩,n3⟩,n4⟩,n5⟩,n6⟩,n7⟩,n8⟩,n9⟩:=h3;have hm2:=(l5 _ _ _ h2).1;have vl:=VE h4;obtain⟨_,nA,dA,lA⟩:=Ho _ _ _ h1;simp only[bR]at dA;have R2:(m.nm.map (·.1)).Nodup:=(List.nodup_append.1 n1).1;have R1:(m.nm.map (·.2)).Nodup:=(List.nodup_append.1 n2).1;have hsw:((m.nm.map λq=>(q.2,q.1)).map (·.1)).Nodup:=by rw[map_map];exact R1
 generalize hf':(λ j=>match lk m.nm j with |some q=>q |none=>j:Nat->Nat)=f;generalize hg':(λ j=>match lk (m.nm.map λq=>(q.2,q.1)) j with |some q=>q |none=>j:Nat->Nat)=g;have hf:∀q∈m.nm,f q.1=q.2:=by
  rintro⟨p,q⟩ hq;rw[<- hf'];simp only[uU R2 hq]
 have hg:∀q∈m.nm,g q.2=q.1:=by
  rintro⟨p,q⟩ hq;rw[<- hg'];have:(q,p)∈m.nm.map λq=>(q.2,q.1):=mem_map.2 ⟨(p,q),hq,rfl⟩;simp only[uU hsw this]
 have m9:∀j∈sh.da,f j=j:=by
  intro j hj;rw[<- hf'];cases hh:lk m.nm j with
  |none=>simp[hh]
  |some q=>exact((List.nodup_append.1 n1).2.2 j (mem_map.2 ⟨(j,q),rD hh,rfl⟩) j hj rfl).elim
 have HC:∀j∈sh.da,g j=j:=by
  intro j hj;rw[<- hg'];cases hh:lk (m.nm.map λq=>(q.2,q.1)) j with
  |none=>simp[hh]
  |some q=>
   have h1:=rD hh;simp only[mem_map]at h1;obtain⟨z,hz,e⟩:=h1;injection e with e1 e2;exact((List.nodup_append.1 n2).2.2 j (mem_map.2 ⟨z,hz,e1⟩) j hj rfl).elim
 have hg0:∀j,j<1000->g j=j:=by
  intro j hj;rw[<- hg'];cases hh:lk (m.nm.map λq=>(q.2,q.1)) j with
  |none=>simp[hh]
  |some q=>
   have h1:=rD hh;simp only[mem_map]at h1;obtain⟨z,hz,e⟩:=h1;injection e with e1 e2;have:=all_eq_true.1 n4 z hz;simp only[aK,Bool.or_eq_true,aS]at this;simp only[hh];omega
 have hgf:∀j,(DN m.nm j\/j∈sh.da)->g (f j)=j:=by
  rintro j (⟨q,hq⟩ |hj)
  ·rw[hf _ hq];exact hg _ hq
  ·rw[m9 j hj];exact HC j hj
 obtain⟨nB,dB,lB⟩:=D5 (NM:=m.nm) _ _ _ h2 (λ q hq=>hq);have hL:m.ey=nA++nB:=by rw[dB,dA]
 have hdrop:(vY sh.vars v).drop (gO sh.slots).length=nB:=by rw[vl,hL,<- lA,List.drop_left]
 have htake:(vY sh.vars v).take (gO sh.slots).length=nA:=by rw[vl,hL,<- lA,List.take_left]
 generalize hol:(λ k=>(lk (lens sh.cE nB) k).getD 0:Nat->Nat)=dt;have ho:∀q∈m.nm,∀c l,gA s'.obj q.1=some (.d8 c l)->dt q.2=l.length:=by
  rintro⟨p,q⟩ hq c l hl;have hqk:=all_eq_true.1 n4 _ hq;simp only[aK]at hqk;obtain⟨p',o,g1,g2,g3⟩:=lB [] q (by simpa using hqk.1.1);have:p'=p:=by
   have e1:=hg _ g1;have e2:=hg _ hq;simp only at e1 e2;rw[<- e1,e2]
  subst this;simp only at hl;rw[hl]at g2;injection g2 with g2;have h3:=g3 c l g2.symm;rw[append_nil]at h3;rw[<- hol];have hk:=(Jt sh.cE nB).nodup n3;simp only[uU hk h3,Option.getD_some]
 obtain⟨P0,If,es,eA,pA⟩:=MW (NM:=m.nm) (f:=f) (dt:=dt) hf ho _ _ _ h1 (λ q hq=>hm2.1 q hq) (λ c hc=>h5 c (hm2.2 c hc));obtain⟨PT,T7,xs,eB,pB⟩:=Ab (NM:=m.nm) (f:=f) (dt:=dt) hf ho _ _ _ h2 (λ q hq=>hq) h5;have T4:P0=nA:=by simp only[bR]at If;rw[<- If,dA]
 have T3:PT=nB:=List.append_cancel_left (T7.symm.trans dB);subst T4 T3;have H4:=eA [];have H3:=eB [];rw[append_nil]at H4 H3;have hS:encS sh s0 v=⟨es++sh.keep.map (λ t=>(t,eL s0.env t)),xs++sh.da.map (λ k=>(k,gA s0.obj k)),sh.nx,(List.range s0.nx).filter (λ k=>!sh.da.contains k)++s0.log⟩:=by simp only[encS,hdrop,htake,hol,H4,H3]
 have hsn:∀j,SN m.nm j->j<sh.nx:=by
  rintro j ⟨p,hp⟩;have:=all_eq_true.1 n4 _ hp;simp only[aK,aS]at this;exact this.1.2
 have kp:∀j,(sh.da.contains j || m.nm.contains (j,j))=true->j∈sh.da\/(j,j)∈m.nm:=by
  intro j hj;simpa using hj
 have hfp:∀j,j∈sh.da\/(j,j)∈m.nm->f j=j:=λj hj=>hj.elim (m9 j) (λ h=>hf (j,j) h);have hdp:∀j,j∈sh.da\/(j,j)∈m.nm->DN m.nm j\/j∈sh.da:=λj hj=>hj.elim .inr (λ h=> .inl ⟨j,h⟩);have hko:∀j∈sh.da,j<s0.nx/\(∃ o,gA s0.obj j=some o/\gA s'.obj j=some o/\∀i∈d5 o,i∈sh.da\/(i,i)∈m.nm):=by
  intro j hj;have:=all_eq_true.1 n7 _ hj;simp only[aK,aS,Bool.not_eq_true']at this;obtain⟨⟨⟨a1,a2⟩,a3⟩,a4⟩:=this;refine⟨a1,?_⟩;cases ho0:gA s0.obj j with
  |none=>rw[ho0]at a4;cases a4
  |some o=>
   rw[ho0]at a4;refine⟨o,rfl,?_,λi hi=>kp i (all_eq_true.1 a4 i hi)⟩;obtain⟨d,hd,hd2⟩:=hx.obj;have hnd:j∉d:=by
    have e:s'.log.take (s'.log.length -s0.log.length)=d:=(by rw[hd,dL,Nat.add_sub_cancel,List.take_left]);rw[e]at a2;simpa using a2
   rcases hd2 j a1 hnd with h |h
   ·rw[h,ho0]
   ·rw[h]at a3;cases a3
 have hke:∀t∈sh.keep,t∉ds/\eL s'.env t=eL s0.env t/\∀j∈bk (eL s0.env t),j∈sh.da\/(j,j)∈m.nm:=by
  intro t ht;have:=all_eq_true.1 n6 _ ht;simp only[aK,Bool.not_eq_true']at this;obtain⟨⟨a1,a2⟩,a3⟩:=this;have a1':t∉ds:=by simpa using a1
  refine⟨a1',?_,λj hj=>kp j (all_eq_true.1 a3 j hj)⟩;rcases hx.env t a1' with h |h
  ·exact h
  ·exact(ai7 a2 h).elim
 have hks:∀q∈es,q.1∈ds:=by
  intro q hq;have h1:=(pA q hq).1;obtain⟨z,hz,e⟩:=mem_map.1 h1;have:=all_eq_true.1 n5 _ hz;rw[<- e];simpa using this
 have hkeep:∀t,lk (sh.keep.map λt=>(t,eL s0.env t)) t=if t∈sh.keep then some (eL s0.env t)else none:=by
  intro t
  induction sh.keep with
  |nil=>simp[lk]
  |cons q qs ih=>
   simp only[aF,lk,ih,aN];by_cases e:q=t
   ·subst e;simp
   ·rw[aQ e];simp[Ne.symm e]
 have Bi:∀t,lk (sh.da.map λt=>(t,gA s0.obj t)) t=if t∈sh.da then some (gA s0.obj t)else none:=by
  intro t
  induction sh.da with
  |nil=>simp[lk]
  |cons q qs ih=>
   simp only[aF,lk,ih,aN];by_cases e:q=t
   ·subst e;simp
   ·rw[aQ e];simp[Ne.symm e]
 have q7:∀t,(∃ d,(t,d)∈es/\eL (encS sh s0 v).env t=d)\/(t∈sh.keep/\eL (encS sh s0 v).env t=eL s0.env t)\/eL (encS sh s0 v).env t= .undef:=by
  intro t;have e1:eL (encS sh s0 v).env t=(match lk es t with |some d=>some d |none=>if t∈sh.keep then some (eL s0.env t)else none).getD .undef:=by
   rw[hS];show(lk (es++sh.keep.map (λ t=>(t,eL s0.env t))) t).getD .undef=_;rw[Cx,hkeep t];cases lk es t<;>rfl
  rw[e1];cases he:lk es t with
  |some d=>exact .inl ⟨d,rD he,rfl⟩
  |none=>
   by_cases ht:t∈sh.keep
   ·simp only[aX ht];exact .inr (.inl ⟨ht,rfl⟩)
   ·simp only[aQ ht];exact .inr (.inr rfl)
 have gx:∀j o,gA (encS sh s0 v).obj j=some o->(∃ k' o1,(k',j)∈m.nm/\gA s'.obj k'=some o1/\(bI o).sz=(bI o1).sz/\ie (DN m.nm) f (bI o1).rows (bI o).rows/\(∀ i∈d5 o,SN m.nm i))\/(j∈sh.da/\gA s0.obj j=some o):=by
  intro j o hjo;have e1:gA (encS sh s0 v).obj j=(match lk xs j with |some d=>some d |none=>if j∈sh.da then some (gA s0.obj j)else none).join:=by
   rw[hS];show(lk (xs++sh.da.map (λ k=>(k,gA s0.obj k))) j).join=_;rw[Cx,Bi j];cases lk xs j<;>rfl
  rw[e1]at hjo;cases he:lk xs j with
  |some x=>
   rw[he]at hjo;obtain⟨_,k',o1,o',b1,b2,b3,b4,b5,b6⟩:=pB _ (rD he);simp only at b1 b2 hjo;subst b1;simp only[Option.join_some,aA]at hjo;subst hjo;exact .inl ⟨k',o1,b2,b3,b4,b5,b6⟩
  |none=>
   rw[he]at hjo;by_cases hj:j∈sh.da
   ·simp only[aX hj,Option.join_some]at hjo;exact .inr ⟨hj,hjo⟩
   ·simp[aQ hj]at hjo
 have hnx:s0.nx<=sh.nx:=n8;have hkx:∀j,j∈sh.da\/(j,j)∈m.nm->j<sh.nx:=λj hj=>hj.elim (λ hj=>Nat.lt_of_lt_of_le (hko j hj).1 hnx) (λ h=>hsn j ⟨j,h⟩);have hRW:∀{r q:List AV},mS (DN m.nm) f r q->mS (λ j=>DN m.nm j\/j∈sh.da) f r q:=by
  intro r
  induction r with
  |nil=>intro q h;cases q with
   |nil=>trivial
   |cons=>exact h.elim
  |cons x xs ih=>intro q h;cases q with
   |nil=>exact h.elim
   |cons y ys=>exact⟨⟨λ k hk=> .inl (h.1.1 k hk),h.1.2⟩,ih h.2⟩
 have S3:∀{r q:List (List AV)},ie (DN m.nm) f r q->ie (λ j=>DN m.nm j\/j∈sh.da) f r q:=by
  intro r
  induction r with
  |nil=>intro q h;cases q with
   |nil=>trivial
   |cons=>exact h.elim
  |cons x xs ih=>intro q h;cases q with
   |nil=>exact h.elim
   |cons y ys=>exact⟨hRW h.1,ih h.2⟩
 refine⟨v,h6,?_,?_,?_⟩
 ·constructor
  ·rw[hS];exact n9
  ·rw[hS];exact Nat.le_trans hl0.ge n8
  ·intro t j hj;have A1:(encS sh s0 v).nx=sh.nx:=(by rw[hS]);rw[A1];rcases q7 t with ⟨d,h1,h2⟩ |⟨h1,h2⟩ |h2
   ·rw[h2]at hj;exact hsn j ((pA _ h1).2.2.2 j hj)
   ·rw[h2]at hj;exact hkx j ((hke t h1).2.2 j hj)
   ·rw[h2]at hj;simp[bk]at hj
  ·intro j o hjo;have A1:(encS sh s0 v).nx=sh.nx:=(by rw[hS]);rw[A1];rcases gx j o hjo with ⟨k',o1,b1,b2,b3,b4,b5⟩ |⟨b1,b2⟩
   ·exact⟨hsn j ⟨k',b1⟩,λi hi=>hsn i (b5 i hi)⟩
   ·have⟨c1,o',c2,c3,c4⟩:=hko j b1;rw[b2]at c2;cases c2;exact⟨hkx j (.inl b1),λi hi=>hkx i (c4 i hi)⟩
 ·refine⟨λ t ht=>?_,⟨(List.range s0.nx).filter (λ k=>!sh.da.contains k),by rw[hS],λj hj hn=>?_⟩,by rw[hS];exact hnx⟩
  ·rcases q7 t with ⟨d,h1,h2⟩ |⟨h1,h2⟩ |h2
   ·exact(ht (hks _ h1)).elim
   ·exact .inl h2
   ·exact .inr h2
  ·have hjk:j∈sh.da:=(by simpa[hj]using hn);cases hjo:gA (encS sh s0 v).obj j with
   |none=>exact .inr rfl
   |some o=>
    rcases gx j o hjo with ⟨k',o1,b1,_⟩ |⟨b1,b2⟩
    ·exact((List.nodup_append.1 n2).2.2 j (mem_map.2 ⟨(k',j),b1,rfl⟩) j hjk rfl).elim
    ·exact .inl b2.symm
 ·intro P w0 O0 N β I a w hr;refine⟨_,Rel.re (f:=f) (g:=g) (D:=λj=>DN m.nm j\/j∈sh.da) hgf hg0 hr (λ _=> .inl rfl) (λ _=>rfl) (λ t=>?_) (λ j o' hj=>?_)⟩
  ·show den (eL (encS sh s0 v).env t)= .undef\/((∀ k∈refs (den (eL s'.env t)),_)/\li (fX f (den (eL s'.env t))) (den (eL (encS sh s0 v).env t)));rcases q7 t with ⟨d,h1,h2⟩ |⟨h1,h2⟩ |h2
   ·right;rw[h2];obtain⟨_,b1,b2,_⟩:=pA _ h1;exact⟨λ k hk=> .inl (b2 k (by rwa [iO]at hk)),b1⟩
   ·right;have⟨_,b1,b2⟩:=hke t h1;rw[h2,b1];refine⟨λ k hk=>hdp k (b2 k (by rwa [iO]at hk)),?_⟩;rw[<- zZ,Wl _ (λ k hk=>hfp k (b2 k hk))];exact li.refl _
   ·left;rw[h2];rfl
  ·simp only[de.st,dM]at hj;obtain⟨o,hjo,rfl⟩:=hj;rcases gx j o hjo with ⟨k',o1,b1,b2,b3,b4,b5⟩ |⟨b1,b2⟩
   ·exact⟨k',bI o1,by simp[de.st,b2],.inl ⟨j,b1⟩,hf _ b1,b3,S3 b4⟩
   ·have⟨c1,o',c2,c3,c4⟩:=hko j b1;rw[b2]at c2;cases c2;have hid:oR f o=o:=by
     cases o with
     |d8 c l=>rfl
     |map kc vc l=>rfl
     |cells sz rows=>
      simp only[oR];congr 1;have:∀q∈rows,JS f q=q:=λq hq=>Aa q λi hi=>hfp i (c4 i (by
       simp only[d5,List.mem_flatten,mem_map];exact⟨_,⟨q,hq,rfl⟩,hi⟩))
      rw[map_congr_left this];simp
    obtain⟨r1,r2⟩:=Js (D:=λj=>DN m.nm j\/j∈sh.da) f o (λ i hi=>hdp i (c4 i hi));rw[hid]at r1 r2;exact⟨j,bI o,by simp[de.st,c3],.inr b1,m9 j b1,r1,r2⟩
theorem Ext.trans{ds:Nat->Prop}{a b c:de X}(h:Ext ds a b)(h':Ext ds b c):Ext ds a c:=by
 refine⟨λ t ht=>?_,?_,Nat.le_trans h.nx h'.nx⟩
 ·rcases h'.env t ht with h1 |h1
  ·rcases h.env t ht with h2 |h2
   ·exact .inl (h1.trans h2)
   ·exact .inr (h1.trans h2)
  ·exact .inr h1
 ·obtain⟨d,h1,h2⟩:=h.obj;obtain⟨d',h3,h4⟩:=h'.obj;refine⟨d'++d,by rw[h3,h1,aM],λk hk hn=>?_⟩;simp only[bf,not_or]at hn;rcases h4 k (Nat.lt_of_lt_of_le hk h.nx) hn.1 with h5 |h5
  ·rcases h2 k hk hn.2 with h6 |h6
   ·exact .inl (h5.trans h6)
   ·exact .inr (h5.trans h6)
  ·exact .inr h5
theorem Ext.refl(ds:Nat->Prop)(s:de X):Ext ds s s:=⟨λ _ _=> .inl rfl,⟨[],by simp,λ_ _ _=> .inl rfl⟩,aC _⟩
def Says(s s':de X):Prop:=∀(P:Program) (w0:World) (O0:j8) (N:Nat) (β:Nat->Option cL) (I:Nat->Prop) (a:Act) (w:World),Rel P w0 O0 N β I s.st a w->∃ β',Rel P w0 O0 N β' I s'.st a w
theorem Low.room{s:de X}{P:Program}{w0:World}{O0:j8}{N:Nat}{β:Nat->Option cL}{I:Nat->Prop}{a:Act}{w:World}(hl:Low s)(hr:Rel P w0 O0 N β I s.st a w):∃ β2,β2 s.nx=none/\Rel P w0 O0 N β2 I s.st a w:=by
 have hr1:=hr.restrict hl.old
 have hr2:=Rel.re (f:=id) (g:=λj=>if j<s.nx then j else 1000000) (D:=(· <s.nx)) (s':=s.st) (λ k hk=>aX hk) (λ j hj=>aX (by have:=hl.ge;omega)) hr1 (λ _=> .inl rfl) (λ _=>rfl)
  (λ q=> .inr ⟨λ k hk=>hl.env q k (by rw[<- iO];exact hk),by
   show li (fX id (den (eL s.env q))) (den (eL s.env q));rw[<- zZ,Wl (f:=id) _ (λ _ _=>rfl)];exact li.refl _⟩)
  (λ j o' hj=>by
   simp only[de.st,dM]at hj;obtain⟨x,hx,rfl⟩:=hj;have⟨h1,h2⟩:=hl.obj j x hx;have⟨r1,r2⟩:=Js (D:=(· <s.nx)) id x h2;have hid:oR id x=x:=by
    cases x with
    |d8 c l=>rfl
    |map kc vc l=>rfl
    |cells sz rows=>
     simp only[oR];congr 1;have:∀q∈rows,JS id q=q:=λq _=>Aa (f:=id) q λ_ _=>rfl;rw[map_congr_left this];simp
   rw[hid]at r1 r2;exact⟨j,bI x,by simp[de.st,hx],h1,rfl,r1,r2⟩)
 exact⟨_,by simp,hr2⟩
theorem amP(z:Bool)(k:Nat):bk (nz (X:=X) z k)=[k]:=by cases z<;>rfl
theorem Wn{ds:List Nat}{z:Bool}{s:de X}{t:Nat}{c:CT X.ι}(hl:Low s)(ht:t∈ds):Low (zE z s t c)/\Ext (· ∈ds) s (zE z s t c)/\Says s (zE z s t c):=by
 unfold zE;split
 ·rename_i hn;split
  ·rename_i hlt;have he:∀q,eL ((t,nz z s.nx)::s.env) q=if t=q then nz z s.nx else eL s.env q:=λq=>by
    simp only[eL,lk];by_cases e:t=q<;>simp[e]
   have hO:∀q,gA ((s.nx,some (.d8 c []))::s.obj) q=if s.nx=q then some (.d8 c [])else gA s.obj q:=λq=>by
    simp only[gA,lk];by_cases e:s.nx=q<;>simp[e]
   refine⟨⟨by show s.nx+1<=1000000;omega,by have:=hl.ge;show 1000<=s.nx+1;omega,λq k hk=>?_,λk o ho=>?_⟩,⟨λ q hq=>?_,⟨[s.nx],rfl,λk hk hnk=>?_⟩,by show s.nx<=s.nx+1;omega⟩,λP w0 O0 N β I a w hr=>?_⟩
   ·rw[he]at hk;split at hk
    ·simp only[amP,aW]at hk;subst hk;show s.nx<s.nx+1;omega
    ·have:=hl.env q k hk;show k<s.nx+1;omega
   ·rw[hO]at ho;split at ho
    ·rename_i e;cases ho;subst e;exact⟨by show s.nx<s.nx+1;omega,by simp[d5]⟩
    ·have⟨h1,h2⟩:=hl.obj k o ho;exact⟨by show k<s.nx+1;omega,λj hj=>by have:=h2 j hj;show j<s.nx+1;omega⟩
   ·left;rw[he,aQ];intro e;subst e;exact hq ht
   ·left;rw[hO,aQ (by omega)]
   ·have⟨β2,D4,hr2⟩:=hl.room hr;have⟨hS,hM⟩:=Mem.pp (i:=s.nx) (o:=bI (.d8 c []:bm X)) hr2.mem D4 rfl;refine⟨ins β2 s.nx .none,hr2.defers,hr2.size,λq=>?_,?_⟩
    ·have h1:=hr2.env q;show eI P _ w I (den (eL ((t,nz z s.nx)::s.env) q)) none _;rw[he];by_cases e:t=q
     ·subst e;rw[aX rfl];have h2:VR P _ w I (den (eL s.env t)) (a.tmps.getD t undef):=h1;rw[hn]at h2;simp only[den,VR]at h2;cases z with
      |false=>simp only[eI,nz,ak,den,VR];exact .inl ⟨by simp[ins],h2,trivial,trivial⟩
      |true=>simp only[eI,nz,aj,den,VR];exact .inl ⟨trivial,h2⟩
     ·rw[aQ e];exact eI.mono hS.ext hS.same hS.inc h1
    ·have e:(λ k=>(gA ((s.nx,some (.d8 c []))::s.obj) k).map bI)=cO s.st.obj [(s.nx,some (bI (.d8 c []:bm X)))]:=by
      funext q;simp only[cO,de.st];rw[hO];by_cases e:s.nx=q
      ·simp[e]
      ·rw[aQ e,aQ (Ne.symm e)]
     show Mem P w0 O0 _ I (λ k=>(gA ((s.nx,some (.d8 c []))::s.obj) k).map bI) w;rw[e];exact hM
  ·exact⟨hl,Ext.refl _ s,λ_ _ _ _ β _ _ _ h=>⟨β,h⟩⟩
 ·exact⟨hl,Ext.refl _ s,λ_ _ _ _ β _ _ _ h=>⟨β,h⟩⟩
theorem Wo(y:DV X):∀(l:List (DV X))(j i:Nat),i∈aP (l.set j y)->i∈aP l\/i∈bk y
 |[],_,_,h=> .inl (by simpa using h)
 |x::l,0,i,h=>by
  simp only[List.set,aP,bf]at h ⊢;rcases h with h |h
  ·exact .inr h
  ·exact .inl (.inr h)
 |x::l,j+1,i,h=>by
  simp only[List.set,aP,bf]at h ⊢;rcases h with h |h
  ·exact .inl (.inl h)
  ·rcases Wo y l j i h with h |h
   ·exact .inl (.inr h)
   ·exact .inr h
theorem bj.set{P:Program}{β:Nat->Option cL}{w:World}{I:Nat->Prop}{y:AV}:∀(xs:List AV)(vs:List Value)(j:Nat),(∀ x v,xs[j]? =some x->VR P β w I x v->VR P β w I y v)->bj P β w I xs vs->bj P β w I (xs.set j y) vs
 |[],vs,_,_,h=>by simpa using h
 |x::xs,[],_,_,h=>by simp[bj]at h
 |x::xs,v::vs,0,hy,h=>by simp only[bj,List.set]at h ⊢;exact⟨hy x v rfl h.1,h.2⟩
 |x::xs,v::vs,j+1,hy,h=>by simp only[bj,List.set]at h ⊢;exact⟨h.1,bj.set xs vs j (λ x v e=>hy x v (by simpa using e)) h.2⟩
theorem OR.set1{P:Program}{β:Nat->Option cL}{w:World}{I:Nat->Prop}{sz:Nat}{row:List AV}{j:Nat}{y:AV}{B:cL}(hy:∀x v,row[j]? =some x->VR P β w I x v->VR P β w I y v)(h:OR P β w I ⟨sz,[row]⟩ B):OR P β w I ⟨sz,[row.set j y]⟩ B:=by
 cases B with
 |none=>simp[OR]at h
 | «at» b s n=>
  obtain⟨h1,c,e,h2,h3,h4⟩:=h;refine⟨h1,c,e,h2,h3,?_⟩;simp only[bp,List.length_set]at h4 ⊢;refine⟨h4.1,?_,trivial⟩;rw[jv]at h4 ⊢;intro i x hx;rw[List.getElem?_set]at hx;split at hx
  ·rename_i e;subst e;split at hx
   ·cases hx;rename_i hlt;obtain⟨v,g1,g2,g3⟩:=h4.2.1 j _ (dJ hlt);exact⟨v,g1,hy _ v (dJ hlt) g2,g3⟩
   ·cases hx
  ·exact h4.2.1 i x hx
 |mp b=>
  obtain⟨es,cl,h1,hle,h2,h3⟩:=h;refine⟨es,cl,h1,hle,λe=>?_,h3⟩;have:=h2 e
  match hes:es.toList,this with
  |[e1],this=>simp only[cp]at this ⊢;exact⟨bj.set _ _ j hy this.1,trivial⟩
  |[],this=>simp[cp]at this
  |_::_::_,this=>simp[cp]at this
theorem adG(y:DV X):∀(l:List (DV X))(j:Nat),bP (l.set j y)=(bP l).set j (den y)
 |[],_=>by simp[bP]
 |x::l,0=>by simp[bP]
 |x::l,j+1=>by simp[bP,adG y l j]
theorem af7{ds:List Nat}{s:de X}{q j:Nat}{c:CT X.ι}(hl:Low s):Low (FA s q j c)/\Ext (· ∈ds) s (FA s q j c)/\Says s (FA s q j c):=by
 unfold FA;split
 ·rename_i sz row hq;split
  ·rename_i hn;split
   ·rename_i hlt;have hqn:q<s.nx:=(hl.obj q _ hq).1;have hrefs:∀k∈aP row,k<s.nx:=λk hk=>(hl.obj q _ hq).2 k (by simpa[d5]using hk);have hO:∀k,gA ((q,some (.cells sz [row.set j (.own s.nx 0 0)]))::(s.nx,some (.d8 c []))::s.obj) k=if q=k then some (.cells sz [row.set j (.own s.nx 0 0)])else if s.nx=k then some (.d8 c [])else gA s.obj k:=λk=>by
     simp only[gA,lk];by_cases e:q=k
     ·simp[e]
     ·by_cases e':s.nx=k<;>simp[e,e']
    refine⟨⟨by show s.nx+1<=1000000;omega,by have:=hl.ge;show 1000<=s.nx+1;omega,λk i hk=>by have:=hl.env k i hk;show i<s.nx+1;omega,λk o ho=>?_⟩,⟨λ _ _=> .inl rfl,⟨[q,s.nx],rfl,λk hk hnk=>?_⟩,by show s.nx<=s.nx+1;omega⟩,λP w0 O0 N β I a w hr=>?_⟩
    ·rw[hO]at ho;split at ho
     ·rename_i e;cases ho;subst e;refine⟨by show q<s.nx+1;omega,λi hi=>?_⟩;show i<s.nx+1;simp only[d5,aF,map_nil,flatten_cons,List.flatten_nil,append_nil]at hi;rcases Wo _ _ _ _ hi with h1 |h1
      ·have:=hrefs i h1;omega
      ·simp only[bk,aW]at h1;omega
     ·split at ho
      ·rename_i e;cases ho;subst e;exact⟨by show s.nx<s.nx+1;omega,by simp[d5]⟩
      ·have⟨h1,h2⟩:=hl.obj k o ho;exact⟨by show k<s.nx+1;omega,λi hi=>by have:=h2 i hi;show i<s.nx+1;omega⟩
    ·left;simp only[aN,fq,or_false,not_or]at hnk;rw[hO,aQ (Ne.symm hnk.1),aQ (Ne.symm hnk.2)]
    ·have⟨β2,D4,hr2⟩:=hl.room hr;have⟨hS,hM⟩:=Mem.pp (i:=s.nx) (o:=bI (.d8 c []:bm X)) hr2.mem D4 rfl;refine⟨ins β2 s.nx .none,hr2.defers,hr2.size,λk=>eI.mono hS.ext hS.same hS.inc (hr2.env k),?_⟩;refine hM.weak λk o' ho=>?_;simp only[de.st]at ho;rw[hO]at ho;by_cases e:q=k
     ·subst e;rw[aX rfl,Option.map_some]at ho;cases ho;refine⟨bI (.cells sz [row]),by simp only[cO];rw[aQ (by omega)];simp[de.st,hq],λB _ hB=>?_⟩;simp only[bI,aF,map_nil,adG]at hB ⊢;refine OR.set1 (λ x v hx hv=>?_) hB;rw[nQ,List.getElem?_map,hn]at hx;cases hx;simp only[den,VR]at hv ⊢;exact .inl ⟨by simp[ins],hv,trivial,trivial⟩
     ·rw[aQ e]at ho;refine⟨o',?_,λ_ _ h=>h⟩;simp only[cO];by_cases e':s.nx=k
      ·subst e';rw[aX rfl]at ho ⊢;simpa using ho
      ·rw[aQ e']at ho;rw[aQ (Ne.symm e')];exact ho
   ·exact⟨hl,Ext.refl _ s,λ_ _ _ _ β _ _ _ h=>⟨β,h⟩⟩
  ·exact⟨hl,Ext.refl _ s,λ_ _ _ _ β _ _ _ h=>⟨β,h⟩⟩
 ·exact⟨hl,Ext.refl _ s,λ_ _ _ _ β _ _ _ h=>⟨β,h⟩⟩
theorem MX{ds:List Nat}:∀(l:List (Nat×CT X.ι)){s:de X},Low s->(∀ p∈l,(bif Nat.ble 1000000 p.1 then !Nat.ble 1099511627776 p.1 || ds.contains (p.1 -1099511627776)else ds.contains p.1)=true)->Low (PO l s)/\Ext (· ∈ds) s (PO l s)/\Says s (PO l s)
 |[],s,hl,_=>⟨hl,Ext.refl _ s,λ_ _ _ _ β _ _ _ h=>⟨β,h⟩⟩
 |(t,c)::r,s,hl,hd=>by
  generalize hs:(bif Nat.ble 1000000 t then bif Nat.ble 1099511627776 t then zE true s (t -1099511627776) c else FA s ((t -1000000)/4096) ((t -1000000)%4096) c else zE false s t c)=s1;have h0:Low s1/\Ext (· ∈ds) s s1/\Says s s1:=by
   have hd0:=hd (t,c) (by simp);simp only at hd0;subst hs;cases hb:Nat.ble 1000000 t with
   |true=>
    rw[hb]at hd0;cases hb2:Nat.ble 1099511627776 t with
    |true=>rw[hb2]at hd0;exact Wn hl (by simpa using hd0)
    |false=>exact af7 hl
   |false=>rw[hb]at hd0;exact Wn hl (by simpa using hd0)
  obtain⟨h1,h2,h3⟩:=h0;simp only[PO,hs];obtain⟨g1,g2,g3⟩:=MX r h1 (λ p hp=>hd p (by simp[hp]));refine⟨g1,h2.trans g2,λP w0 O0 N β I a w hr=>?_⟩;have⟨β',hr'⟩:=h3 P w0 O0 N β I a w hr;exact g3 P w0 O0 N β' I a w hr'
theorem kZ{A:Type}{sh:Sh X.ι}{ds:List Nat}{s0 s':de X}{k:VT (X:=X) sh.vars->Option A}{r:A}(hl0:Low s0)(hl':Low s')(hx:Ext (· ∈ds) s0 s')(h:qh sh ds s0 s' k=some r):
 ∃v,k v=some r/\Low (encS sh s0 v)/\Ext (· ∈ds) s0 (encS sh s0 v)/\Says s' (encS sh s0 v):=by
 unfold qh at h;have⟨h1,h2⟩:=dZ h;obtain⟨g1,g2,g3⟩:=MX (ds:=ds) sh.AH hl' (λ p hp=>all_eq_true.1 h1 p hp);have⟨v,i1,i2,i3,i4⟩:=abw hl0 (hx.trans g2) h2;refine⟨v,i1,i2,i3,λP w0 O0 N β I a w hr=>?_⟩;have⟨β',hr'⟩:=g3 P w0 O0 N β I a w hr;exact i4 P w0 O0 N β' I a w hr'
end
def gG:Code->List Nat
 | .region _ al _=>al.toList.filterMap (·.dst)
 | .seq a b=>gG a++gG b
 | .cond _ a b=>gG a++gG b
 | .block _ b=>gG b
 | .loop b=>gG b
 |_=>[]
section
variable {X:SX}
section
variable {P:Program} {N:Nat}
def Ky{A:Type}(ds:List Nat)(s:de X)(k:Exit->de X->Option A)(r:A)(e:Exit)(σ:St):Prop:=∃s',Low s'/\Ext (· ∈ds) s s'/\σ=s'.st/\k e s'=some r
theorem ahY{c:Code}{Q Q':Exit->St->Prop}{σ:St}(h:Ev P N c Q σ)(ht:∀e σ,Q e σ->∀w0 O0 β I a w,Rel P w0 O0 N β I σ a w->∃ β' σ',Rel P w0 O0 N β' I σ' a w/\tB σ'/\Q' e σ'):Ev P N c Q' σ:=by
 intro w0 O0 β I a w hr ho;refine wp_mono (h w0 O0 β I a w hr ho) ?_;rintro e a' w' ⟨β',I',σ',h1,_,h3⟩;have⟨β2,σ2,g1,g2,g3⟩:=ht e σ' h3 w0 O0 β' I' a' w' h1;exact⟨β2,I',σ2,g1,g2,g3⟩
end
end
inductive Hn(ι:Type) where
 |z
 |f (l:List Nat)
 |s (a b:Hn ι)
 |b (a:Hn ι)
 |j (sh:Sh ι) (a:Hn ι)
 |jx (sh:Sh ι) (a:Hn ι)
 |l (head:Sh ι) (id:Nat) (ab:Sh ι) (a:Hn ι)
 |lx (head:Sh ι) (id:Nat) (ab:Sh ι) (a:Hn ι)
 |rg (head:Sh ι) (a:Hn ι)
 |un (a r:Hn ι)
def Hn.fz{ι:Type}:Hn ι->List Nat
 | .f is=>is
 |_=>[]
def Hn.fst{ι:Type}:Hn ι->Hn ι
 | .s a _=>a
 |_=> .z
def Hn.snd{ι:Type}:Hn ι->Hn ι
 | .s _ y=>y
 |_=> .z
def Hn.sub{ι:Type}:Hn ι->Hn ι
 | .b a=>a
 |_=> .z
def iter{V O:Type}(step:V->Option (V⊕O)):Nat->V->Option O
 | 0,_=>none
 |n+1,v=>(step v).bind λr=>match r with
  | .inl v=>iter step n v
  | .inr o=>some o
def Lo{X:SX}{A:Type}(body:Hn X.ι->de X->(Exit->de X->Option A)->Option A):Hn X.ι->de X->(Exit->de X->Option A)->Option A
 | .un a r,s,k=>body a s λe s'=>match e with
  | .normal=>Lo body r s' k
  |e=>k e s'
 |_,_,_=>none
def dw{W A:Type}(o:Option (W⊕A))(f:W->Option A):Option A:=o.bind λr=>match r with
 | .inl w=>f w
 | .inr a=>some a
noncomputable def both{A:Type}(x y:Option A):Option A:=open Classical in if x=y then x else none
theorem ai8{A:Type}{x y:Option A}{r:A}(h:both x y=some r):x=some r/\y=some r:=by
 unfold both at h;split at h
 ·rename_i e;exact⟨h,e ▸ h⟩
 ·cases h
theorem ai9{A:Type}(x:Option A):both x x=x:=by simp[both]
section
variable {X:SX}
def Ge(ds:List Nat)(s:de X)(h:Hn X.ι){A:Type}(k:Exit->de X->Option A)(body:(B:Type)->Hn X.ι->(Exit->de X->Option B)->Option B):Option A:=
 match h with
 | .j sh h'=>(body (VT (X:=X) sh.vars) h' λe s'=>match e with
  | .normal=>qh sh ds s s' some
  |_=>none).bind λv=>k .normal (encS sh s v)
 | .jx sh h'=>dw (body (VT (X:=X) sh.vars⊕A) h' λe s'=>match e with
  | .normal=>qh sh ds s s' λv=>some (.inl v)
  |e=>(k e s').map .inr) λv=>k .normal (encS sh s v)
 |h=>body A h k
variable (Γ:FuncId->Option (bz X)) (T:ea) (am:TypeId->Option (CT X.ι)) (N n:Nat)
noncomputable def run:Code->(A:Type)->Hn X.ι->de X->(Exit->de X->Option A)->Option A
 | .skip,_,_,s,k=>k .normal s
 | .region id al d,A,h,s,k=>Ge (gG (.region id al d)) s h k λ_ h k=>Z2 Γ h.fz T am N al d s (k .normal)
 | .seq x y,A,h,s,k=>Ge (gG (.seq x y)) s h k λB h k=>run x B h.fst s λe s'=>match e with
  | .normal=>run y B h.snd s' k
  |e=>k e s'
 | .cond c x y,A,h,s,k=>Ge (gG (.cond c x y)) s h k λB h k=>match YE (eL s.env) c with
  | .c .bool v=>bif v then run x B h.fst s k else run y B h.snd s k
  | .ub=>both (run x B h.fst s k) (run y B h.snd s k)
  |_=>none
 | .block id b,A,h,s,k=>Ge (gG (.block id b)) s h k λB h k=>run b B h.sub s λe s'=>match e with
  | .exit j=>if j=id then k .normal s' else k (.exit j) s'
  |e=>k e s'
 | .loop b,A,h,s,k=>match h with
  | .l hd id ab h'=>qh hd (gG b) s s λv0=>(iter (λ v=>run b (VT (X:=X) hd.vars⊕VT (X:=X) ab.vars) h' (encS hd s v) λe s'=>match e with
   | .normal=>qh hd (gG b) s s' λv=>some (.inl v)
   | .exit j=>if j=id then qh ab (gG b) s s' λw=>some (.inr w)else none
   |_=>none) n v0).bind λw=>k (.exit id) (encS ab s w)
  | .lx hd id ab h'=>qh hd (gG b) s s λv0=>dw (iter (λ v=>run b (VT (X:=X) hd.vars⊕(VT (X:=X) ab.vars⊕A)) h' (encS hd s v) λe s'=>match e with
   | .normal=>qh hd (gG b) s s' λv=>some (.inl v)
   | .exit j=>if j=id then qh ab (gG b) s s' λw=>some (.inr (.inl w))else(k (.exit j) s').map λa=> .inr (.inr a)
   |e=>(k e s').map λa=> .inr (.inr a)) n v0) λw=>k (.exit id) (encS ab s w)
  | .un a r=>Lo (λ h s k=>run b A h s k) (.un a r) s k
  |_=>none
 | .exit id,_,_,s,k=>k (.exit id) s
 | .ret,_,_,s,k=>k .ret s
 | .label _,_,_,s,k=>k .normal s
 |_,_,_,_,_=>none
section
variable {Γ:FuncId->Option (bz X)} {T:ea} {am:TypeId->Option (CT X.ι)} {N n:Nat} {P:Program}
theorem Ext.wide{ds ds':Nat->Prop}{a b:de X}(h:Ext ds a b)(hd:∀t,ds t->ds' t):Ext ds' a b:=⟨λ t ht=>h.env t λhh=>ht (hd t hh),h.obj,h.nx⟩
theorem map_inr{α β:Type}{o:Option β}{r:α⊕β}(h:o.map Sum.inr=some r):∃b,o=some b/\r= .inr b:=by
 cases o with
 |none=>cases h
 |some b=>injection h with h;exact⟨b,rfl,h.symm⟩
theorem D6{c:Code}{s:de X}{h:Hn X.ι}{A:Type}{k:Exit->de X->Option A}{r:A}{body:(B:Type)->Hn X.ι->(Exit->de X->Option B)->Option B}(hl:Low s)
 (hb:∀(B:Type)(h:Hn X.ι)(k:Exit->de X->Option B)(r:B),body B h k=some r->Ev P N c (Ky (gG c) s k r) s.st) (hr:Ge (gG c) s h k body=some r):Ev P N c (Ky (gG c) s k r) s.st:=by
 unfold Ge at hr;split at hr
 ·rename_i sh h';rw[ai]at hr;obtain⟨v,h1,hr⟩:=hr;refine ahY (hb _ _ _ _ h1) ?_;rintro e σ ⟨s',g1,g2,rfl,g4⟩ w0 O0 β I a w hrel;cases e<;>simp only[reduceCtorEq]at g4;have⟨v',i1,i2,i3,i4⟩:=kZ hl g1 g2 g4;cases i1;have⟨β',i5⟩:=i4 P w0 O0 N β I a w hrel;exact⟨β',_,i5,i2.old,_,i2,i3,rfl,hr⟩
 ·rename_i sh h';unfold dw at hr;have⟨v,h1,hr⟩:=ai.1 hr;refine ahY (hb _ _ _ _ h1) ?_;rintro e σ ⟨s',g1,g2,rfl,g4⟩ w0 O0 β I a w hrel;have other:(k e s').map Sum.inr=some v->∃ β' σ',Rel P w0 O0 N β' I σ' a w/\tB σ'/\Ky (gG c) s k r e σ':=by
   intro hm;obtain⟨b,hk,rfl⟩:=map_inr hm;cases hr;exact⟨β,_,hrel,g1.old,s',g1,g2,rfl,hk⟩
  cases e with
  |normal=>
   simp only at g4;have⟨v',i1,i2,i3,i4⟩:=kZ hl g1 g2 g4;cases i1;have⟨β',i5⟩:=i4 P w0 O0 N β I a w hrel;exact⟨β',_,i5,i2.old,_,i2,i3,rfl,hr⟩
  |_=>exact other g4
 ·exact hb _ _ _ _ hr
theorem aja{id:Nat}{al:Array Oper}{d:Bool}{t:Nat}(h:Ry al t):t∈gG (.region id al d):=by
 obtain⟨j,op,h1,h2⟩:=h;simp only[gG,List.mem_filterMap];exact⟨op,by rw[<- Array.getElem?_toList]at h1;exact dm h1,h2⟩
theorem Wp{b:Code}{s:de X}{hd:Sh X.ι}{O:Type}{step:VT (X:=X) hd.vars->Option (VT (X:=X) hd.vars⊕O)}{kb:Exit->de X->Option (VT (X:=X) hd.vars⊕O)}{Q:Exit->St->Prop}(hl:Low s)
 (hkn:∀s',kb .normal s'=qh hd (gG b) s s' λv=>some (.inl v))
 (hstep:∀v r,Low (encS hd s v)->step v=some r->Ev P N b (Ky (gG b) (encS hd s v) kb r) (encS hd s v).st)
 {o:O} (hQ:∀e s',e≠ .normal->Low s'->Ext (· ∈gG b) s s'->kb e s'=some (.inr o)->∀w0 O0 β I a w,Rel P w0 O0 N β I s'.st a w->∃ β' σ',Rel P w0 O0 N β' I σ' a w/\tB σ'/\Q e σ')
 (hno:∀e s' v,e≠ .normal->kb e s'=some (.inl v)->False) (n:Nat) (v0:VT (X:=X) hd.vars) (h:iter step n v0=some o) (hl0:Low (encS hd s v0)) (hx0:Ext (· ∈gG b) s (encS hd s v0)):Ev P N (.loop b) Q (encS hd s v0).st:=by
 intro w0 O0 β I a w hr ho;refine ZF (λ n a w=>∃ β I v,Rel P w0 O0 N β I (encS hd s v).st a w/\iter step n v=some o/\Low (encS hd s v)/\Ext (· ∈gG b) s (encS hd s v)) (λ a w ⟨_,_,v,_,h,_⟩=>by cases h) ?_ n a w ⟨β,I,v0,hr,h,hl0,hx0⟩;rintro n a w ⟨β,I,v,hr,hi,hlv,hxv⟩;simp only[iter]at hi;have⟨r,h1,hi⟩:=ai.1 hi;refine wp_mono (hstep v r hlv h1 w0 O0 β I a w hr hlv.old) ?_;rintro e a' w' ⟨β',I',σ',g1,_,s',g2,g3,rfl,g4⟩;have hxs:=hxv.trans g3;by_cases he:e= .normal
 ·subst he;rw[hkn]at g4;have⟨v',i1,i2,i3,i4⟩:=kZ hl g2 hxs g4;cases i1;have⟨β2,i5⟩:=i4 P w0 O0 N β' I' a' w' g1;exact⟨β2,I',v',i5,hi,i2,i3⟩
 ·cases r with
  |inl v'=>exact(hno e s' v' he g4).elim
  |inr o'=>
   cases hi;have⟨β2,σ2,i1,i2,i3⟩:=hQ e s' he g2 hxs g4 w0 O0 β' I' a' w' g1;cases e with
   |normal=>exact(he rfl).elim
   |_=>exact⟨β2,I',σ2,i1,i2,i3⟩
theorem Wq{A:Type}{sh:Sh X.ι}{ds:List Nat}{s0 s':de X}{k:VT (X:=X) sh.vars->Option A}{r:A}(h:qh sh ds s0 s' k=some r):∃v,k v=some r:=by
 unfold qh at h;have⟨_,h⟩:=dZ h;unfold N5 at h;have⟨m1,h1,h⟩:=ai.1 h;have⟨m,h2,h⟩:=ai.1 h;have⟨h3,h⟩:=dZ h;have⟨v,h4,h⟩:=ai.1 h;exact⟨v,(pF h).2⟩
theorem adH{α β γ:Type}{o:Option γ}{r:α⊕(β⊕γ)}(h:o.map (λ a=>Sum.inr (Sum.inr a))=some r):∃b,o=some b/\r= .inr (.inr b):=by
 cases o with
 |none=>cases h
 |some b=>injection h with h;exact⟨b,rfl,h.symm⟩
def Hn.len{ι:Type}:Hn ι->Nat
 | .un _ r=>r.len+1
 |_=>0
theorem ajb{b:Code}{A:Type}{body:Hn X.ι->de X->(Exit->de X->Option A)->Option A}{s0:de X}{k:Exit->de X->Option A}{r:A}
 (hb:∀(h:Hn X.ι)(s:de X)(k:Exit->de X->Option A)(r:A),Low s->body h s k=some r->Ev P N b (Ky (gG b) s k r) s.st)
 {h:Hn X.ι} (hl:Low s0) (hr:Lo body h s0 k=some r):Ev P N (.loop b) (Ky (gG (.loop b)) s0 k r) s0.st:=by
 refine amz (λ n σ=>∃(h:Hn X.ι)(s:de X),σ=s.st/\h.len=n/\Low s/\Ext (· ∈gG b) s0 s/\Lo body h s k=some r) ?_ ?_ h.len ⟨h,s0,rfl,rfl,hl,Ext.refl _ s0,hr⟩
 ·rintro σ ⟨h,s,_,h1,_,_,h2⟩;cases h<;>first |cases h2 |cases h1
 ·rintro n σ ⟨h,s,rfl,h1,h2,h3,h4⟩;cases h<;>try cases h4
  rename_i a q;simp only[Hn.len,Nat.add_right_cancel_iff]at h1;refine(hb a s _ r h2 h4).mono ?_;rintro e σ ⟨s',g1,g2,rfl,g4⟩;have hx:=h3.trans g2;cases e with
  |normal=>exact⟨q,s',rfl,h1,g1,hx,g4⟩
  |_=>exact⟨s',g1,hx,rfl,g4⟩
theorem kN(hT:eY P T)(hm:P.follows .mixedOrders=true)(hΓ:sC P Γ):∀(c:Code)(A:Type)(h:Hn X.ι)(s:de X)(k:Exit->de X->Option A)(r:A),Low s->run Γ T am N n c A h s k=some r->Ev P N c (Ky (gG c) s k r) s.st
 | .skip,A,h,s,k,r,hl,hr=>amw ⟨s,hl,Ext.refl _ s,rfl,hr⟩
 | .exit id,A,h,s,k,r,hl,hr=>amx ⟨s,hl,Ext.refl _ s,rfl,hr⟩
 | .ret,A,h,s,k,r,hl,hr=>an9 ⟨s,hl,Ext.refl _ s,rfl,hr⟩
 | .label l,A,h,s,k,r,hl,hr=>akr ⟨s,hl,Ext.refl _ s,rfl,hr⟩
 | .region id al d,A,h,s,k,r,hl,hr=>by
  refine D6 hl (λ B h k r hb=>?_) hr;have⟨s',g1,g2,g3,g4⟩:=abu (id:=id) hT hm hΓ hl hb;exact g4.mono λe σ ⟨he,hσ⟩=>⟨s',g2,g3.wide λt ht=>aja ht,hσ,by rw[he];exact g1⟩
 | .seq x y,A,h,s,k,r,hl,hr=>by
  refine D6 hl (λ B h k r hb=>?_) hr;refine aoa ((kN hT hm hΓ x B _ s _ r hl hb).mono ?_);rintro e σ ⟨s',g1,g2,rfl,g4⟩;have wide:Ext (· ∈gG (.seq x y)) s s':=g2.wide λt ht=>by simp[gG,ht]
  cases e with
  |normal=>
   exact(kN hT hm hΓ y B _ s' k r g1 g4).mono λe σ ⟨s2,i1,i2,i3,i4⟩=>⟨s2,i1,wide.trans (i2.wide λt ht=>by simp[gG,ht]),i3,i4⟩
  |_=>exact⟨s',g1,wide,rfl,g4⟩
 | .cond c x y,A,h,s,k,r,hl,hr=>by
  refine D6 hl (λ B h k r hb=>?_) hr;split at hb
  ·rename_i v hv;refine amy v (λ _ _=>rfl) ?_ ?_
   ·have:=Vq (eL s.env) c;rw[hv]at this;exact this.symm
   ·cases v with
    |true=>exact(kN hT hm hΓ x B _ s k r hl hb).mono λe σ ⟨s2,i1,i2,i3,i4⟩=>⟨s2,i1,i2.wide λt ht=>by simp[gG,ht],i3,i4⟩
    |false=>exact(kN hT hm hΓ y B _ s k r hl hb).mono λe σ ⟨s2,i1,i2,i3,i4⟩=>⟨s2,i1,i2.wide λt ht=>by simp[gG,ht],i3,i4⟩
  ·rename_i hv;have⟨hb1,hb2⟩:=ai8 hb;refine afD (λ _ _=>rfl) ?_ ?_ ?_
   ·have:=Vq (eL s.env) c;rw[hv]at this;exact this.symm
   ·exact(kN hT hm hΓ x B _ s k r hl hb1).mono λe σ ⟨s2,i1,i2,i3,i4⟩=>⟨s2,i1,i2.wide λt ht=>by simp[gG,ht],i3,i4⟩
   ·exact(kN hT hm hΓ y B _ s k r hl hb2).mono λe σ ⟨s2,i1,i2,i3,i4⟩=>⟨s2,i1,i2.wide λt ht=>by simp[gG,ht],i3,i4⟩
  ·cases hb
 | .block id b,A,h,s,k,r,hl,hr=>by
  refine D6 hl (λ B h k r hb=>?_) hr;refine aks ((kN hT hm hΓ b B _ s _ r hl hb).mono ?_);rintro e σ ⟨s',g1,g2,rfl,g4⟩;cases e with
  |exit j=>
   simp only[ZS];simp only at g4;split
   ·rw[aX ‹_›]at g4;exact⟨s',g1,g2,rfl,g4⟩
   ·rw[aQ ‹_›]at g4;exact⟨s',g1,g2,rfl,g4⟩
  |_=>exact⟨s',g1,g2,rfl,g4⟩
 | .loop b,A,h,s,k,r,hl,hr=>by
  simp only[run]at hr;split at hr
  ·rename_i hd id ab h';obtain⟨v0,h1,h2,h3,h4⟩:=kZ hl hl (Ext.refl _ s) hr;rw[ai]at h1;obtain⟨w,h5,h6⟩:=h1;intro w0 O0 β I a ww hrel ho;have⟨β',hrel'⟩:=h4 P w0 O0 N β I a ww hrel;refine Wp (Q:=Ky (gG (.loop b)) s k r) hl (λ s'=>rfl) (λ v r hlv hs=>kN hT hm hΓ b _ h' (encS hd s v) _ r hlv hs) (λ e s' he hls hxs hk=>?_) (λ e s' v he hk=>?_) n v0 h5 h2 h3 w0 O0 β' I a ww hrel' h2.old
   ·cases e with
    |exit j=>
     simp only at hk;split at hk
     ·rename_i hj;subst hj;have⟨w',i1,i2,i3,i4⟩:=kZ hl hls hxs hk;injection i1 with i1;cases i1;intro w0 O0 β I a ww hrel;have⟨β',hrel'⟩:=i4 P w0 O0 N β I a ww hrel;exact⟨β',_,hrel',i2.old,_,i2,i3,rfl,h6⟩
     ·cases hk
    |normal=>exact(he rfl).elim
    |_=>cases hk
   ·cases e with
    |exit j=>
     simp only at hk;split at hk
     ·have⟨w',i1⟩:=Wq hk;injection i1 with i1;cases i1
     ·cases hk
    |normal=>exact he rfl
    |_=>cases hk
  ·rename_i hd id ab h';obtain⟨v0,h1,h2,h3,h4⟩:=kZ hl hl (Ext.refl _ s) hr;unfold dw at h1;rw[ai]at h1;obtain⟨w,h5,h6⟩:=h1;intro w0 O0 β I a ww hrel ho;have⟨β',hrel'⟩:=h4 P w0 O0 N β I a ww hrel;refine Wp (Q:=Ky (gG (.loop b)) s k r) hl (λ s'=>rfl) (λ v r hlv hs=>kN hT hm hΓ b _ h' (encS hd s v) _ r hlv hs) (λ e s' he hls hxs hk=>?_) (λ e s' v he hk=>?_) n v0 h5 h2 h3 w0 O0 β' I a ww hrel' h2.old
   ·intro w0 O0 β I a ww hrel;have other:(k e s').map (λ a=>Sum.inr (Sum.inr a))=some (Sum.inr w:VT (X:=X) hd.vars⊕(VT (X:=X) ab.vars⊕A))->∃ β' σ',Rel P w0 O0 N β' I σ' a ww/\tB σ'/\Ky (gG (.loop b)) s k r e σ':=by
     intro hm;have⟨q,hq,hr⟩:=adH hm;cases hr;cases h6;exact⟨β,_,hrel,hls.old,s',hls,hxs,rfl,hq⟩
    cases e with
    |exit j=>
     simp only at hk;split at hk
     ·rename_i hj;subst hj;have⟨w',i1,i2,i3,i4⟩:=kZ hl hls hxs hk;injection i1 with i1;cases i1;have⟨β',hrel'⟩:=i4 P w0 O0 N β I a ww hrel;exact⟨β',_,hrel',i2.old,_,i2,i3,rfl,h6⟩
     ·exact other hk
    |normal=>exact(he rfl).elim
    |_=>exact other hk
   ·have other:(k e s').map (λ a=>Sum.inr (Sum.inr a))=some (Sum.inl v:VT (X:=X) hd.vars⊕(VT (X:=X) ab.vars⊕A))->False:=by
     intro hm;have⟨q,hq,hr⟩:=adH hm;cases hr
    cases e with
    |exit j=>
     simp only at hk;split at hk
     ·have⟨w',i1⟩:=Wq hk;injection i1 with i1;cases i1
     ·exact other hk
    |normal=>exact he rfl
    |_=>exact other hk
  ·exact ajb (body:=λh s k=>run Γ T am N n b A h s k) (λ h s k r hl h1=>kN hT hm hΓ b A h s k r hl h1) hl hr
  ·cases hr
 | .rangeFunc ..,_,_,_,_,_,_,hr=>by cases hr
 | .scope _,_,_,_,_,_,_,hr=>by cases hr
 | .goto _,_,_,_,_,_,_,hr=>by cases hr
 | .refuse _,_,_,_,_,_,_,hr=>by cases hr
end
end
section
variable {X:SX}
def jD:Nat->(l:List (AT X.ι))->iG X l->List (DV X)
 |_,[],_=>[]
 |n,.d c::l,a=> .c c a.1::jD n l a.2
 |n,.ref c::l,a=> .rp c a.1 0::jD n l a.2
 |n,.d7 as r::l,a=> .d7 as r a.1::jD n l a.2
 |n,.mut _::l,a=> .own n 0 (List.length a.1)::jD (n+1) l a.2
 |n,.jz _::l,a=> .ptr n 0 0::jD (n+1) l a.2
 |n,.nil::l,a=> .nil::jD n l a.2
def A7:(l:List (AT X.ι))->iG X l->List (bm X)
 |[],_=>[]
 | .mut c::l,a=> .d8 c a.1::A7 l a.2
 | .jz c::l,a=> .cells (CT.sz X c) [uV c a.1]::A7 l a.2
 | .d _::l,a=>A7 l a.2
 | .ref _::l,a=>A7 l a.2
 | .d7 _ _::l,a=>A7 l a.2
 | .nil::l,a=>A7 l a.2
theorem sj:∀(n:Nat)(l:List (AT X.ι))(a:iG X l),bP (jD n l a)=dP n l a
 |_,[],_=>rfl
 |n,.d c::l,a=>by simp only[jD,bP,den,dP,sj n l a.2]
 |n,.ref c::l,a=>by simp only[jD,bP,den,dP,sj n l a.2]
 |n,.d7 as r::l,a=>by simp only[jD,bP,dP,sj n l a.2]
 |n,.mut c::l,a=>by simp only[jD,bP,den,dP,sj (n+1) l a.2]
 |n,.jz c::l,a=>by simp only[jD,bP,den,dP,sj (n+1) l a.2]
 |n,.nil::l,a=>by simp only[jD,bP,den,dP,sj n l a.2]
theorem wu:∀(l:List (AT X.ι))(a:iG X l),(A7 l a).map bI=(qd l a).map gC
 |[],_=>rfl
 | .d _::l,a=>wu l a.2
 | .ref _::l,a=>wu l a.2
 | .d7 _ _::l,a=>wu l a.2
 | .nil::l,a=>wu l a.2
 | .mut c::l,a=>by simp only[A7,qd,aF,wu l a.2];rfl
 | .jz c::l,a=>by simp only[A7,qd,aF,wu l a.2,bI,gC,rF,aI,map_nil,oO]
theorem oQ:∀(n:Nat)(l:List (AT X.ι))(a:iG X l),∀k∈aP (jD n l a),k<n+qg l
 |_,[],_,k,hk=>by simp[jD,aP]at hk
 |n,.d c::l,a,k,hk=>by
  have:=oQ n l a.2 k (by simpa[jD,aP,bk]using hk);simpa[qg,AT.im]using this
 |n,.ref c::l,a,k,hk=>by
  have:=oQ n l a.2 k (by simpa[jD,aP,bk]using hk);simpa[qg,AT.im]using this
 |n,.d7 as r::l,a,k,hk=>by
  have:=oQ n l a.2 k (by simpa[jD,aP,bk]using hk);simpa[qg,AT.im]using this
 |n,.nil::l,a,k,hk=>by
  have:=oQ n l a.2 k (by simpa[jD,aP,bk]using hk);simpa[qg,AT.im]using this
 |n,.mut c::l,a,k,hk=>by
  simp only[jD,aP,bk,List.singleton_append,aN]at hk;simp only[qg,AT.im,if_true];rcases hk with rfl |hk
  ·omega
  ·have:=oQ (n+1) l a.2 k hk;omega
 |n,.jz c::l,a,k,hk=>by
  simp only[jD,aP,bk,List.singleton_append,aN]at hk;simp only[qg,AT.im,if_true];rcases hk with rfl |hk
  ·omega
  ·have:=oQ (n+1) l a.2 k hk;omega
theorem lg:∀(n:Nat)(l:List (AT X.ι))(a:iG X l),(dP n l a).length=l.length
 |_,[],_=>rfl
 |n,.d c::l,a=>by simp only[dP,bG,lg n l a.2]
 |n,.ref c::l,a=>by simp only[dP,bG,lg n l a.2]
 |n,.d7 as r::l,a=>by simp only[dP,bG,lg n l a.2]
 |n,.mut c::l,a=>by simp only[dP,bG,lg (n+1) l a.2]
 |n,.jz c::l,a=>by simp only[dP,bG,lg (n+1) l a.2]
 |n,.nil::l,a=>by simp only[dP,bG,lg n l a.2]
theorem lq:∀(l:List (AT X.ι))(a:iG X l),(qd l a).length=qg l
 |[],_=>rfl
 | .d _::l,a=>by simpa[qg,AT.im,qd]using lq l a.2
 | .ref _::l,a=>by simpa[qg,AT.im,qd]using lq l a.2
 | .d7 _ _::l,a=>by simpa[qg,AT.im,qd]using lq l a.2
 | .nil::l,a=>by simpa[qg,AT.im,qd]using lq l a.2
 | .mut _::l,a=>by simp only[qd,bG,lq l a.2,qg,AT.im,if_true];omega
 | .jz _::l,a=>by simp only[qd,bG,lq l a.2,qg,AT.im,if_true];omega
def xa(l:List (AT X.ι))(a:iG X l):de X:=⟨(List.range l.length).zip (jD 0 l a),(List.range (A7 l a).length).zip ((A7 l a).map some),1000,[]⟩
theorem ahZ(l:List (AT X.ι))(a:iG X l)(k:Nat):gA (xa l a).obj k=(A7 l a)[k]? :=by
 have h:(List.range (A7 l a).length).zip ((A7 l a).map some)=(List.range ((A7 l a).map some).length).zip ((A7 l a).map some):=by rw[length_map]
 simp only[xa,gA];rw[h,AU,List.getElem?_map];cases (A7 l a)[k]?<;>rfl
theorem aoo(l:List (AT X.ι))(a:iG X l):(xa l a).st=rx.st ⟨(List.range (wh l a).length).zip (wh l a),(List.range ((qd l a).map gC).length).zip ((qd l a).map gC)⟩:=by
 have ho:∀k,((gA (xa l a).obj k).map bI)=lk ((List.range ((qd l a).map gC).length).zip ((qd l a).map gC)) k:=by
  intro k;rw[AU,ahZ,<- wu,List.getElem?_map]
 simp only[de.st,rx.st,St.mk.injEq,and_true];refine⟨?_,funext ho⟩;funext t;simp only[xa];rw[lg,wh,<- sj];generalize jD 0 l a=ds;have:∀(ks:List Nat)(ds:List (DV X)),den (eL (ks.zip ds) t)=(lk (ks.zip (bP ds)) t).getD .undef:=by
  intro ks
  induction ks with
  |nil=>intro ds;rfl
  |cons k ks ih=>
   intro ds;cases ds with
   |nil=>rfl
   |cons d ds=>
    simp only[List.zip_cons_cons,eL,lk,bP];by_cases h:k=t
    ·simp[h]
    ·simp only[aQ h];exact ih ds
 exact this _ _
theorem amQ(l:List (AT X.ι))(a:iG X l)(hm:qg l<=1000):Low (xa l a):=by
 refine⟨by show 1000<=1000000;decide,aC _,λt k hk=>?_,λk o ho=>?_⟩
 ·have h0:=oQ 0 l a;simp only[xa]at hk;generalize jD 0 l a=ds at hk h0;have:∀(ks:List Nat)(ds:List (DV X)),(∀ k∈aP ds,k<0+qg l)->∀k∈bk (eL (ks.zip ds) t),k<1000:=by
   intro ks
   induction ks with
   |nil=>intro ds _ k hk;simp[eL,lk,bk]at hk
   |cons k ks ih=>
    intro ds h j hj;cases ds with
    |nil=>simp[eL,lk,bk]at hj
    |cons d ds=>
     simp only[List.zip_cons_cons,eL,lk]at hj;by_cases e:k=t
     ·simp only[aX e,Option.getD_some]at hj;have:=h j (by simp[aP,hj]);omega
     ·simp only[aQ e]at hj;exact ih ds (λ k hk=>h k (by simp[aP,hk])) j hj
  exact this _ _ h0 k hk
 ·rw[ahZ]at ho;have hl:(A7 l a).length=qg l:=by rw[<- lq l a];simpa using congrArg List.length (wu l a)
  refine⟨by have:=(dD.1 ho).1;show k<1000;omega,λj hj=>?_⟩;have hz:∀(l:List (AT X.ι))(a:iG X l),∀o∈A7 l a,d5 o=[]:=by
   intro l
   induction l with
   |nil=>intro a o ho;simp[A7]at ho
   |cons q l ih=>
    intro a o ho;cases q<;>simp only[A7,aN]at ho
    case «mut» c=>rcases ho with rfl |ho;rfl;exact ih _ o ho
    case jz c=>
     rcases ho with rfl |ho
     ·have h1:aP (uV c a.1)=[]:=by
       rw[<- gZ,oO];generalize CT.row X.toSE c a.1=r
       induction r with
       |nil=>rfl
       |cons y ys ih=>simp only[aF,eT,refs,ih,bR]
      simp[d5,h1]
     ·exact ih _ o ho
    all_goals exact ih _ o ho
  rw[hz l a o (dm ho)]at hj;cases hj
variable (T:ea)
def E6(s:de X):ResultVar->Option (DV X)
 | .tmp t=>some (eL s.env t)
 | .cell a t=>(T t).bind λti=>match eL s.env a with
  | .ptr kk row aa=>(gA s.obj kk).bind λo=>match o with
   | .cells _ rows=>(rows[row]?).bind λr=>GZ ti.agg ti.size ((r.drop aa).take ti.size)
   |_=>none
  |_=>none
def Ws(s:de X):List ResultVar->Option (List (DV X))
 |[]=>some []
 |r::rs=>(E6 T s r).bind λv=>(Ws s rs).bind λvs=>some (v::vs)
theorem akR{s:de X}{r:ResultVar}{d:DV X}(h:E6 T s r=some d):Pp T s.st r=some (den d):=by
 cases r with
 |tmp t=>simp only[E6,aA]at h;subst h;rfl
 |cell a t=>
  simp only[E6]at h;rw[ai]at h;obtain⟨ti,h1,h⟩:=h;split at h
  ·rename_i kk row aa hp;rw[ai]at h;obtain⟨o,h2,h⟩:=h;split at h
   ·rename_i sz rows;have⟨q,h3,h⟩:=ai.1 h;have h4:=Cn h;rw[j4]at h4
    show(match Uo T t (den (eL s.env a)) (λ k=>(gA s.obj k).map bI)with
     |some ⟨v,[],[]⟩=>some v
     |_=>none)=some (den d)
    simp only[Uo,Kl,h1,af,hp,den,h2,Option.map_some,bI,List.getElem?_map,h3,h4,pv]
   ·cases h
  ·cases h
def YM{A:Type}(s:de X):List ResultVar->(List (DV X)->Option A)->Option A
 |[],k=>k []
 | .tmp t::rs,k=>YM s rs λvs=>k (eL s.env t::vs)
 | .cell a t::rs,k=>(T t).bind λti=>match eL s.env a with
  | .ptr kk row aa=>(gA s.obj kk).bind λo=>match o with
   | .cells _ rows=>(rows[row]?).bind λr=>(GZ ti.agg ti.size ((r.drop aa).take ti.size)).bind λv=>YM s rs λvs=>k (v::vs)
   |_=>none
  |_=>none
theorem Ju{A:Type}{s:de X}:∀{rs:List ResultVar}{k:List (DV X)->Option A}{r:A},YM T s rs k=some r->∃ds,Ws T s rs=some ds/\k ds=some r
 |[],k,r,h=>⟨[],rfl,h⟩
 | .tmp t::rs,k,r,h=>by
  have⟨ds,h1,h2⟩:=Ju (rs:=rs) h;exact⟨_,by simp only[Ws,E6,h1,af],h2⟩
 | .cell a t::rs,k,r,h=>by
  simp only[YM]at h;rw[ai]at h;obtain⟨ti,h1,h⟩:=h;split at h
  ·rename_i kk row aa hp;have⟨o,h2,h⟩:=ai.1 h;split at h
   ·have⟨q,h3,h⟩:=ai.1 h;have⟨v,h4,h⟩:=ai.1 h;have⟨ds,h5,h6⟩:=Ju (rs:=rs) h;exact⟨_,by simp only[Ws,E6,h1,hp,h2,h3,h4,h5,af],h6⟩
   ·cases h
  ·cases h
theorem PS{s:de X}:∀{rs:List ResultVar}{ds:List (DV X)},Ws T s rs=some ds->nk T s.st rs=some (bP ds)
 |[],ds,h=>by simp only[Ws,aA]at h;subst h;rfl
 |r::rs,ds,h=>by
  simp only[Ws]at h;have⟨d,h1,h⟩:=ai.1 h;have⟨ds',h2,h⟩:=ai.1 h;cases h;simp only[nk,akR T h1,PS h2,af,bP]
def PU:List (RT X.ι)->List (DV X)->Option Nat
 | .mu _::l,ds=>PU l ds
 | .mr _::l,ds=>PU l ds
 | .mv::l,ds=>PU l ds
 | .fresh _::l,d::ds=>match d with
  | .own k _ _=>some k
  |_=>PU l ds
 | .d _::l,_::ds=>PU l ds
 | .whole _::l,_::ds=>PU l ds
 |_,_=>none
def yi:List (RT X.ι)->List (DV X)->List (Nat×Nat)
 | .mu _::l,ds=>yi l ds
 | .mr _::l,ds=>yi l ds
 | .mv::l,ds=>yi l ds
 | .whole j::l,d::ds=>match d with
  | .own _ _ len=>(j,len)::yi l ds
  |_=>yi l ds
 | .d _::l,_::ds=>yi l ds
 | .fresh _::l,_::ds=>yi l ds
 |_,_=>[]
def wz:Nat->List (RT X.ι)->List Nat
 |_,[]=>[]
 |n,.mu _::l=>n::wz (n+1) l
 |n,.mr _::l=>n::wz (n+1) l
 |n,.mv::l=>wz (n+1) l
 |n,_::l=>wz n l
def sd:Nat->List (RT X.ι)->List Nat
 |_,[]=>[]
 |n,.mu _::l=>n::sd (n+1) l
 |n,.mr _::l=>sd (n+1) l
 |n,.mv::l=>sd (n+1) l
 |n,_::l=>sd n l
def Ks(bad:List Nat)(ks:List Nat):Bool:=ks.all λk=>!bad.contains k
def abx(get:Nat->Option (bm X))(row:List (DV X))(c:CT X.ι):Option (CT.T X.toSE c×List Bool):=
 match c with
 | .st i=>(wS get row (X.cQ i)).bind λh=>some (X.make i h.1,h.2)
 |c=>match row with
  |[d]=>Rs get d c
  |_=>none
def Hq(get:Nat->Option (bm X))(c:CT X.ι):List (List (DV X))->Option (List (CT.T X.toSE c)×List Bool)
 |[]=>some ([],[])
 |r::rs=>(abx get r c).bind λx=>(Hq get c rs).bind λy=>some (x.1::y.1,x.2++y.2)
def MZ(get:Nat->Option (bm X))(bad rj:List Nat)(fk:Option Nat)(wl:List (Nat×Nat))(n:Nat):(q:RT X.ι)->List (DV X)->Option ((RT.T X q×List Bool)×List (DV X))
 | .d c,d::ds=>if Ks bad (bk d)then(Fj get d c).bind λx=>some (x,ds)else none
 | .fresh e,d::ds=>match d with
  | .nil=>some (([],[]),ds)
  | .own k 0 len=>if fk=some k then(get k).bind λo=>match o with
   | .d8 b l=>(jw (.sl b) (.sl e) l).bind λ(l:List (CT.T X.toSE e))=>some ((sub l 0 len,[az (sub l 0 len).length len]),ds)
   | .cells sz rows=>if sz=CT.sz X e/\Ks bad (rows.map aP).flatten=true then(Hq get e rows).bind λx=>some ((x.1,az len (List.length x.1)::x.2),ds)else none
   | .map _ _ _=>none
   else none
  |_=>none
 | .whole j,d::ds=>match d with
  | .own k 0 len=>if k=j/\rj.contains j=true then(lk wl j).bind λeh=>some (((),[az len eh]),ds)else none
  |_=>none
 | .mu c,ds=>(get n).bind λo=>match o with
  | .d8 b l=>(jw (.sl b) (.sl c) l).bind λ(l:List (CT.T X.toSE c))=>match lk wl n with
   |some len=>some ((sub l 0 len,[az (sub l 0 len).length len]),ds)
   |none=>some ((l,[]),ds)
  |_=>none
 | .mr c,ds=>(get n).bind λo=>match o with
  | .cells sz [row]=>if sz=CT.sz X c/\Ks bad (aP row)=true then(abx get row c).bind λx=>some (x,ds)else none
  |_=>none
 | .mv,ds=>some (((),[]),ds)
 |_,[]=>none
def M0(get:Nat->Option (bm X))(bad rj:List Nat)(fk:Option Nat)(wl:List (Nat×Nat)):Nat->(l:List (RT X.ι))->(ds:List (DV X))->Option (sN X l×List Bool)
 |_,[],ds=>match ds with
  |[]=>some ((),[])
  |_=>none
 |n,[q],ds=>(MZ get bad rj fk wl n q ds).bind λp=>match p.2 with
  |[]=>some p.1
  |_=>none
 |n,q::q'::l,ds=>(MZ get bad rj fk wl n q ds).bind λp=>(M0 get bad rj fk wl (if q.out then n+1 else n) (q'::l) p.2).bind λy=>some ((p.1.1,y.1),p.1.2++y.2)
def N4(s:de X)(l:List (RT X.ι))(ds:List (DV X)):Option (sN X l×List Bool):=
 if Ks (wz 0 l) (PU l ds).toList then M0 (gA s.obj) (wz 0 l++(PU l ds).toList) (sd 0 l) (PU l ds) (yi l ds) 0 l ds else none
def aoW(rs:List ResultVar)(l:List (RT X.ι)):Exit->de X->Option (sN X l)
 | .normal,s=>YM T s rs λds=>(N4 s l ds).bind λx=>Vt x.2 (some x.1)
 | .ret,s=>YM T s rs λds=>(N4 s l ds).bind λx=>Vt x.2 (some x.1)
 |_,_=>none
def exit(A:Type)(k:de X->Option A):Exit->de X->Option A
 | .normal,s=>k s
 | .ret,s=>k s
 |_,_=>none
variable {T}
section
variable {get:Nat->Option (bm X)} {fk:Option Nat} {os':List (Option eZ)} {bad:List Nat}
theorem D7{ks:List Nat}(h:Ks bad ks=true):∀j∈ks,j∉bad:=λj hj=>by simpa using all_eq_true.1 h j hj
theorem PV(hbad:∀j,j∉bad->fk≠some j/\¬kept os' j){d:DV X}{c:CT X.ι}{x:CT.T X.toSE c×List Bool}(hc:c.one=true)(h:Rs get d c=some x)(hb:∀b∈x.2,b=true)(m9:∀j∈bk d,j∉bad):∃t,CT.tv X.toSE c x.1= .s t/\Po (fu get) fk os' (den d) t:=by
 obtain⟨t,h1,h2⟩:=row_one hc x.1;refine⟨t,h2,?_⟩;have hbase:∀y,JR d c=some y->y=x.1->Po (fu get) fk os' (den d) t:=by
  intro y hy he;subst he;have h3:=vW hy;rw[h2]at h3;have h4:=abf hc hy;unfold JR at hy;split at hy
  ·rw[(om hy).1];simp only[den,h2,TV.av,Po]
  ·simp only[den,Gb.wk,TV.av,AV.t.injEq]at h3;simp only[den,Po];exact h3.symm
  ·simp only[den,Gb.wk,TV.av,AV.t.injEq]at h3;simp only[den,Po];exact h3.symm
  ·cases hy
 unfold Rs at h;split at h
 ·rename_i kk aa len e;rw[ai]at h;obtain⟨o,h3,h⟩:=h;split at h
  ·rename_i b l0;rw[ai]at h;obtain⟨l,h4,h⟩:=h;cases h;have h5:(sub l aa len).length=len:=(by simpa[az]using hb (az (sub l aa len).length len) (by simp));have⟨h6,h7⟩:=jf h4;obtain⟨hf1,hf2⟩:=hbad kk (m9 kk (by simp[bk]));simp only[den,Po];refine⟨hf1,hf2,bI (.d8 b l0),(sub l aa len).map (CT.row X.toSE e),by simp[fu,h3],?_,by simpa using h5,?_⟩
   ·simp only[bI,h7];simp[aI,sub,map_take]
   ·simpa[CT.row]using h1.symm
  ·cases h
 ·rename_i kk aa len;rw[ai]at h;obtain⟨o,h3,h⟩:=h;split at h
  ·rename_i b l0;cases h;have h5:(sub l0 aa len).length=len:=(by simpa[az]using hb (az (sub l0 aa len).length len) (by simp));obtain⟨hf1,hf2⟩:=hbad kk (m9 kk (by simp[bk]));simp only[den,Po];refine⟨hf1,hf2,bI (.d8 b l0),(sub l0 aa len).map (CT.row X.toSE b),by simp[fu,h3],?_,by simpa using h5,?_⟩
   ·simp only[bI];simp[aI,sub,map_take,map_drop]
   ·simpa[CT.row]using h1.symm
  ·cases h
 ·rename_i kk len e;rw[ai]at h;obtain⟨o,h3,h⟩:=h;split at h
  ·rename_i b l0;have⟨l,h4,h⟩:=ai.1 h;cases h;have h5:(sub l 0 len).length=len:=(by simpa[az]using hb (az (sub l 0 len).length len) (by simp));have⟨h6,h7⟩:=jf h4;obtain⟨hf1,hf2⟩:=hbad kk (m9 kk (by simp[bk]));simp only[den,Po];refine⟨hf1,hf2,bI (.d8 b l0),(sub l 0 len).map (CT.row X.toSE e),by simp[fu,h3],?_,by simpa using h5,?_⟩
   ·simp only[bI,h7];simp[aI,sub,map_take,map_drop]
   ·simpa[CT.row]using h1.symm
  ·cases h
 ·have⟨y,h3,h⟩:=ai.1 h;injection h with h;exact hbase y h3 (by rw[<- h])
theorem KU(hbad:∀j,j∉bad->fk≠some j/\¬kept os' j):∀{ds:List (DV X)}{l:List (CT X.ι)}{h:HL X.toSE l×List Bool},wS get ds l=some h->(∀ b∈h.2,b=true)->l.all CT.one=true->(∀ j∈aP ds,j∉bad)->k8 (fu get) fk os' (bP ds) (HL.row X.toSE l h.1)
 |[],[],h,_,_,_,_=>trivial
 |d::ds,c::l,h,hr,hb,ha,m9=>by
  simp only[wS]at hr;have⟨x,h1,hr⟩:=ai.1 hr;have⟨g,h2,hr⟩:=ai.1 hr;cases hr;simp only[all_cons,aK]at ha;obtain⟨t,i1,i2⟩:=PV hbad ha.1 h1 (λ b hb'=>hb b (by simp[hb'])) (λ j hj=>m9 j (by simp[aP,hj]));have i3:=KU hbad h2 (λ b hb'=>hb b (by simp[hb'])) ha.2 (λ j hj=>m9 j (by simp[aP,hj]));obtain⟨t',j1,j2⟩:=row_one ha.1 x.1;rw[i1]at j2;cases j2;show k8 (fu get) fk os' (den d::bP ds) (CT.row X.toSE c x.1++HL.row X.toSE l g.1);rw[j1];exact⟨i2,i3⟩
 |[],_::_,_,hr,_,_,_=>by simp[wS]at hr
 |_::_,[],_,hr,_,_,_=>by simp[wS]at hr
theorem RB(hbad:∀j,j∉bad->fk≠some j/\¬kept os' j){row:List (DV X)}{c:CT X.ι}{x:CT.T X.toSE c×List Bool}(h:abx get row c=some x)(hb:∀b∈x.2,b=true)(m9:∀j∈aP row,j∉bad):k8 (fu get) fk os' (bP row) (CT.row X.toSE c x.1):=by
 cases c
 case st i=>
  replace h:(wS get row (X.cQ i)).bind (λ h=>some (X.make i h.1,h.2))=some x:=h
  have⟨g,h1,h⟩:=ai.1 h;cases h;have:=KU hbad h1 hb (X.flat i) m9;show k8 (fu get) fk os' (bP row) (X.row i (X.make i g.1));rw[X.gd];exact this
 all_goals
  match row,h,m9 with
  |[d],h,m9=>
   obtain⟨t,i1,i2⟩:=PV (fk:=fk) hbad rfl h hb (λ j hj=>m9 j (by simp[aP,hj]));obtain⟨t',j1,j2⟩:=row_one rfl x.1;rw[i1]at j2;cases j2;rw[j1];exact⟨i2,trivial⟩
  |[],h,_=>cases h
  |_::_::_,h,_=>cases h
theorem M4(hbad:∀j,j∉bad->fk≠some j/\¬kept os' j){c:CT X.ι}:∀{rows:List (List (DV X))}{x:List (CT.T X.toSE c)×List Bool},Hq get c rows=some x->(∀ b∈x.2,b=true)->(∀ j∈(rows.map aP).flatten,j∉bad)->ek (fu get) fk os' (rows.map bP) (x.1.map (CT.row X.toSE c))/\rows.length=List.length x.1
 |[],x,h,_,_=>by simp only[Hq,aA]at h;subst h;exact⟨trivial,rfl⟩
 |r::rs,x,h,hb,m9=>by
  simp only[Hq]at h;have⟨y,h1,h⟩:=ai.1 h;have⟨z,h2,h⟩:=ai.1 h;cases h;have i1:=RB hbad h1 (λ b hb'=>hb b (by simp[hb'])) (λ j hj=>m9 j (by simp[hj]));obtain⟨i2,i3⟩:=M4 hbad h2 (λ b hb'=>hb b (by simp[hb'])) (λ j hj=>m9 j (by simp only[aF,flatten_cons,bf];exact .inr hj));exact⟨⟨i1,i2⟩,by simp[i3]⟩
theorem akS{x:AV}{t:Tree}(h:Po (fu get) fk os' x t):Fm (fu get) fk os' x (.d (.s t)):=by cases x<;>first |exact h |exact h.elim
theorem D8(sz:CT X.ι)(l:List (CT.T X.toSE sz)):ek (fu get) fk os' (aI (l.map (CT.row X.toSE sz))) (l.map (CT.row X.toSE sz)):=by
 generalize l.map (CT.row X.toSE sz)=rows
 induction rows with
 |nil=>trivial
 |cons r rs ih=>
  refine⟨?_,ih⟩;show k8 (fu get) fk os' (r.map AV.t) r
  induction r with
  |nil=>trivial
  |cons y ys ih2=>exact⟨rfl,ih2⟩
theorem akT(hbad:∀j,j∉bad->fk≠some j/\¬kept os' j){c:CT X.ι}{d:DV X}{x:CT.T X.toSE c×List Bool}(h:Fj get d c=some x)(m9:∀j∈bk d,j∉bad)(hb:∀b∈x.2,b=true):Fm (fu get) fk os' (den d) (.d (CT.tv X.toSE c x.1)):=by
 cases c
 case st i=>
  replace h:ZO get d i=some x:=h
  cases d
  case agg cs=>
   simp only[ZO]at h;have⟨g,h1,h⟩:=ai.1 h;cases h;have:=KU (fk:=fk) hbad h1 hb (X.flat i) (by simpa[bk]using m9);show k8 (fu get) fk os' (bP cs) (X.row i (X.make i g.1));rw[X.gd];exact this
  case c a y=>
   simp only[ZO]at h;have⟨z,h1,h⟩:=ai.1 h;cases h;rw[(om h1).1];show k8 (fu get) fk os' ((X.row i z).map AV.t) (X.row i z);generalize X.row i z=l
   induction l with
   |nil=>trivial
   |cons y ys ih=>exact⟨rfl,ih⟩
  all_goals cases h
 all_goals
  have⟨t,i1,i2⟩:=PV (fk:=fk) hbad rfl h hb m9;rw[i1];exact akS i2
theorem Wt{rj:List Nat}{wl:List (Nat×Nat)}{ns:List Nat}{n:Nat}(hbad:∀j,j∉bad->fk≠some j/\¬kept os' j)(q6:∀k,fk=some k->¬kept os' k)(hns:∀j eh,j∈rj->lk wl j=some eh->ns.getD j 0=eh)(hmu:∀j∈rj,kept os' j){q:RT X.ι}{ds:List (DV X)}{p:(RT.T X q×List Bool)×List (DV X)}(h:MZ get bad rj fk wl n q ds=some p)(hb:∀b∈p.1.2,b=true):
 (∀ cs,nj (fu get) fk os' (bP p.2) cs->nj (fu get) fk os' (bP ds) (VH ns q p.1.1++cs))/\
 (∀ t,qf q p.1.1=[some t]->∃o,get n=some o/\(bI o).sz=t.1/\ek (fu get) fk os' ((bI o).rows.take t.2.length) t.2)/\
 (∀ eh c,q= .mu c->lk wl n=some eh->YH q p.1.1=[eh]):=by
 cases q
 case d c=>
  cases ds with
  |nil=>simp[MZ]at h
  |cons d ds=>
   simp only[MZ]at h;split at h
   ·rename_i hnb;rw[ai]at h;obtain⟨x,h1,h⟩:=h;cases h;exact⟨λ cs hcs=>⟨akT hbad h1 (D7 hnb) hb,hcs⟩,λt ht=>by simp[qf]at ht,λ_ _ h=>by cases h⟩
   ·cases h
 case fresh e=>
  cases ds with
  |nil=>simp[MZ]at h
  |cons d ds=>
   refine⟨λ cs hcs=>?_,λt ht=>by simp[qf]at ht,λ_ _ h=>by cases h⟩;simp only[MZ]at h;split at h
   ·cases h;exact⟨rfl,hcs⟩
   ·rename_i k len;split at h
    ·rename_i m9;rw[ai]at h;obtain⟨o,h1,h⟩:=h;split at h
     ·rename_i b l0;rw[ai]at h;obtain⟨l,h2,h⟩:=h;cases h;have⟨h3,h4⟩:=jf h2;have h5:(sub l 0 len).length=len:=(by simpa[az]using hb (az (sub l 0 len).length len) (by simp));refine⟨⟨m9,q6 k m9,rfl,bI (.d8 b l0),by simp[fu,h1],by simp only[bI];exact h3,?_,by simpa using h5⟩,hcs⟩;have e1:(bI (.d8 b l0)).rows.take len=aI ((sub l 0 len).map (CT.row X.toSE e)):=by
       simp only[bI,h4];simp[aI,sub,map_take]
      rw[e1];exact D8 e _
     ·rename_i sz rows;split at h
      ·rename_i hc;rw[ai]at h;obtain⟨x,h2,h⟩:=h;cases h;obtain⟨i1,i2⟩:=M4 (fk:=fk) hbad h2 (λ b hb'=>hb b (by simp[hb'])) (D7 hc.2);have h5:len=List.length x.1:=(by simpa[az]using hb (az len (List.length x.1)) (by simp));refine⟨⟨m9,q6 k m9,rfl,bI (.cells sz rows),by simp[fu,h1],hc.1,?_,by simpa using h5.symm⟩,hcs⟩;simp only[bI];rw[List.take_of_length_le (by simp;omega)];exact i1
      ·cases h
     ·cases h
    ·cases h
   ·cases h
 case whole j=>
  cases ds with
  |nil=>simp[MZ]at h
  |cons d ds=>
   refine⟨λ cs hcs=>?_,λt ht=>by simp[qf]at ht,λ_ _ h=>by cases h⟩;simp only[MZ]at h;split at h
   ·rename_i k len;split at h
    ·rename_i hc;obtain⟨rfl,hm⟩:=hc;rw[ai]at h;obtain⟨eh,h1,h⟩:=h;cases h;have h5:len=eh:=(by simpa[az]using hb (az len eh) (by simp));have hm:k∈rj:=(by simpa using hm);refine⟨⟨rfl,rfl,?_,hmu k hm⟩,hcs⟩;rw[h5];exact hns k eh hm h1
    ·cases h
   ·cases h
 case mu c=>
  simp only[MZ]at h;rw[ai]at h;obtain⟨o,h1,h⟩:=h;split at h
  ·rename_i b l0;rw[ai]at h;obtain⟨l,h2,h⟩:=h;have⟨h3,h4⟩:=jf h2;split at h
   ·rename_i len hl;cases h;have h5:(sub l 0 len).length=len:=(by simpa[az]using hb (az (sub l 0 len).length len) (by simp));refine⟨λ cs hcs=>hcs,λt ht=>?_,λeh c' _ hl'=>?_⟩
    ·simp only[qf,List.cons.injEq,aA,and_true]at ht;subst ht;refine⟨_,h1,by simp only[bI,rF];exact h3,?_⟩;have e1:(bI (.d8 b l0)).rows.take (rF c (sub l 0 len)).2.length=aI (rF c (sub l 0 len)).2:=by
      simp only[bI,h4,rF,length_map,h5];simp[aI,sub,map_take]
     rw[e1];exact D8 c _
    ·rw[hl]at hl';injection hl' with hl';subst hl';simp only[YH,h5]
   ·rename_i hl;cases h;refine⟨λ cs hcs=>hcs,λt ht=>?_,λeh c' _ hl'=>by rw[hl]at hl';cases hl'⟩;simp only[qf,List.cons.injEq,aA,and_true]at ht;subst ht;refine⟨_,h1,by simp only[bI,rF];exact h3,?_⟩;have e1:(bI (.d8 b l0)).rows.take (rF c l).2.length=aI (rF c l).2:=by
     simp only[bI,h4,rF];rw[List.take_of_length_le (by simp[aI])]
    rw[e1];exact D8 c _
  ·cases h
 case mr c=>
  simp only[MZ]at h;rw[ai]at h;obtain⟨o,h1,h⟩:=h;split at h
  ·rename_i sz row;split at h
   ·rename_i hc;have⟨x,h2,h⟩:=ai.1 h;cases h;refine⟨λ cs hcs=>hcs,λt ht=>?_,λ_ _ h=>by cases h⟩;simp only[qf,List.cons.injEq,aA,and_true]at ht;subst ht;refine⟨_,h1,by simp only[bI,rF];exact hc.1,?_⟩;exact⟨RB hbad h2 hb (D7 hc.2),trivial⟩
   ·cases h
  ·cases h
 case mv=>
  simp only[MZ,aA]at h;subst h;exact⟨λ cs hcs=>hcs,λt ht=>by simp[qf]at ht,λ_ _ h=>by cases h⟩
theorem Hr{q:RT X.ι}{x:RT.T X q}:(qf q x).length=(if q.out then 1 else 0)/\(YH q x).length=(if q.out then 1 else 0):=by cases q<;>exact⟨rfl,rfl⟩
theorem Ht{n j:Nat}{q:RT X.ι}{l:List (RT X.ι)}:j∈sd n (q::l)->(j=n/\∃c,q= .mu c)\/j∈sd (if q.out then n+1 else n) l:=by
 cases q<;>simp only[sd,RT.out,if_true,Bool.false_eq_true,if_false,aN]
 case mu c=>exact λh=>h.imp (λ h=>⟨h,c,rfl⟩) id
 all_goals exact .inr
theorem Z1{j:Nat}:∀{l:List (RT X.ι)}{n:Nat},j∈sd n l->n<=j
 |[],n,h=>by simp[sd]at h
 |q::l,n,h=>by
  rcases Ht h with ⟨rfl,_⟩ |h
  ·exact aC _
  ·have:=Z1 h;split at this<;>omega
theorem adJ:∀{l:List (RT X.ι)}{x:sN X l}{n j:Nat},j∈sd n l->∃p,(nR l x)[j -n]? =some (some p)
 |[],x,n,j,h=>by simp[sd]at h
 |[q],x,n,j,h=>by
  rcases Ht h with ⟨rfl,c,rfl⟩ |h
  ·exact⟨_,by simp only[Nat.sub_self];rfl⟩
  ·simp[sd]at h
 |q::q'::l,x,n,j,h=>by
  rcases Ht h with ⟨rfl,c,rfl⟩ |h
  ·exact⟨_,by simp only[Nat.sub_self];rfl⟩
  ·have⟨p,hp⟩:=adJ (l:=q'::l) (x:=x.2) h;have hge:=Z1 h;refine⟨p,?_⟩;show(qf q x.1++nR (q'::l) x.2)[j -n]? =_;have hl:=(Hr (q:=q) (x:=x.1)).1;split at hl
   ·rename_i e;rw[aX e]at hp hge;rw[jB (by omega),hl,show j -n -1=j -(n+1)by omega];exact hp
   ·rename_i e;rw[aQ e]at hp hge;rw[jB (by omega),hl,Nat.sub_zero];exact hp
theorem Cz:∀{l:List (RT X.ι)}{x:sN X l}{n j:Nat}{p:eZ},(nR l x)[j]? =some (some p)->n+j∈wz n l
 |[],x,n,j,p,h=>by simp[nR]at h
 |[q],x,n,j,p,h=>by
  have h:(qf q x)[j]? =some (some p):=h;cases q<;>simp only[qf,List.getElem?_nil,reduceCtorEq]at h
  case mu c=>cases j<;>simp at h<;>simp[wz]
  case mr c=>cases j<;>simp at h<;>simp[wz]
  case mv=>cases j<;>simp at h
 |q::q'::l,x,n,j,p,h=>by
  have h:(qf q x.1++nR (q'::l) x.2)[j]? =some (some p):=h;cases q
  case mu c=>
   cases j with
   |zero=>simp[wz]
   |succ j=>
    have:=Cz (l:=q'::l) (x:=x.2) (n:=n+1) (by simpa[qf]using h);simp only[wz,aN];right;rw[show n+(j+1)=n+1+j by omega];exact this
  case mr c=>
   cases j with
   |zero=>simp[wz]
   |succ j=>
    have:=Cz (l:=q'::l) (x:=x.2) (n:=n+1) (by simpa[qf]using h);simp only[wz,aN];right;rw[show n+(j+1)=n+1+j by omega];exact this
  case mv=>
   cases j with
   |zero=>simp[qf]at h
   |succ j=>
    have:=Cz (l:=q'::l) (x:=x.2) (n:=n+1) (by simpa[qf]using h);simp only[wz];rw[show n+(j+1)=n+1+j by omega];exact this
  all_goals
   simp only[wz];exact Cz (l:=q'::l) (x:=x.2) (by simpa[qf]using h)
theorem adK{rj:List Nat}{wl:List (Nat×Nat)}{n:Nat}{q:RT X.ι}{ds:List (DV X)}{p:(RT.T X q×List Bool)×List (DV X)}(h:MZ get bad rj fk wl n q ds=some p)(hb:∀b∈p.1.2,b=true):∀eh c,q= .mu c->lk wl n=some eh->YH q p.1.1=[eh]:=by
 rintro eh c rfl hl;simp only[MZ]at h;rw[ai]at h;obtain⟨o,h1,h⟩:=h;split at h
 ·rename_i b l0;have⟨l,h2,h⟩:=ai.1 h;rw[hl]at h;cases h;have h5:(sub l 0 eh).length=eh:=by simpa[az]using hb (az (sub l 0 eh).length eh) (by simp)
  simp only[YH,h5]
 ·cases h
theorem KV{rj:List Nat}{wl:List (Nat×Nat)}:∀{n:Nat}{l:List (RT X.ι)}{ds:List (DV X)}{x:sN X l×List Bool},M0 get bad rj fk wl n l ds=some x->(∀ b∈x.2,b=true)->∀j eh,n+j∈sd n l->lk wl (n+j)=some eh->(xr l x.1).getD j 0=eh
 |n,[],ds,x,h,hb,j,eh,hm,_=>by simp[sd]at hm
 |n,[q],ds,x,h,hb,j,eh,hm,hl=>by
  simp only[M0]at h;have⟨p,h1,h⟩:=ai.1 h;split at h
  ·cases h;rcases Ht hm with ⟨e,c,rfl⟩ |hm
   ·have e:j=0:=(by omega);subst e;have:=(adK h1 hb) eh c rfl hl;show(YH _ p.1.1).getD 0 0=eh;rw[this];rfl
   ·simp[sd]at hm
  ·cases h
 |n,q::q'::l,ds,x,h,hb,j,eh,hm,hl=>by
  simp only[M0]at h;have⟨p,h1,h⟩:=ai.1 h;have⟨y,h2,h⟩:=ai.1 h;cases h;have hlen:=(Hr (q:=q) (x:=p.1.1)).2;rcases Ht hm with ⟨e,c,rfl⟩ |hm
  ·have e:j=0:=(by omega);subst e;have:=(adK h1 (λ b hb'=>hb b (by simp[hb']))) eh c rfl hl;show(YH _ p.1.1++xr (q'::l) y.1).getD 0 0=eh;rw[this];rfl
  ·have hge:=Z1 hm;show(YH _ p.1.1++xr (q'::l) y.1).getD j 0=eh;by_cases hq:q.out=true
   ·rw[aX hq]at h2 hm hge hlen;have:=KV h2 (λ b hb'=>hb b (by simp[hb'])) (j -1) eh (by rw[show n+1+(j -1)=n+j by omega];exact hm) (by rw[show n+1+(j -1)=n+j by omega];exact hl);rw[List.getD_eq_getElem?_getD,jB (by omega),hlen,<- List.getD_eq_getElem?_getD];exact this
   ·rw[aQ hq]at h2 hm hge hlen;have:=KV h2 (λ b hb'=>hb b (by simp[hb'])) j eh hm hl;rw[List.getD_eq_getElem?_getD,jB (by omega),hlen,Nat.sub_zero,<- List.getD_eq_getElem?_getD];exact this
theorem aag{rj:List Nat}{wl:List (Nat×Nat)}{ns:List Nat}(hbad:∀j,j∉bad->fk≠some j/\¬kept os' j)(q6:∀k,fk=some k->¬kept os' k)(hns:∀j eh,j∈rj->lk wl j=some eh->ns.getD j 0=eh)(hmu:∀j∈rj,kept os' j):∀{n:Nat}{l:List (RT X.ι)}{ds:List (DV X)}{x:sN X l×List Bool},M0 get bad rj fk wl n l ds=some x->(∀ b∈x.2,b=true)->
 nj (fu get) fk os' (bP ds) (AY ns l x.1)/\∀j t,(nR l x.1)[j]? =some (some t)->∃o,get (n+j)=some o/\(bI o).sz=t.1/\ek (fu get) fk os' ((bI o).rows.take t.2.length) t.2
 |n,[],ds,x,h,_=>by
  simp only[M0]at h;split at h
  ·exact⟨trivial,λj t ht=>by simp[nR]at ht⟩
  ·cases h
 |n,[q],ds,x,h,hb=>by
  simp only[M0]at h;rw[ai]at h;obtain⟨p,h1,h⟩:=h;split at h
  ·rename_i hp;cases h;have⟨i1,i2,_⟩:=Wt (ns:=ns) hbad q6 hns hmu h1 hb;rw[hp]at i1;have:=i1 [] trivial;rw[append_nil]at this;refine⟨this,λj t ht=>?_⟩;have ht:(qf q p.1.1)[j]? =some (some t):=ht;have hl:=(Hr (q:=q) (x:=p.1.1)).1;have hj:=(dD.1 ht).1;have hj0:j=0:=(by split at hl<;>omega);subst hj0;refine i2 t ?_
   match ho:qf q p.1.1,ht,hl with
   |[z],ht,_=>simpa using ht
   |[],ht,_=>simp at ht
   |_::_::_,_,hl=>simp only[bG]at hl;split at hl<;>omega
  ·cases h
 |n,q::q'::l,ds,x,h,hb=>by
  simp only[M0]at h;have⟨p,h1,h⟩:=ai.1 h;have⟨y,h2,h⟩:=ai.1 h;cases h;obtain⟨i1,i2,_⟩:=Wt (ns:=ns) hbad q6 hns hmu h1 (λ b hb'=>hb b (by simp[hb']));obtain⟨k1,k2⟩:=aag (ns:=ns) hbad q6 hns hmu h2 (λ b hb'=>hb b (by simp[hb']));refine⟨i1 _ k1,λj t ht=>?_⟩;have ht:(qf q p.1.1++nR (q'::l) y.1)[j]? =some (some t):=ht;have hl:=(Hr (q:=q) (x:=p.1.1)).1;by_cases hq:q.out=true
  ·rw[aX hq]at k2 hl;cases j with
   |zero=>
    refine i2 t ?_
    match ho:qf q p.1.1,ht,hl with
    |[z],ht,_=>simpa using ht
    |[],_,hl=>simp at hl
    |_::_::_,_,hl=>simp at hl
   |succ j=>
    rw[jB (by omega),hl,Nat.add_sub_cancel]at ht;rw[show n+(j+1)=n+1+j by omega];exact k2 j t ht
  ·rw[aQ hq]at k2 hl;rw[jB (by omega),hl,Nat.sub_zero]at ht;exact k2 j t ht
end
theorem nj.R{get:Nat->Option aR}{fk:Option Nat}{os':List (Option eZ)}:∀{xs:List AV}{cs:List RC},nj get fk os' xs cs->Fl get fk os' xs (match cs with |[c]=> .one c |cs=> .ez cs)
 |[],[],_=>rfl
 |[_],[_],h=>h.1
 |_::_::_,_::_::_,h=>h
 |[],_::_,h=>h.elim
 |_::_,[],h=>h.elim
 |[_],_::_::_,h=>h.2.elim
 |_::_::_,[_],h=>h.2.elim
theorem akU{s:de X}{rs:List ResultVar}{l:List (RT X.ι)}{r:sN X l}(h:(YM T s rs λds=>(N4 s l ds).bind λx=>Vt x.2 (some x.1))=some r):∃xs fk,nk T s.st rs=some xs/\Fl s.st.obj fk (nR l r) xs (sV l r)/\Mu s.st.obj fk (nR l r):=by
 have⟨ds,h1,h⟩:=Ju T h;rw[ai]at h;obtain⟨x,h2,h⟩:=h;have⟨h3,h⟩:=pF h;cases h;unfold N4 at h2;split at h2
 ·rename_i hnb;have hkn:∀j,kept (nR l x.1) j->j∈wz 0 l:=λj ⟨p,hp⟩=>by
   have:=Cz (n:=0) hp;simpa using this
  have hbad:∀j,j∉wz 0 l++(PU l ds).toList->PU l ds≠some j/\¬kept (nR l x.1) j:=by
   intro j hj;simp only[bf,Option.mem_toList,not_or]at hj;exact⟨hj.2,λh=>hj.1 (hkn j h)⟩
  have q6:∀k,PU l ds=some k->¬kept (nR l x.1) k:=λk hk hkk=>D7 hnb k (by simp[hk]) (hkn k hkk);have hmu:∀j∈sd 0 l,kept (nR l x.1) j:=λj hj=>by
   have⟨p,hp⟩:=adJ (x:=x.1) hj;exact⟨p,by simpa using hp⟩
  obtain⟨i1,i2⟩:=aag (ns:=xr l x.1) hbad q6 (λ j eh hj hl=>KV h2 h3 j eh (by simpa using hj) (by simpa using hl)) hmu h2 h3;have gx:s.st.obj=fu (gA s.obj):=rfl;refine⟨bP ds,PU l ds,PS T h1,?_,λj p hp=>?_⟩
  ·rw[gx];exact i1.R
  ·have⟨o,g1,g2,g3⟩:=i2 j p hp;rw[Nat.zero_add]at g1;exact⟨λ e=>q6 j e ⟨p,hp⟩,bI o,by rw[gx];simp[fu,g1],g2,by rw[gx];exact g3⟩
 ·cases h2
variable {Γ:FuncId->Option (bz X)} {am:TypeId->Option (CT X.ι)} {P:Program}
theorem aoX(hT : eY P T)(hm : P.follows .mixedOrders = true)(hΓ : sC P Γ){f : FuncId}{fn : Func}{c : Code}(hfn : P.funcs[f]? = some fn)(hb : fn.body = some c)(hname : (fn.name == "runtime.NumGoroutine") = false)(sa : List (AT X.ι))(sr : List (RT X.ι))(hN : sa.length <= fn.ntmps /\ qg sa <= 1000 /\ (sr.filter RT.out).length = qg sa)
 (h:Hn X.ι) (n:Nat) {a:iG X sa} {r:sN X sr} (hr:run Γ T am fn.ntmps n c (sN X sr) h (xa sa a) (aoW T fn.results.toList sr)=some r):qq P f (wh sa a) (qd sa a) (nR sr r) (sV sr r):=by
 have hl:(nR sr r).length=(qd sa a).length:=by
  rw[lq,<- hN.2.2];have:∀(sr:List (RT X.ι))(r:sN X sr),(nR sr r).length=(sr.filter RT.out).length:=by
   intro sr
   induction sr with
   |nil=>intro r;rfl
   |cons q l ih=>
    intro r;have hq:∀x:RT.T X q,(qf q x).length=(if q.out then 1 else 0):=λx=>Hr.1;cases l with
    |nil=>
     show(qf q r).length=_;rw[hq];by_cases e:q.out=true<;>simp[e]
    |cons q' l=>
     show(qf q r.1++nR (q'::l) r.2).length=_;rw[dL,hq,ih r.2];by_cases e:q.out=true<;>simp[List.filter_cons,e];omega
  exact this sr r
 refine aiK hT hfn hb hname (by rw[lg];exact hN.1) (λ k hk=>?_) (by rw[lq];exact hN.2.1) hl ?_
 ·rw[wh,<- sj,gZ]at hk;have:=oQ 0 sa a k hk;have:=hN.2.1;omega
 ·rw[<- aoo];refine(kN hT hm hΓ c _ h _ _ r (amQ sa a hN.2.1) hr).mono ?_;rintro e σ ⟨s',_,_,rfl,g4⟩;cases e<;>first |exact akU g4 |cases g4
theorem mX{f : FuncId}{fn : Func}{c : Code}(hfn : P.funcs[f]? = some fn)(hb : fn.body = some c)(hname : (fn.name == "runtime.NumGoroutine") = false): eO P f := ⟨fn, hfn, by rw [hb]; rfl, hname⟩
abbrev AC(P:Program)(f:FuncId)(s:bz X):Prop:=eO P f/\(∀ a r,s.fn a=some r->qq P f (wh s.args a) (qd s.args a) (nR s.res r) (sV s.res r))/\∀g,s.gen=some g->Fi P f g
theorem zj{P:Program}{f:FuncId}{s:bz X}(h:eO P f)(h1:∀a r,s.fn a=some r->qq P f (wh s.args a) (qd s.args a) (nR s.res r) (sV s.res r))(hg:s.gen=none):AC P f s:=⟨h,h1,λg e=>by rw[hg]at e;cases e⟩
theorem L4{P:Program}{f:FuncId}{g:cX X}(h:eO P f)(hg:Fi P f g):AC P f ⟨[],[.d .bool],λ_=>none,some g⟩:=⟨h,λ_ _ e=>(by cases e),λ_ e=>(by cases e;exact hg)⟩
def oX(s t:bz X):bz X:=⟨s.args,s.res,s.fn,t.gen⟩
def xl(l:List (FuncId×bz X)):FuncId->Option (bz X):=λf=>lk l f
theorem aB:sC P (xl ([]:List (FuncId×bz X))):=λ_ _ h=>by cases h
theorem au{f:FuncId}{s:bz X}{l:List (FuncId×bz X)}(h:AC P f s)(hl:sC P (xl l)):sC P (xl ((f,s)::l)):=by
 intro g q hg;simp only[xl,lk]at hg;split at hg
 ·rename_i e;cases hg;subst e;exact h
 ·exact hl g q hg
end
section
variable {X:SX} {T:ea}
theorem KW(ol:Nat->Nat):∀(ps:List (Pt X.ι))(L:List (DC X)),(lh ol ps L).1.length=ps.length
 |[],_=>rfl
 |p::ps,L=>by simp only[lh,bG,KW ol ps]
def cX.AK(g:cX X):Bool:=
 decide (g.iz.map (·.1)=List.range g.iz.length)&&decide (g.iz.length<=1000)&&((AZ g.py).all λk=>Nat.blt k 1000)&&g.iz.all λq=>q.2.refs.all λk=>Nat.blt k 1000
def E4(g:cX X)(v:VT (X:=X) (cP g.py++cH g.iz)):de X:=⟨(List.range g.py.length).zip (g.args v),Kf g.py g.iz (vY _ v),1000,[]⟩
theorem uX{ol:Nat->Nat}:∀(O:List (Nat×OP X.ι))(L:List (DC X)),dn ol O L=(dF (dn ol O L)).map λp=>(p.1,some p.2)
 |[],L=>rfl
 |(k,.l c)::O,L=>by
  match L with
  |[]=>rfl
  |⟨.sl c',x⟩::L=>simp only[dn,dF,aF];rw[<- uX O L]
  |⟨.int _,x⟩::L=>rfl
  |⟨.bool,x⟩::L=>rfl
  |⟨.str,x⟩::L=>rfl
  |⟨.any,x⟩::L=>rfl
  |⟨.st _,x⟩::L=>rfl
  |⟨.mp _ _,x⟩::L=>rfl
 |(k,.m kc vc)::O,L=>by
  match L with
  |[]=>rfl
  |⟨.mp _ _,x⟩::L=>simp only[dn,dF,aF];rw[<- uX O L]
  |⟨.sl _,x⟩::L=>rfl
  |⟨.int _,x⟩::L=>rfl
  |⟨.bool,x⟩::L=>rfl
  |⟨.str,x⟩::L=>rfl
  |⟨.any,x⟩::L=>rfl
  |⟨.st _,x⟩::L=>rfl
 |(k,.c sz rows)::O,L=>by simp only[dn,dF,aF];rw[<- uX O _]
theorem D9{ol:Nat->Nat}:∀(O:List (Nat×OP X.ι))(L:List (DC X)),L.map (·.c)=cH O->(dF (dn ol O L)).map (·.1)=O.map (·.1)
 |[],L,_=>rfl
 |(k,.l c)::O,L,h=>by
  match L,h with
  |⟨.sl c',x⟩::L,h=>
   simp only[aF,cH,List.cons.injEq]at h;simp only[dn,dF,aF,D9 O L h.2]
  |[],h=>simp[cH]at h
  |⟨.int _,x⟩::L,h=>simp[cH]at h
  |⟨.bool,x⟩::L,h=>simp[cH]at h
  |⟨.str,x⟩::L,h=>simp[cH]at h
  |⟨.any,x⟩::L,h=>simp[cH]at h
  |⟨.st _,x⟩::L,h=>simp[cH]at h
  |⟨.mp _ _,x⟩::L,h=>simp[cH]at h
 |(k,.m kc vc)::O,L,h=>by
  match L,h with
  |⟨.mp _ _,x⟩::L,h=>
   simp only[aF,cH,List.cons.injEq]at h;simp only[dn,dF,aF,D9 O L h.2]
  |[],h=>simp[cH]at h
  |⟨.sl _,x⟩::L,h=>simp[cH]at h
  |⟨.int _,x⟩::L,h=>simp[cH]at h
  |⟨.bool,x⟩::L,h=>simp[cH]at h
  |⟨.str,x⟩::L,h=>simp[cH]at h
  |⟨.any,x⟩::L,h=>simp[cH]at h
  |⟨.st _,x⟩::L,h=>simp[cH]at h
 |(k,.c sz rows)::O,L,h=>by
  simp only[cH]at h;simp only[dn,dF,aF,D9 O _ (KS (ol:=ol) rows L _ h).1]
theorem aje(g:cX X)(v:VT (X:=X) (cP g.py++cH g.iz))(h:g.iz.map (·.1)=List.range g.iz.length):(g.cE v).map (·.1)=List.range (g.cE v).length:=by
 have e:(g.cE v).map (·.1)=g.iz.map (·.1):=D9 g.iz _ (by rw[map_drop,Z3,List.drop_left]);have l:=congrArg List.length e;rw[length_map,length_map]at l;rw[e,h,l]
theorem Wu(k:Nat):∀l:List (Nat×bm X),gA (l.map λp=>(p.1,some p.2)) k=tt l k
 |[]=>rfl
 |p::l=>by
  simp only[aF,gA,lk,tt];split
  ·rfl
  ·exact Wu k l
theorem akV(t:Nat):∀(ks:List Nat)(ds:List (DV X)),den (eL (ks.zip ds) t)=(lk (ks.zip (bP ds)) t).getD .undef:=by
 intro ks
 induction ks with
 |nil=>intro ds;rfl
 |cons k ks ih=>
  intro ds;cases ds with
  |nil=>rfl
  |cons d ds=>
   simp only[List.zip_cons_cons,eL,lk,bP];by_cases h:k=t
   ·simp[h]
   ·simp only[aQ h];exact ih ds
theorem aah(t:Nat):∀(ks:List Nat)(ds:List (DV X)),∀j∈bk (eL (ks.zip ds) t),j∈aP ds:=by
 intro ks
 induction ks with
 |nil=>intro ds j hj;simp[eL,lk,bk]at hj
 |cons k ks ih=>
  intro ds j hj;cases ds with
  |nil=>simp[eL,lk,bk]at hj
  |cons d ds=>
   simp only[List.zip_cons_cons,eL,lk]at hj;simp only[aP,bf];by_cases e:k=t
   ·simp only[aX e,Option.getD_some]at hj;exact .inl hj
   ·simp only[aQ e]at hj;exact .inr (ih ds j hj)
def Ea(O:List (Nat×OP X.ι)):List (Nat×Pt X.ι)->List (Nat×CT X.ι)
 |[]=>[]
 |(t,.o k)::r=>match lk O k with
  |some (.l c)=>(t,c)::Ea O r
  |_=>Ea O r
 |(t,.oz k)::r=>match lk O k with
  |some (.l c)=>(t+1099511627776,c)::Ea O r
  |_=>Ea O r
 |_::r=>Ea O r
def Wv(O:List (Nat×OP X.ι)):List (Nat×OP X.ι)->List (Nat×CT X.ι)
 |(q,.c _ [row])::r=>(Ea O (lj (1000000+q*4096) row)).filter (λ p=>Nat.ble p.1 1000000000)++Wv O r
 |_::r=>Wv O r
 |[]=>[]
def Ac(g:cX X):Sh X.ι:=⟨lj 0 g.fx,g.ix,[],[],1000000,Ea g.ix (lj 0 g.fx)++Wv g.ix g.ix⟩
def anX(T:ea)(rs:List ResultVar)(g:cX X):Exit->de X->Option (VT (X:=X) (Ac g).vars)
 | .normal,s=>YM T s rs λds=>bif decide (ds.length=g.fx.length)&&(aP ds).all (λ k=>Nat.blt k s.nx)then
  qh (Ac g) (List.range ds.length) ⟨(List.range ds.length).zip ds,s.obj,s.nx,s.log⟩ ⟨(List.range ds.length).zip ds,s.obj,s.nx,s.log⟩ some else none
 | .ret,s=>YM T s rs λds=>bif decide (ds.length=g.fx.length)&&(aP ds).all (λ k=>Nat.blt k s.nx)then
  qh (Ac g) (List.range ds.length) ⟨(List.range ds.length).zip ds,s.obj,s.nx,s.log⟩ ⟨(List.range ds.length).zip ds,s.obj,s.nx,s.log⟩ some else none
 |_,_=>none
theorem Ww{ol:Nat->Nat}(t:Nat):∀(n:Nat)(ps:List (Pt X.ι))(L:List (DC X)),eL (KR ol (lj n ps) L) (n+t)=((lh ol ps L).1[t]?).getD .undef
 |n,[],L=>by simp[lj,KR,eL,lk,lh]
 |n,p::ps,L=>by
  simp only[lj,KR,eL,lk,lh];cases t with
  |zero=>simp
  |succ t=>
   rw[aQ (by omega)];have:=Ww (ol:=ol) t (n+1) ps (eP ol p L).2;rw[show n+1+t=n+(t+1)by omega]at this;simpa[eL]using this
theorem ajf {P:Program} {g:cX X} {s:de X} {rs:List ResultVar} {r:VT (X:=X) (Ac g).vars} (hl:Low s) (h:(YM T s rs λds=>bif decide (ds.length=g.fx.length)&&(aP ds).all (λ k=>Nat.blt k s.nx)then
 qh (Ac g) (List.range ds.length) ⟨(List.range ds.length).zip ds,s.obj,s.nx,s.log⟩ ⟨(List.range ds.length).zip ds,s.obj,s.nx,s.log⟩ some else none)=some r):
 ∃xs,nk T s.st rs=some xs/\Mp P s.st.obj xs (sU (g.outs r)) (den (g.res r)):=by
 have⟨ds,h1,h⟩:=Ju T h;have⟨h2,h⟩:=dZ h;simp only[aK,aS]at h2;obtain⟨h2,h3⟩:=h2;have hl':Low (⟨(List.range ds.length).zip ds,s.obj,s.nx,s.log⟩:de X):=⟨hl.le,hl.ge,λt k hk=>by
  have:=all_eq_true.1 h3 k (aah t _ _ k hk);exact Nat.blt_eq.mp this,hl.obj⟩
 obtain⟨v,h4,_,_,hrel⟩:=kZ hl' hl' (Ext.refl _ _) h;injection h4 with h4;subst h4;refine⟨bP ds,PS T h1,λw0 O0 β I w vs hM hv=>?_⟩;have hvl:=bj.length _ _ hv;simp only[Array.length_toList,kW]at hvl;have hR:Rel P w0 O0 vs.size β I (⟨(List.range ds.length).zip ds,s.obj,s.nx,s.log⟩:de X).st { tmps:=vs,defers:=[] } w:=by
  refine⟨rfl,rfl,λt=>?_,hM⟩;show VR P β w I (den (eL ((List.range ds.length).zip ds) t)) (vs.getD t undef);rw[akV,show List.range ds.length=List.range (bP ds).length by rw[kW],AU];cases ht:(bP ds)[t]? with
  |none=>simp[VR]
  |some x=>
   obtain⟨u,g1,g2⟩:=bj.get _ _ t _ hv ht;rw[Array.getElem?_toList]at g1;simp only[Option.getD_some,Array.getD_eq_getD_getElem?,g1];exact g2
 obtain⟨β',hR'⟩:=hrel P w0 O0 _ β I _ w hR;have hn:(gO (lj 0 g.fx)).length=(cP g.fx).length:=by rw[PD]
 refine⟨β',I,?_,λ_ h=>h,?_⟩
 ·have:=hR'.mem;have e:(encS (Ac g) ⟨(List.range ds.length).zip ds,s.obj,s.nx,s.log⟩ v).st.obj=nw (sU (g.outs v)):=by
   funext k;simp only[de.st,encS,Ac,map_nil,append_nil,PK,cX.outs,Kf];rw[uX,Wu,<- hn];rfl
  rw[e]at this;exact this
 ·obtain⟨pv,hpv⟩:∃pv,pv=VG g.fx g.ix (vY (Ac g).vars v):=⟨_,rfl⟩;have hres:g.res v=yJ pv:=by rw[hpv];rfl
  have q7:∀t,VR P β' w I (den ((pv[t]?).getD .undef)) (vs.getD t undef):=by
   intro t;have:=hR'.env t;simp only[de.st,eI,encS,Ac,map_nil,append_nil]at this;have e:=Ww (ol:=DT g.ix ((vY (Ac g).vars v).drop (cP g.fx).length)) t 0 g.fx ((vY (Ac g).vars v).take (cP g.fx).length);rw[Nat.zero_add]at e;rw[hpv];simp only[VG];rw[<- e,<- hn];exact this
  have hpl:pv.length=g.fx.length:=by rw[hpv];exact KW _ _ _
  have hsz:vs.size=pv.length:=by rw[hpl,<- h2,hvl]
  rw[hres];have hall:bj P β' w I (bP pv) vs.toList:=by
   have gen:∀(pv:List (DV X)) (us:List Value),us.length=pv.length->(∀ t,t<pv.length->VR P β' w I (den ((pv[t]?).getD .undef)) (us.getD t undef))->bj P β' w I (bP pv) us:=by
    intro pv
    induction pv with
    |nil=>intro us hl _;cases us<;>simp_all [bP,bj]
    |cons d pv ih=>
     intro us hl hh;cases us with
     |nil=>simp at hl
     |cons u us=>
      simp only[bP,bj];refine⟨by simpa using hh 0 (by simp),ih us (by simpa using hl) λt ht=>by simpa using hh (t+1) (by simpa using ht)⟩
   refine gen pv vs.toList (by simpa using hsz) λt ht=>?_;have e:vs.toList.getD t undef=vs.getD t undef:=(by simp[List.getD_eq_getElem?_getD,Array.getD_eq_getD_getElem?]);rw[e];exact q7 t
  match pv,hsz,hall with
  |[d],hsz,hall=>
   obtain⟨u,rfl⟩:=Array.size_eq_one_iff.1 (show vs.size=1 by simpa using hsz);simp only[bP,bj]at hall;simpa[yJ]using hall.1
  |[],hsz,hall=>
   have h1:¬vs.size=1:=(by rw[hsz];simp);rw[dif_neg h1];simp only[yJ,den,VR];exact⟨vs,rfl,hall⟩
  |d::e::pv,hsz,hall=>
   have h1:¬vs.size=1:=(by rw[hsz];simp);rw[dif_neg h1];simp only[yJ,den,VR];exact⟨vs,rfl,hall⟩
variable {Γ:FuncId->Option (bz X)} {am:TypeId->Option (CT X.ι)} {P:Program}
theorem aop(hT : eY P T)(hm : P.follows .mixedOrders = true)(hΓ : sC P Γ){f : FuncId}{fn : Func}{c : Code}(hfn : P.funcs[f]? = some fn)(hb : fn.body = some c)(hname : (fn.name == "runtime.NumGoroutine") = false)(g : cX X)(hN : g.py.length <= fn.ntmps)(hin : g.AK = true)
 (h:Hn X.ι) (n:Nat) (hr:∀v (r:VT (X:=X) (Ac g).vars),g.fn v=some r->run Γ T am fn.ntmps n c (VT (X:=X) (Ac g).vars) h (E4 g v) (anX T fn.results.toList g)=some r):Fi P f g:=by
 intro v r hv;have hrun:=hr v r hv;simp only[cX.AK,aK,aS]at hin;obtain⟨⟨⟨i1,i2⟩,i3⟩,i4⟩:=hin;obtain⟨s1,s2,_⟩:=yM (ol:=DT g.iz ((vY (cP g.py++cH g.iz) v).drop (cP g.py).length)) g.iz ((vY _ v).drop (cP g.py).length);have hargs:∀k∈aP (g.args v),k<1000:=λk hk=>Nat.blt_eq.mp (all_eq_true.1 i3 k (yL g.py _ k hk));have th:∀p∈g.cE v,p.1<1000/\∀j∈d5 p.2,j<1000:=by
  intro p hp;have⟨op,g1,g2⟩:=s2 p hp;have hk:p.1∈g.iz.map (·.1):=mem_map.2 ⟨_,g1,rfl⟩;rw[i1]at hk;have:=List.mem_range.1 hk;exact⟨by omega,λj hj=>Nat.blt_eq.mp (all_eq_true.1 (all_eq_true.1 i4 _ g1) j (g2 j hj))⟩
 have hal:(g.args v).length=g.py.length:=KW _ _ _;have hkeys:(g.cE v).map (·.1)=List.range (g.cE v).length:=aje g v i1;have gx:∀k,gA (E4 g v).obj k=tt (g.cE v) k:=by
  intro k;show gA (dn _ g.iz _) k=tt (dF (dn _ g.iz _)) k;rw[uX,Wu,<- uX]
 have SM:∀(l:List (Nat×bm X))(n:Nat),l.map (·.1)=(List.range l.length).map (n+ ·)->∀k,tt l (n+k)=(l[k]?).map (·.2):=by
  intro l
  induction l with
  |nil=>intro n _ k;rfl
  |cons p l ih=>
   intro n hn k;rw[bG,List.range_succ_eq_map,aF,aF,map_map]at hn;injection hn with e1 e2;simp only[tt];cases k with
   |zero=>rw[aX (by omega)];rfl
   |succ k=>
    rw[aQ (by omega),show n+(k+1)=(n+1)+k by omega,ih (n+1) (by rw[e2];refine map_congr_left λa _=>?_;simp only[Function.comp_apply];omega) k];rfl
 have hlow:Low (E4 g v):=by
  refine⟨by show 1000<=1000000;decide,aC _,λt k hk=>hargs k (aah t _ _ k hk),λk o ho=>?_⟩;rw[gx]at ho;have hmem:∀(l:List (Nat×bm X)),tt l k=some o->(k,o)∈l:=by
   intro l
   induction l with
   |nil=>intro h;simp[tt]at h
   |cons p l ih=>
    intro h;simp only[tt]at h;split at h
    ·rename_i e;cases h;subst e;exact List.mem_cons_self
    ·exact eG _ (ih h)
  exact th _ (hmem _ ho)
 refine aiL hT hfn hb hname (by rw[kW,hal];exact hN) (λ k hk=>hargs k (by rwa [gZ]at hk)) (by rw[length_map,<- length_map (f:=Prod.fst),hkeys,List.length_range];have:=s1.length_le;rw[length_map,length_map]at this;exact Nat.le_trans this i2) ?_ ?_
 ·intro o ho r' hr' x hx j hj;obtain⟨p,hp,rfl⟩:=mem_map.1 ho;exact(th p hp).2 j (Wh hr' hx j hj)
 ·have e:rx.st ⟨(List.range (bP (g.args v)).length).zip (bP (g.args v)),(List.range ((g.cE v).map λp=>bI p.2).length).zip ((g.cE v).map λp=>bI p.2)⟩=(E4 g v).st:=by
   simp only[de.st,rx.st,St.mk.injEq,and_true];refine⟨?_,?_⟩
   ·funext t;simp only[E4];rw[akV,kW,hal]
   ·funext k;rw[AU,gx,List.getElem?_map];have:=SM (g.cE v) 0 (by rw[hkeys];simp) k;rw[Nat.zero_add]at this;rw[this,Option.map_map];rfl
  rw[e];refine(kN hT hm hΓ c _ h _ _ r hlow hrun).mono ?_;rintro e σ ⟨s',hl',_,rfl,g4⟩;cases e<;>first |exact ajf hl' g4 |cases g4
end
section
variable {P:Program} {f F:FuncId} {E:TypeId} {α:Type} {enc:α->Value} {d:α}
end
section
variable {X:SX}
end
section
variable {X:SX}
def FE{α β:Type}(f:α->Option β):List α->Option (List β)
 |[]=>some []
 |x::xs=>(f x).bind λy=>(FE f xs).bind λys=>some (y::ys)
def m8(dq:(i j:X.ι)->Decidable (i=j))(i:X.ι):CT X.ι->Option CS
 | .int k=>some (.int k)
 | .bool=>some .bool
 | .str=>some .str
 | .sl (.st j)=>match dq j i with
  | .isTrue _=>some .back
  | .isFalse _=>none
 |_=>none
def anY(dq:(i j:X.ι)->Decidable (i=j))(i:X.ι):Bool:=(X.cQ i).any λc=>match c with
 | .sl (.st j)=>match dq j i with
  | .isTrue _=>true
  | .isFalse _=>false
 |_=>false
def aoY(dq:(i j:X.ι)->Decidable (i=j)):CT X.ι->Option (List CS)
 | .st i=>bif anY dq i then FE (m8 dq i) (X.cQ i)else none
 |_=>none
theorem aoq(dq:(i j:X.ι)->Decidable (i=j)){i:X.ι}{row:List CS}(hm:FE (m8 dq i) (X.cQ i)=some row){x:Tree}(h:GC row x):∃l:List (CT.T X.toSE (.st i)),x= .sl (l.map (CT.row X.toSE (.st i))):=by
 refine GC.rec (row:=row) (motive_1:=λx _=>∃l:List (CT.T X.toSE (.st i)),x= .sl (l.map (CT.row X.toSE (.st i)))) (motive_2:=λrows _=>∃l:List (CT.T X.toSE (.st i)),rows=l.map (CT.row X.toSE (.st i)))
  (motive_3:=λcs r _=>∀codes:List (CT X.ι),FE (m8 dq i) codes=some cs->∃h:HL X.toSE codes,r=HL.row X.toSE codes h) ?_ ?_ ?_ ?_ ?_ ?_ h
 ·rintro rows _ _ ⟨l,rfl⟩;exact⟨l,rfl⟩
 ·exact⟨[],rfl⟩
 ·rintro r rs _ _ h1 ⟨l,rfl⟩;obtain⟨q,rfl⟩:=h1 _ hm;exact⟨(X.make i q:X.T i)::l,by rw[aF];congr 1;exact(X.gd i q).symm⟩
 ·intro codes hc;cases codes with
  |nil=>exact⟨(),rfl⟩
  |cons c codes=>
   simp only[FE,ai]at hc;obtain⟨_,_,_,_,h⟩:=hc;cases h
 ·intro cs x xs _ _ h1 h2 codes hc;obtain⟨l,rfl⟩:=h1;cases codes with
  |nil=>simp[FE]at hc
  |cons c codes=>
   simp only[FE,ai]at hc;obtain⟨c',g1,cs',g2,g3⟩:=hc;injection g3 with g3;injection g3 with g4 g5;subst g4 g5;obtain⟨q,rfl⟩:=h2 _ g2
   match c,g1 with
   | .sl (.st j),g1=>
    simp only[m8]at g1;split at g1
    ·rename_i hj _;subst hj;exact⟨(l,q),rfl⟩
    ·cases g1
   | .int _,g1=>simp[m8]at g1
   | .bool,g1=>simp[m8]at g1
   | .str,g1=>simp[m8]at g1
   | .any,g1=>simp[m8]at g1
   | .st _,g1=>simp[m8]at g1
   | .mp _ _,g1=>simp[m8]at g1
   | .sl (.int _),g1=>simp[m8]at g1
   | .sl .bool,g1=>simp[m8]at g1
   | .sl .str,g1=>simp[m8]at g1
   | .sl .any,g1=>simp[m8]at g1
   | .sl (.sl _),g1=>simp[m8]at g1
   | .sl (.mp _ _),g1=>simp[m8]at g1
 ·intro c' cs x xs hf _ h2 codes hc;cases codes with
  |nil=>simp[FE]at hc
  |cons c codes=>
   simp only[FE,ai]at hc;obtain⟨c2,g1,cs',g2,g3⟩:=hc;injection g3 with g3;injection g3 with g4 g5;subst g4 g5;obtain⟨q,rfl⟩:=h2 _ g2
   match c,g1 with
   | .int k,g1=>
    cases g1;obtain⟨n,rfl,_⟩:=hf;exact⟨(n,q),rfl⟩
   | .bool,g1=>
    cases g1;obtain⟨n,rfl⟩:=hf;exact⟨(n,q),rfl⟩
   | .str,g1=>
    cases g1;obtain⟨n,rfl,_⟩:=hf;exact⟨(n,q),rfl⟩
   | .sl (.st j),g1=>
    simp only[m8]at g1;split at g1
    ·cases g1;exact hf.elim
    ·cases g1
   | .any,g1=>simp[m8]at g1
   | .st _,g1=>simp[m8]at g1
   | .mp _ _,g1=>simp[m8]at g1
   | .sl (.int _),g1=>simp[m8]at g1
   | .sl .bool,g1=>simp[m8]at g1
   | .sl .str,g1=>simp[m8]at g1
   | .sl .any,g1=>simp[m8]at g1
   | .sl (.sl _),g1=>simp[m8]at g1
   | .sl (.mp _ _),g1=>simp[m8]at g1
def t6:Nat->CT X.ι->Option (List CS)
 | 0,_=>none
 |_+1,.int k=>some [.int k]
 |_+1,.bool=>some [.bool]
 |_+1,.str=>some [.str]
 |_+1,.any=>some [.any]
 |_+1,.mp _ _=>none
 |n+1,.sl e=>match aoY X.dec e with
  |some row=>some [.mu row]
  |none=>(t6 n e).bind λr=>some [.sl r]
 |n+1,.st i=>(FE (t6 n) (X.cQ i)).bind λl=>some l.flatten
def GF(n:Nat)(c:CT X.ι):Option VS:=
 match c with
 | .st i=>(t6 n (.st i:CT X.ι)).map .agg
 |c=>(t6 n c).bind λl=>match l with
  |[x]=>some (.one x)
  |_=>none
theorem RD:∀(a b:List CS)(ys:List Tree),dc (a++b) ys->∃ya yb,ys=ya++yb/\dc a ya/\dc b yb
 |[],b,ys,h=>⟨[],ys,rfl,trivial,h⟩
 |c::a,b,y::ys,h=>by
  simp only[cons_append,dc]at h;obtain⟨ya,yb,rfl,h1,h2⟩:=RD a b ys h.2;exact⟨y::ya,yb,rfl,⟨h.1,h1⟩,h2⟩
 |_::_,_,[],h=>h.elim
theorem adL{c:CT X.ι}{cs:List CS}(h:∀ys,dc cs ys->∃x:CT.T X.toSE c,ys=CT.row X.toSE c x):∀rows:List (List Tree),(∀ r∈rows,dc cs r)->∃l:List (CT.T X.toSE c),rows=l.map (CT.row X.toSE c)
 |[],_=>⟨[],rfl⟩
 |r::rows,hr=>by
  obtain⟨x,hx⟩:=h r (hr r (by simp));obtain⟨l,hl⟩:=adL h rows λq hq=>hr q (eG _ hq);exact⟨x::l,by rw[aF,<- hx,<- hl]⟩
theorem akW{f:CT X.ι->Option (List CS)}(hf:∀c cs,f c=some cs->∀ys,dc cs ys->∃x:CT.T X.toSE c,ys=CT.row X.toSE c x):∀(l:List (CT X.ι))(css:List (List CS)),FE f l=some css->∀ys,dc css.flatten ys->∃h:HL X.toSE l,ys=HL.row X.toSE l h
 |[],css,h,ys,hy=>by
  simp only[FE,aA]at h;subst h;cases ys with
  |nil=>exact⟨(),rfl⟩
  |cons y ys=>exact hy.elim
 |c::l,css,h,ys,hy=>by
  simp only[FE]at h;have⟨a,h1,h⟩:=ai.1 h;have⟨b,h2,h⟩:=ai.1 h;cases h;simp only[flatten_cons]at hy;obtain⟨ya,yb,rfl,g1,g2⟩:=RD _ _ _ hy;have⟨x,hx⟩:=hf c a h1 ya g1;have⟨q,hq⟩:=akW hf l b h2 yb g2;exact⟨(x,q),by rw[hx,hq];rfl⟩
theorem Uu:∀(n:Nat)(c:CT X.ι)(cs:List CS),t6 n c=some cs->∀ys,dc cs ys->∃x:CT.T X.toSE c,ys=CT.row X.toSE c x
 | 0,_,_,h,_,_=>by cases h
 |n+1,.mp _ _,cs,h,ys,hy=>by simp[t6]at h
 |n+1,.int k,cs,h,ys,hy=>by
  simp only[t6,aA]at h;subst h
  match ys,hy with
  |[y],hy=>
   simp only[dc,Fit,and_true]at hy;obtain⟨m,rfl,_⟩:=hy;exact⟨m,rfl⟩
  |[],hy=>exact hy.elim
  |_::_::_,hy=>exact hy.2.elim
 |n+1,.bool,cs,h,ys,hy=>by
  simp only[t6,aA]at h;subst h
  match ys,hy with
  |[y],hy=>
   simp only[dc,Fit,and_true]at hy;obtain⟨m,rfl⟩:=hy;exact⟨m,rfl⟩
  |[],hy=>exact hy.elim
  |_::_::_,hy=>exact hy.2.elim
 |n+1,.str,cs,h,ys,hy=>by
  simp only[t6,aA]at h;subst h
  match ys,hy with
  |[y],hy=>
   simp only[dc,Fit,and_true]at hy;obtain⟨m,rfl,_⟩:=hy;exact⟨m,rfl⟩
  |[],hy=>exact hy.elim
  |_::_::_,hy=>exact hy.2.elim
 |n+1,.any,cs,h,ys,hy=>by
  simp only[t6,aA]at h;subst h
  match ys,hy with
  |[y],hy=>exact⟨y,rfl⟩
  |[],hy=>exact hy.elim
  |_::_::_,hy=>exact hy.2.elim
 |n+1,.sl e,cs,h,ys,hy=>by
  simp only[t6]at h;split at h
  ·rename_i row hm;cases h
   match ys,hy with
   |[y],hy=>
    simp only[dc,Fit,and_true]at hy;cases e with
    |st i=>
     simp only[aoY]at hm;cases hb:anY X.dec i with
     |false=>rw[hb]at hm;cases hm
     |true=>
      rw[hb]at hm;have⟨l,hl⟩:=aoq X.dec hm hy;exact⟨l,by rw[hl];rfl⟩
    |_=>cases hm
   |[],hy=>exact hy.elim
   |_::_::_,hy=>exact hy.2.elim
  have⟨r,h1,h⟩:=ai.1 h;cases h
  match ys,hy with
  |[y],hy=>
   simp only[dc,Fit,and_true]at hy;obtain⟨rows,rfl,_,hr⟩:=hy;have⟨l,hl⟩:=adL (Uu n e r h1) rows hr;exact⟨l,by rw[hl];rfl⟩
  |[],hy=>exact hy.elim
  |_::_::_,hy=>exact hy.2.elim
 |n+1,.st i,cs,h,ys,hy=>by
  simp only[t6]at h;rw[ai]at h;obtain⟨css,h1,h⟩:=h;cases h;have⟨q,hq⟩:=akW (Uu n) (X.cQ i) css h1 ys hy;exact⟨X.make i q,by rw[hq];exact(X.gd i q).symm⟩
theorem amS{n:Nat}{c:CT X.ι}{s:VS}(h:GF n c=some s){x:TV}(hx:Fk s x):∃y:CT.T X.toSE c,x=CT.tv X.toSE c y:=by
 have one:∀c:CT X.ι,c.one=true->((t6 n c).bind λl=>match l with
  |[x]=>some (VS.one x)
  |_=>none)=some s->∃y:CT.T X.toSE c,x=CT.tv X.toSE c y:=by
  intro c hc h;rw[ai]at h;obtain⟨l,h1,h⟩:=h;split at h
  ·rename_i z;cases h;simp only[Fk]at hx;obtain⟨t,rfl,ht⟩:=hx;obtain⟨y,hy⟩:=Uu n c _ h1 [t] ⟨ht,trivial⟩;obtain⟨t',e1,e2⟩:=row_one hc y;rw[e1]at hy;cases hy;exact⟨y,e2.symm⟩
  ·cases h
 cases c
 case st i=>
  simp only[GF,dM]at h;obtain⟨cs,h1,rfl⟩:=h;simp only[Fk]at hx;obtain⟨ys,rfl,hy⟩:=hx;obtain⟨y,hy⟩:=Uu n (.st i) _ h1 ys hy;exact⟨y,by rw[hy];rfl⟩
 all_goals exact one _ rfl h
theorem adM(n:Nat):∀(cs:List (CT X.ι))(ss:List VS),FE (GF n) cs=some ss->∀xs,Vp ss xs->∃h:HL X.toSE cs,xs=HL.nq X.toSE cs h
 |[],ss,h,xs,hx=>by
  simp only[FE,aA]at h;subst h;cases xs with
  |nil=>exact⟨(),rfl⟩
  |cons x xs=>exact hx.elim
 |c::cs,ss,h,xs,hx=>by
  simp only[FE]at h;have⟨a,h1,h⟩:=ai.1 h;have⟨b,h2,h⟩:=ai.1 h;cases h;cases xs with
  |nil=>exact hx.elim
  |cons x xs=>
   obtain⟨y,rfl⟩:=amS h1 hx.1;obtain⟨q,rfl⟩:=adM n cs b h2 xs hx.2;exact⟨(y,q),rfl⟩
theorem akX{P:Program}{f:FuncId}{n N:Nat}{cs:List (CT X.ι)}{ss:List VS}{fn:Nat->iG X (cs.map AT.d)->Option Bool}(hc:∀k,AC P f ⟨cs.map AT.d,[.d .bool],fn k,none⟩)(hs:FE (GF n) cs=some ss)(hl:∀q:HL X.toSE cs,Vp ss (HL.nq X.toSE cs q)->xy (HL.nq X.toSE cs q)<=N->∃k,fn k (hlA cs q)=some true)(xs:List TV)(h:Vp ss xs)(hb:xy xs<=N):
 rb P f (xs.map TV.av) (.one (.d (.s (.sc (.bool true))))):=by
 obtain⟨q,rfl⟩:=adM n cs ss hs xs h;have⟨k,hk⟩:=hl q h hb;have h1:=(hc k).2.1 (hlA cs q) true hk;have h2:=h1;rw[wm (Ur cs)]at h2;have h3:qq P f (wh (cs.map AT.d) (hlA cs q)) [] [] (.one (.d (.s (.sc (.bool true))))):=h2;have h4:=MC h3;rw[wh,Jo]at h4;exact h4
end
end Go.Gb
