import Derived.Test.YthblhgapkimgcacGreatW2
open List (mem_map all_eq_true cons_append length_map append_nil map_map map_congr_left flatten_cons map_nil all_cons map_take map_drop map_append mem_append_right)
namespace Go.Gb
open Go.RowKit
section
variable {X:SX} {A:Type}
theorem agB:∀(l:U (CT X.ι))(v:VT (X:=X) l),(vZ l v).map (·.c)=l
 |[],_=>rfl
 |[_],_=>rfl
 |c::c'::l,v=>by simp only[vZ,aF,agB (c'::l) v.2]
theorem PU:∀{l:U Tree},(∀ t∈l,t.flat)->pQ (l.map AV.t)
 |[],_=>trivial
 |t::l,h=>⟨h t (by simp),PU (λ u hu=>h u (by simp[hu]))⟩
theorem abD{c:CT X.ι}(h:xA c=true)(x:CT.T X.toSE c):uS (CT.tv X.toSE c x).av:=by
 have hf:=uW h x;cases c
 case st i=>exact PU hf
 all_goals first |exact hf _ (aP.2 rfl) |cases h
section
variable {ol:Nat->Nat}
mutual
theorem anN:∀(p:Pt X.ι)(L:List (DC X))(cs:List (CT X.ι)),L.map (·.c)=p.vars++cs->p.vars.all xA=true->uS (den (eP ol p L).1)/\(eP ol p L).2.map (·.c)=cs
 | .v c,L,cs,h,hs=>by
  match L,h with
  |d::r,h=>
   simp only[Pt.vars,aF,List.singleton_append,List.cons.injEq]at h;simp only[Pt.vars,all_cons,List.all_nil,Bool.and_true]at hs;exact⟨abD (h.1 ▸ hs) d.x,h.2⟩
  |[],h=>simp[Pt.vars]at h
 | .o k,L,cs,h,_=>⟨trivial,by simpa[Pt.vars,eP]using h⟩
 | .p k,L,cs,h,_=>⟨trivial,by simpa[Pt.vars,eP]using h⟩
 | .mp k,L,cs,h,_=>⟨trivial,by simpa[Pt.vars,eP]using h⟩
 | .oz k,L,cs,h,_=>⟨trivial,by simpa[Pt.vars,eP]using h⟩
 | .nil,L,cs,h,_=>⟨trivial,by simpa[Pt.vars,eP]using h⟩
 | .od k,L,cs,h,_=>by
  match L,h with
  |d::r,h=>
   simp only[Pt.vars,aF,List.singleton_append,List.cons.injEq]at h;exact⟨trivial,h.2⟩
  |[],h=>simp[Pt.vars]at h
 | .f F fs ps,L,cs,h,hs=>by
  simp only[Pt.vars,List.all_append,aL]at hs;simp only[Pt.vars,aM]at h;obtain⟨a1,a2⟩:=CJ fs L _ h hs.1;obtain⟨b1,b2⟩:=CJ ps _ _ a2 hs.2;exact⟨⟨a1,b1⟩,b2⟩
 | .a ps,L,cs,h,hs=>by
  simp only[Pt.vars]at h hs;exact CJ ps L cs h hs
theorem CJ:∀(ps:List (Pt X.ι))(L:List (DC X))(cs:List (CT X.ι)),L.map (·.c)=cW ps++cs->(cW ps).all xA=true->pQ (bQ (ly ol ps L).1)/\(ly ol ps L).2.map (·.c)=cs
 |[],L,cs,h,_=>⟨trivial,by simpa[cW,ly]using h⟩
 |p::ps,L,cs,h,hs=>by
  simp only[cW,List.all_append,aL]at hs;simp only[cW,aM]at h;obtain⟨a1,a2⟩:=anN p L _ h hs.1;obtain⟨b1,b2⟩:=CJ ps _ _ a2 hs.2;exact⟨⟨a1,b1⟩,b2⟩
end
mutual
theorem anO:∀(p:Pt X.ι)(L:List (DC X)),∀j∈bk (eP ol p L).1,j∈p.refs
 | .v c,L,j,h=>by cases L<;>simp[eP,bk]at h
 | .o k,L,j,h=>by simpa[eP,bk,Pt.refs]using h
 | .p k,L,j,h=>by simpa[eP,bk,Pt.refs]using h
 | .mp k,L,j,h=>by simpa[eP,bk,Pt.refs]using h
 | .oz k,L,j,h=>by simpa[eP,bk,Pt.refs]using h
 | .nil,L,j,h=>by simp[eP,bk]at h
 | .od k,L,j,h=>by cases L<;>simp[eP,bk]at h<;>simp[Pt.refs,h]
 | .f F fs ps,L,j,h=>by
  simp only[eP,bk,aZ]at h;simp only[Pt.refs,aZ];exact h.imp (yL fs _ j) (yL ps _ j)
 | .a ps,L,j,h=>by
  simp only[eP,bk]at h;simp only[Pt.refs];exact yL ps _ j h
theorem yL:∀(ps:List (Pt X.ι))(L:List (DC X)),∀j∈aR (ly ol ps L).1,j∈Be ps
 |[],L,j,h=>by simp[ly,aR]at h
 |p::ps,L,j,h=>by
  simp only[ly,aR,aZ]at h;simp only[Be,aZ];exact h.imp (anO p _ j) (yL ps _ j)
end
theorem Lr:∀(rs:U (List (Pt X.ι)))(L:U (DC X))(cs:U (CT X.ι)),L.map (·.c)=vY rs++cs->(wh ol rs L).2.map (·.c)=cs/\((vY rs).all xA=true->∀r∈(wh ol rs L).1,pQ (bQ r))
 |[],L,cs,h=>⟨by simpa[vY,wh]using h,by simp[wh]⟩
 |r::rs,L,cs,h=>by
  simp only[vY,aM]at h;have step:(ly ol r L).2.map (·.c)=vY rs++cs:=t6 r L _ h;obtain⟨b1,b2⟩:=Lr rs _ _ step;refine⟨b1,λhs q hq=>?_⟩;simp only[vY,List.all_append,aL]at hs;simp only[wh,aO]at hq;rcases hq with rfl |hq
  .exact(CJ r L _ h hs.1).1
  .exact b2 hs.2 q hq
where
 t6 (ps:U (Pt X.ι)) (L:U (DC X)) (cs:U (CT X.ι)) (h:L.map (·.c)=cW ps++cs):(ly ol ps L).2.map (·.c)=cs:=px ps L cs h
 DB:∀(p:Pt X.ι)(L:U (DC X))(cs:U (CT X.ι)),L.map (·.c)=p.vars++cs->(eP ol p L).2.map (·.c)=cs
  | .v c,L,cs,h=>by
   match L,h with
   |d::r,h=>simp only[Pt.vars,aF,List.singleton_append,List.cons.injEq]at h;exact h.2
   |[],h=>simp[Pt.vars]at h
  | .o k,L,cs,h=>by simpa[Pt.vars,eP]using h
  | .p k,L,cs,h=>by simpa[Pt.vars,eP]using h
  | .mp k,L,cs,h=>by simpa[Pt.vars,eP]using h
  | .oz k,L,cs,h=>by simpa[Pt.vars,eP]using h
  | .nil,L,cs,h=>by simpa[Pt.vars,eP]using h
  | .od k,L,cs,h=>by
   match L,h with
   |d::r,h=>simp only[Pt.vars,aF,List.singleton_append,List.cons.injEq]at h;exact h.2
   |[],h=>simp[Pt.vars]at h
  | .f F fs ps,L,cs,h=>by
   simp only[Pt.vars,aM]at h;exact px ps _ _ (px fs L _ h)
  | .a ps,L,cs,h=>by
   simp only[Pt.vars]at h;exact px ps L cs h
 px:∀(ps:U (Pt X.ι))(L:U (DC X))(cs:U (CT X.ι)),L.map (·.c)=cW ps++cs->(ly ol ps L).2.map (·.c)=cs
  |[],L,cs,h=>by simpa[cW,ly]using h
  |p::ps,L,cs,h=>by
   simp only[cW,aM]at h;exact px ps _ _ (DB p L _ h)
theorem V7:∀(rs:U (List (Pt X.ι)))(L:U (DC X)),∀j∈((wh ol rs L).1.map aR).flatten,j∈rs.flatMap Be
 |[],L,j,h=>by simp[wh]at h
 |r::rs,L,j,h=>by
  simp only[wh,aF,flatten_cons,aZ]at h;simp only[List.flatMap_cons,aZ];exact h.imp (yL r _ j) (V7 rs _ j)
theorem yM:∀(O:U (Nat×OP X.ι))(L:U (DC X)),((dK (dD ol O L)).map (·.1)).Sublist (O.map (·.1))/\(∀ p∈dK (dD ol O L),∃op,(p.1,op)∈O/\∀j∈eh p.2,j∈op.refs)/\
 (L.map (·.c)=cQ O->(O.all λq=>match q.2 with | .l c=>xA c | .m _ _=>false | .c _ rows=>(vY rows).all xA)=true->∀p∈dK (dD ol O L),∀r∈(bG p.2).rows,pQ r)
 |[],L=>⟨by simp[dD,dK],by simp[dD,dK],by simp[dD,dK]⟩
 |(k,.l c)::O,L=>by
  match L with
  |[]=>exact⟨by simp[dD,dK],by simp[dD,dK],by simp[dD,dK]⟩
  |⟨.sl c',x⟩::L=>
   have⟨h1,h2,h3⟩:=yM O L;refine⟨?_,?_,?_⟩
   .simp only[dD,dK,aF];exact h1.cons_cons _
   .intro p hp;simp only[dD,dK,aO]at hp;rcases hp with rfl |hp
    .exact⟨.l c,by simp,by simp[eh]⟩
    .have⟨op,g1,g2⟩:=h2 p hp;exact⟨op,eH _ g1,g2⟩
   .intro hL hs p hp r hr;simp only[aF,cQ,List.cons.injEq]at hL;simp only[all_cons,aL]at hs;simp only[dD,dK,aO]at hp;rcases hp with rfl |hp
    .obtain⟨e,_⟩:=hL;injection e with e;simp only[bG,aI,mem_map]at hr;obtain⟨q,⟨y,hy,rfl⟩,rfl⟩:=hr;exact PU (uW (e ▸ hs.1) y)
    .exact h3 hL.2 hs.2 p hp r hr
  |⟨.int _,x⟩::L=>exact⟨by simp[dD,dK],by simp[dD,dK],by simp[dD,dK]⟩
  |⟨.bool,x⟩::L=>exact⟨by simp[dD,dK],by simp[dD,dK],by simp[dD,dK]⟩
  |⟨.str,x⟩::L=>exact⟨by simp[dD,dK],by simp[dD,dK],by simp[dD,dK]⟩
  |⟨.any,x⟩::L=>exact⟨by simp[dD,dK],by simp[dD,dK],by simp[dD,dK]⟩
  |⟨.mp _ _,x⟩::L=>exact⟨by simp[dD,dK],by simp[dD,dK],by simp[dD,dK]⟩
  |⟨.st _,x⟩::L=>exact⟨by simp[dD,dK],by simp[dD,dK],by simp[dD,dK]⟩
 |(k,.m kc vc)::O,L=>by
  match L with
  |[]=>exact⟨by simp[dD,dK],by simp[dD,dK],by simp[dD,dK]⟩
  |⟨.mp tS tI,x⟩::L=>
   have⟨h1,h2,h3⟩:=yM O L;refine⟨?_,?_,?_⟩
   .simp only[dD,dK,aF];exact h1.cons_cons _
   .intro p hp;simp only[dD,dK,aO]at hp;rcases hp with rfl |hp
    .exact⟨.m kc vc,by simp,by simp[eh]⟩
    .have⟨op,g1,g2⟩:=h2 p hp;exact⟨op,eH _ g1,g2⟩
   .intro hL hs;simp at hs
  |⟨.sl _,x⟩::L=>exact⟨by simp[dD,dK],by simp[dD,dK],by simp[dD,dK]⟩
  |⟨.int _,x⟩::L=>exact⟨by simp[dD,dK],by simp[dD,dK],by simp[dD,dK]⟩
  |⟨.bool,x⟩::L=>exact⟨by simp[dD,dK],by simp[dD,dK],by simp[dD,dK]⟩
  |⟨.str,x⟩::L=>exact⟨by simp[dD,dK],by simp[dD,dK],by simp[dD,dK]⟩
  |⟨.any,x⟩::L=>exact⟨by simp[dD,dK],by simp[dD,dK],by simp[dD,dK]⟩
  |⟨.st _,x⟩::L=>exact⟨by simp[dD,dK],by simp[dD,dK],by simp[dD,dK]⟩
 |(k,.c sz rows)::O,L=>by
  have⟨h1,h2,h3⟩:=yM O (wh ol rows L).2;refine⟨?_,?_,?_⟩
  .simp only[dD,dK,aF];exact h1.cons_cons _
  .intro p hp;simp only[dD,dK,aO]at hp;rcases hp with rfl |hp
   .exact⟨.c sz rows,by simp,λj hj=>V7 rows L j hj⟩
   .have⟨op,g1,g2⟩:=h2 p hp;exact⟨op,eH _ g1,g2⟩
  .intro hL hs p hp r hr;simp only[cQ]at hL;simp only[all_cons,aL]at hs;obtain⟨e1,e2⟩:=Lr (ol:=ol) rows L _ hL;simp only[dD,dK,aO]at hp;rcases hp with rfl |hp
   .simp only[bG,mem_map]at hr;obtain⟨q,hq,rfl⟩:=hr;exact e2 hs.1 q hq
   .exact h3 e1 hs.2 p hp r hr
end
theorem PV(k:Nat):∀os:U (Nat×bm X),oc (sU os) k=(tz os k).map bG
 |[]=>rfl
 |(j,o)::r=>by
  simp only[sU,aF,oc,tz];split
  .rfl
  .exact PV k r
theorem V8(f:Nat->Nat)(c:CT X.ι)(x:CT.T X.toSE c):gh f (CT.tv X.toSE c x).av=(CT.tv X.toSE c x).av:=(Aa f (.c c x)).symm
theorem adN(f:Nat->Nat)(o:bm X):bG (oY f o)=Ki f (bG o):=by
 cases o with
 |cells sz rows=>simp only[oY,bG,Ki,map_map];congr 1;exact map_congr_left λr _=>CF f r
 |en c l=>simp only[oY,bG,Ki,aI,map_map];congr 1;exact map_congr_left λr _=>(ZD f _).symm
 |map kc vc l=>simp only[oY,bG,Ki,map_map];congr 1;exact map_congr_left λr _=>by simp only[Function.comp_apply,zH,V8]
theorem ajB(i:Nat)(ae:U Nat)(os:U (Nat×bm X)):iw (NO i ae os)=yf i ae (sU os):=by
 simp only[NO,yf,rW];congr 1
 .simp only[iw,map_map];refine map_congr_left λp _=>?_;simp only[Function.comp_apply,PV,Option.map_map];congr 1;cases tz os p.2<;>simp[adN]
 .simp only[iw,sU,List.filter_map,map_map];refine map_congr_left λq _=>?_;simp[adN]
theorem V9{ds:U (DV X)}:(∀ j∈refs (den (yJ ds)),j∈aR ds)/\(pQ (bQ ds)->uS (den (yJ ds))):=by
 match ds with
 |[]=>exact⟨λ j hj=>by simp[yJ,den,bQ,refs,eX]at hj,λ_=>by simp only[yJ,den,uS];exact trivial⟩
 |[d]=>exact⟨λ j hj=>by simp only[yJ,iK]at hj;simpa[aR]using hj,λh=>h.1⟩
 |d::e::r=>exact⟨λ j hj=>by simp only[yJ,den,refs,gX]at hj;exact hj,λh=>h⟩
theorem aac:∀xs:U (Nat×bm X),dK (xs.map λp=>(p.1,some p.2))=xs
 |[]=>rfl
 |p::xs=>by simp only[aF,dK,aac xs]
theorem abE{P:Program}{g:df X}{F:FuncId}(hg:FF P F g){i:Nat}{first args caps:U (DV X)}{get:Nat->J (bm X)}{k:KK X A}{r:A}(h:agA g i (first++args++caps) get k=some r):
 ∃cL rd wr dv upd ab,j3 P i (den (.fn F first caps)) (bQ args) cL (dL rd (fw get))=some ab/\jk ab.obs/\ab.v=den dv/\ab.upd=iw upd/\(∀ p∈upd,p.1=cR i\/p.1∈wr)/\k dv upd rd wr=some r:=by
 unfold agA at h;rw[ai]at h;obtain⟨m1,h1,h⟩:=h;rw[ai]at h;obtain⟨m,h2,h⟩:=h;have⟨h3,h⟩:=d9 h;rw[ai]at h;obtain⟨v,h4,h⟩:=h;have⟨h5,h⟩:=pR h;rw[ai]at h;obtain⟨rr,h6,h⟩:=h;simp only[aL]at h3;obtain⟨hok,A6⟩:=h3;simp only at h;generalize k5:(List.range g.j0.length).map (qu m)=ae at h A6;simp only[df.ok,aL,aV]at hok;obtain⟨⟨⟨⟨n1,n2⟩,n3⟩,n4⟩,n5⟩:=hok;simp only[okG,aL,aV]at A6;obtain⟨⟨hnd,hnm⟩,A3⟩:=A6;have hlen:ae.length=g.j0.length:=by rw[<- k5];simp
 have hi:∀q∈m.nm,ae[q.2]? =some q.1:=by
  intro q hq;have:=all_eq_true.1 hnm q hq;split at this
  .rename_i k' e;rw[e,Nat.eq_of_beq_eq_true this]
  .cases this
 have hv:∀k∈m.vr,k∉ae:=λk hk=>by
  have:=all_eq_true.1 A3 k hk;simpa using this
 have hrd:∀k,(∃ q,(k,q)∈m.nm)\/k∈m.vr->k∈ae++m.vr:=by
  rintro k (⟨q,hq⟩ |hk)
  .exact List.mem_append_left _ (dw (hi _ hq))
  .exact mem_append_right _ hk
 have hm2:=(l7 _ _ _ h2).1;have vu:=VN h4;obtain⟨_,nA,dA,lA⟩:=wu _ _ _ _ h1;simp only[bT]at dA;obtain⟨nB,dB,lB⟩:=Eh (NM:=m.nm) _ _ _ h2 (λ q hq=>hq);have hL:m.eR=nA++nB:=by rw[dB,dA]
 have hdrop:(vZ _ v).drop (cW g.pL).length=nB:=by rw[vu,hL,<- lA,List.drop_left]
 have htake:(vZ _ v).take (cW g.pL).length=nA:=by rw[vu,hL,<- lA,List.take_left]
 have ho:∀q∈m.nm,∀c l,get q.1=some (.en c l)->Ee g.j0 nB q.2=l.length:=by
  rintro⟨p,q⟩ hq c l hl;have hq2:=hi _ hq;have hqn:q<g.j0.length:=by rw[<- hlen];exact(dH.1 hq2).1
  obtain⟨p',o,g1,g2,g3⟩:=lB [] q (by rw[n1];exact List.mem_range.2 hqn);have:p'=p:=by
   have e1:=hi _ g1;rw[hq2]at e1;injection e1 with e1;exact e1.symm
  subst this;simp only at hl;rw[hl]at g2;injection g2 with g2;have h3:=g3 c l g2.symm;rw[append_nil]at h3;have hk:=(Ei g.j0 nB).nodup (by rw[n1];exact List.nodup_range);simp only[Ee,uU hk h3,Option.getD_some]
 obtain⟨Rg,IR,ds',eA,⟨hs,obs,pA,qA⟩,rA⟩:=yw (P:=P) (ae:=ae) (rd:=ae++m.vr) (NM:=m.nm) (pZ:=m.vr) (ea:=Ee g.j0 nB) hi hv hrd ho _ _ _ _ h1 (λ q hq=>hm2.1 q hq) (λ c hc=>h5 c (hm2.2.1 c hc)) (λ q hq=>hm2.2.2 q hq);obtain⟨Re,Vc,xs,eB,bs,mo,pB,qB,rB⟩:=Ab (P:=P) (ae:=ae) (rd:=ae++m.vr) (NM:=m.nm) (pZ:=m.vr) (ea:=Ee g.j0 nB) hi hv hrd ho _ _ _ h2 (λ q hq=>hq) h5 (λ q hq=>hq);have US:Rg=nA:=by simp only[bT]at IR;rw[<- IR,dA]
 have UP:Re=nB:=List.append_cancel_left (Vc.symm.trans dB);subst US UP;have IN:=eA [];have IM:=eB [];rw[append_nil]at IN IM;have hargs:g.args v=ds':=by simp only[df.args,VP,hdrop,htake,IN]
 have tw:g.cP v=xs:=by simp only[df.cP,LN,hdrop,IM,aac]
 have SU:(g.j0.map λp=>(ae[p.1]?).getD 0)=ae:=by
  have:(g.j0.map λp=>(ae[p.1]?).getD 0)=(g.j0.map (·.1)).map λj=>(ae[j]?).getD 0:=by rw[map_map];rfl
  rw[this,n1];refine List.ext_getElem (by simp[hlen]) λj a b=>?_;simp[dQ b]
 rw[SU]at qB rB;have qA0:=qA [];rw[append_nil,iA,iA]at qA0;have hcon:=hg v rr h6;rw[hargs,tw]at hcon;obtain⟨s1,s2,s3⟩:=yM (ol:=Ee g.ju ((vZ (ir (lE 0 g.ga)++cQ g.ju) rr).drop (cW g.ga).length)) g.ju ((vZ _ rr).drop (cW g.ga).length);have AN:∀k,HA g.j0.length k=true->At ae.length k:=by
  intro k hk;simp only[HA,Bool.or_eq_true,aL,Nat.blt_eq,Nat.ble_eq]at hk;simp only[At,hlen];exact hk
 have good:ZL ae.length (sU (g.outs rr)) (den (g.res rr)):=by
  refine⟨?_,?_,?_,?_⟩
  .intro q hq;simp only[sU,mem_map]at hq;obtain⟨p,hp,rfl⟩:=hq;have⟨op,g1,_⟩:=s2 p hp;have:=all_eq_true.1 n3 _ g1;simp only[aL]at this;exact AN _ this.1
  .have:(sU (g.outs rr)).map (·.1)=(g.outs rr).map (·.1):=(by simp[sU]);rw[this];exact s1.nodup n4
  .intro q hq r' hr' j hj;simp only[sU,mem_map]at hq;obtain⟨p,hp,rfl⟩:=hq;have⟨op,g1,g2⟩:=s2 p hp;have:=all_eq_true.1 n3 _ g1;simp only[aL]at this;refine AN _ (all_eq_true.1 this.2 j (g2 j ?_));obtain⟨pk,po⟩:=p;cases po with
   |cells sz rows=>exact Na (List.mem_flatMap.2 ⟨r',hr',hj⟩)
   |en c l=>
    simp only[bG,aI,mem_map]at hr';obtain⟨z,_,rfl⟩:=hr';rw[abC]at hj;simp at hj
   |map kc vc l=>
    simp only[bG,mem_map]at hr';obtain⟨z,_,rfl⟩:=hr';simp only[eX,zZ,append_nil]at hj;simp at hj
  .intro j hj;have:=(V9 (ds:=VP g.ga g.ju (vZ _ rr))).1 j hj;exact AN _ (all_eq_true.1 n5 j (yL g.ga _ j this))
 have flat:g.flat=true->nh (sU (g.outs rr)) (den (g.res rr)):=by
  intro hf;simp only[df.flat,aL]at hf;have hc:(vZ (ir (lE 0 g.ga)++cQ g.ju) rr).map (·.c)=cW g.ga++cQ g.ju:=(agB _ rr).trans (by rw[PN]);refine⟨(V9 (ds:=VP g.ga g.ju (vZ _ rr))).2 ?_,?_⟩
  .refine(CJ (ol:=_) g.ga _ [] ?_ hf.1).1;rw[append_nil,map_take,hc,List.take_left]
  .intro q hq r' hr';simp only[sU,mem_map]at hq;obtain⟨p,hp,rfl⟩:=hq;exact s3 (by rw[map_drop,hc,List.drop_left]) hf.2 p hp r' hr'
 have c8:Vn (dL (ae++m.vr) (fw get)) (bQ first++bQ args++bQ caps) ae m.vr bs:=by
  refine⟨hv,λj hj hn=>?_,λj hs' q o e1 e2 e3 z hz hn=>?_⟩
  .rw[<- iA,<- iA,gX]at hj;rcases rA j hj with ⟨q,hq⟩ |hj
   .exact absurd (dw (hi _ hq)) hn
   .exact hj
  .rcases rB j hs' q o e1 e2 e3 z hz with ⟨q',hq⟩ |hz
   .exact absurd (dw (hi _ hq)) hn
   .exact hz
 refine⟨.tD ae m.vr bs hs (sU (g.outs rr)) (den (g.res rr)) g.flat,ae++m.vr,_,_,_,
  ⟨gh (cn i ae) (den (g.res rr)),yf i ae (sU (g.outs rr))++(if g.flat then []else m.vr.map λk=>(k,none)),obs++mo++[yp P F (bQ ds') (xs.map λp=>bG p.2) (sU (g.outs rr)) (den (g.res rr)),ZL ae.length (sU (g.outs rr)) (den (g.res rr)),Vn (dL (ae++m.vr) (fw get)) (bQ first++bQ args++bQ caps) ae m.vr bs]++(if g.flat then [nh (sU (g.outs rr)) (den (g.res rr))]else [])⟩,?_,?_,(Aa _ _).symm,?_,?_,h⟩
 .simp only[den,j3,ML,qB,qA0,af];rw[aX ⟨hnd,by omega⟩]
 .refine qW _ (gL (gL (gL pA pB) ?_) ?_)
  .intro z hz;simp only[aO,gB,or_false]at hz;rcases hz with rfl |rfl |rfl
   .exact hcon
   .exact good
   .exact c8
  .intro z hz;cases hf:g.flat with
   |true=>rw[hf]at hz;simp only[if_true,aP]at hz;subst hz;exact flat hf
   |false=>rw[hf]at hz;simp at hz
 .simp only[rW,ajB];congr 1;cases g.flat with
  |true=>rfl
  |false=>exact(Cz m.vr).symm
 .intro p hp;refine .inr ?_;rcases aZ.1 hp with hp |hp
  .exact List.mem_append_left _ (mem_append_right _ (mem_map.2 ⟨p,hp,rfl⟩))
  .cases hf:g.flat with
   |true=>rw[hf]at hp;simp at hp
   |false=>
    rw[hf]at hp;simp only[Bool.false_eq_true,if_false,mem_map]at hp;obtain⟨z,hz,rfl⟩:=hp;exact mem_append_right _ hz
end
section
variable {X:SX} {A:Type}
def Wh:RT X.ι->Bool
 | .d c=>xA c
 | .fresh e=>xA e
 | .whole _=>true
 | .mu c=>xA c
 | .mr c=>xA c
 | .mv=>true
theorem adO{c:CT X.ι}(h:xA c=true)(x:CT.T X.toSE c):(CT.tv X.toSE c x).flat:=by
 cases c
 case st i=>exact uW h x
 all_goals first |exact trivial |cases h
theorem Wi{ns:U Nat}{q:RT X.ι}{x:RT.T X q}(h:Wh q=true):∀c∈VQ ns q x,c.flat:=by
 intro c hc;cases q<;>simp only[VQ,aP,gB]at hc
 case d c=>subst hc;exact adO h x
 case fresh e=>
  subst hc;intro row hr;obtain⟨y,_,rfl⟩:=mem_map.1 hr;exact uW h y
 case whole j=>subst hc;exact trivial
theorem RL{ns:U Nat}:∀{l:U (RT X.ι)}{x:sM X l},l.all Wh=true->∀c∈Bd ns l x,c.flat
 |[],x,_,c,hc=>by simp[Bd]at hc
 |[q],x,h,c,hc=>Wi (by simpa using h) c hc
 |q::q'::l,x,h,c,hc=>by
  simp only[all_cons,aL]at h;simp only[Bd,aZ]at hc;rcases hc with hc |hc
  .exact Wi h.1 c hc
  .exact RL (by simp only[all_cons,aL];exact h.2) c hc
theorem Wj{l:U (RT X.ι)}(x:sM X l)(h:l.all Wh=true):(sV l x).flat:=by
 have:=RL (ns:=yl l x) (x:=x) h;unfold sV;split
 .rename_i c hc;exact this c (by rw[hc];simp)
 .exact this
theorem aad{q:RT X.ι}{x:RT.T X q}(h:Wh q=true):U9 (ql q x):=by
 intro p hp;cases q<;>simp only[ql,aP,gB,aA,reduceCtorEq]at hp
 case mu c=>
  subst hp;intro r hr;obtain⟨y,_,rfl⟩:=mem_map.1 hr;exact uW h y
 case mr c=>
  subst hp;intro r hr;obtain⟨y,_,rfl⟩:=mem_map.1 hr;exact uW h y
theorem aae:∀{l:U (RT X.ι)}{x:sM X l},l.all Wh=true->U9 (nV l x)
 |[],x,_=>λp hp=>by simp[nV]at hp
 |[q],x,h=>aad (q:=q) (by simpa using h)
 |q::q'::l,x,h=>by
  simp only[all_cons,aL]at h;intro p hp;rcases aZ.1 (show some p∈ql q x.1++nV (q'::l) x.2 from hp)with hp |hp
  .exact aad h.1 p hp
  .exact aae (l:=q'::l) (by simp only[all_cons,aL];exact h.2) p hp
def H9(i:Nat)(ae ns:U Nat):(q:RT X.ι)->RT.T X q->U (DV X)×List (Nat×Option (bm X))
 | .d c,x=>([.c c x],[])
 | .fresh e,l=>([.own (cR i) 0 l.length],[(cR i,some (.en e l))])
 | .whole j,_=>([match ae[j]? with |some k=> .own k 0 (ns.getD j 0) |none=> .undef],[])
 |_,_=>([],[])
def KZ(i:Nat)(ae ns:U Nat):(l:U (RT X.ι))->sM X l->J (List (DV X)×List (Nat×Option (bm X)))
 |[],_=>some ([],[])
 |[q],x=>some (H9 i ae ns q x)
 |q::q'::l,x=>(KZ i ae ns (q'::l) x.2).bind λp=>if (H9 i ae ns q x.1).2.isEmpty || p.2.isEmpty then some ((H9 i ae ns q x.1).1++p.1,(H9 i ae ns q x.1).2++p.2)else none
def ap4:U (DV X)->DV X
 |[d]=>d
 |ds=> .eV ds
def GG(i:Nat)(ae:U Nat)(l:U (RT X.ι))(x:sM X l):J (DV X×List (Nat×Option (bm X))):=
 (KZ i ae (yl l x) l x).bind λp=>some (ap4 p.1,p.2)
theorem abF(u:U (Nat×Option (bm X))):(iw u).isEmpty=u.isEmpty:=by cases u<;>rfl
theorem aaf(i:Nat)(ae ns:U Nat)(q:RT X.ι)(x:RT.T X q):(∃ c,VQ ns q x=[c]/\∃d,(H9 i ae ns q x).1=[d]/\Kh i ae c=(den d,iw (H9 i ae ns q x).2))\/(VQ ns q x=[]/\H9 i ae ns q x=([],[])):=by
 cases q
 case d c=>exact .inl ⟨_,rfl,_,rfl,rfl⟩
 case fresh e=>exact .inl ⟨_,rfl,_,rfl,by simp[Kh,H9,den,iw,bG,aI]⟩
 case whole j=>
  refine .inl ⟨_,rfl,_,rfl,?_⟩;simp only[Kh,iw,H9,map_nil,Prod.mk.injEq,and_true];cases ae[j]?<;>rfl
 all_goals exact .inr ⟨rfl,rfl⟩
theorem adP(i:Nat)(ae:U Nat)(c:RC):MB i ae [c]=some ([(Kh i ae c).1],(Kh i ae c).2):=by simp[MB]
theorem aag(i:Nat)(ae ns:U Nat):∀(l:U (RT X.ι))(x:sM X l)(p:U (DV X)×List (Nat×Option (bm X))),KZ i ae ns l x=some p->MB i ae (Bd ns l x)=some (bQ p.1,iw p.2)
 |[],_,p,h=>by simp only[KZ,aA]at h;subst h;rfl
 |[q],x,p,h=>by
  simp only[KZ,aA]at h;subst h;simp only[Bd];rcases aaf i ae ns q x with ⟨c,h1,d,h2,h3⟩ |⟨h1,h2⟩
  .rw[h1,adP,h2,h3];simp[bQ]
  .rw[h1,h2];rfl
 |q::q'::l,x,p,h=>by
  simp only[KZ]at h;rw[ai]at h;obtain⟨p',h1,h⟩:=h;have ih:=aag i ae ns (q'::l) x.2 p' h1;split at h
  .rename_i hc;cases h;simp only[Bd];rcases aaf i ae ns q x.1 with ⟨c,h1,d,h2,h3⟩ |⟨h1,h2⟩
   .rw[h1];simp only[List.singleton_append,MB,ih,af,h3,abF];rw[aX hc,h2];simp[bQ,iw]
   .rw[h1,h2];simp only[bT];exact ih
  .cases h
theorem adQ{i:Nat}{ae:U Nat}{l:U (RT X.ι)}{x:sM X l}{p:DV X×List (Nat×Option (bm X))}(h:GG i ae l x=some p):imp i ae (sV l x)=some (den p.1,iw p.2):=by
 unfold GG at h;rw[ai]at h;obtain⟨p',h1,h⟩:=h;cases h;have ih:=aag i ae _ l x p' h1;unfold sV;split
 .rename_i c hc;rw[hc,adP]at ih;simp only[aA,Prod.mk.injEq]at ih;obtain⟨ds,u⟩:=p'
  match ds,ih with
  |[d],ih=>
   simp only[bQ,List.cons.injEq,and_true]at ih;simp only[imp,ap4,<- ih.1,<- ih.2]
  |[],ih=>simp[bQ]at ih
  |_::_::_,ih=>simp[bQ]at ih
 .rename_i hne;simp only[imp,ih,af];obtain⟨ds,u⟩:=p'
  match ds,ih with
  |[],_=>rfl
  |_::_::_,_=>rfl
  |[d],ih=>
   exfalso;generalize hcs:Bd (yl l x) l x=cs at ih hne
   match cs,ih,hne with
   |[],ih,_=>simp[MB,bQ]at ih
   |[c],_,hne=>exact hne c rfl
   |c::c'::cs,ih,_=>
    simp only[MB]at ih;cases h3:MB i ae cs with
    |none=>rw[h3]at ih;simp at ih
    |some q=>
     rw[h3]at ih;simp only[af]at ih;split at ih
     .simp only[af]at ih;split at ih
      .simp[bQ]at ih
      .cases ih
     .simp at ih
def M2:(q:RT X.ι)->RT.T X q->U (Option (bm X))
 | .mu c,x=>[some (.en c x)]
 | .mr c,x=>[some (.cells (CT.sz X c) [uV c x])]
 | .mv,_=>[none]
 |_,_=>[]
def Wl:(l:U (RT X.ι))->sM X l->U (Option (bm X))
 |[],_=>[]
 |[q],x=>M2 q x
 |q::q'::l,x=>M2 q x.1++Wl (q'::l) x.2
def Ia:U Nat->U (Option (bm X))->U (Nat×Option (bm X))
 |k::ae,p::os=>(k,p)::Ia ae os
 |_,_=>[]
theorem adR(q:RT X.ι)(x:RT.T X q):(M2 q x).map (·.map bG)=(ql q x).map (·.map ii):=by
 cases q<;>try rfl
 case mr c=>simp only[M2,ql,aF,map_nil,Option.map_some,bG,ii,rG,aI,oZ]
theorem PW:∀(l:U (RT X.ι))(x:sM X l),(Wl l x).map (·.map bG)=(nV l x).map (·.map ii)
 |[],_=>rfl
 |[q],x=>adR q x
 |q::q'::l,x=>by simp only[Wl,nV,map_append,adR,PW (q'::l) x.2]
theorem aah:∀(ae:U Nat)(os:U (Option (bm X)))(os':U (Option fu)),os.map (·.map bG)=os'.map (·.map ii)->iw (Ia ae os)=AZ ae os'
 |[],_,_,_=>by simp[Ia,AZ,iw]
 |_::_,[],[],_=>rfl
 |k::ae,p::os,p'::os',h=>by
  simp only[aF,List.cons.injEq]at h;have:=aah ae os os' h.2;simp only[iw]at this;simp only[Ia,AZ,iw,aF,h.1,this]
 |_::_,[],_::_,h=>by simp at h
 |_::_,_::_,[],h=>by simp at h
theorem Ls:∀{ae:U Nat}{os:U (Option (bm X))}{p:Nat×Option (bm X)},p∈Ia ae os->p.1∈ae
 |[],_,_,h=>by simp[Ia]at h
 |_::_,[],_,h=>by simp[Ia]at h
 |k::ae,q::os,p,h=>by
  simp only[Ia,aO]at h;rcases h with rfl |h
  .simp
  .exact eH _ (Ls h)
def abG(get:Nat->J (bm X))(d:DV X)(c:CT X.ι):J (List (CT.T X.toSE c)×Nat×List Bool):=
 match d with
 | .own k 0 len=>(get k).bind λo=>match o with
  | .en b l=>(jq (.sl b) (.sl c) l).bind λ(l:List (CT.T X.toSE c))=>some (l,k,[aE len (List.length l)])
  |_=>none
 |_=>none
def Wm(get:Nat->J (bm X))(d:DV X)(c:CT X.ι):J (CT.T X.toSE c×Nat):=
 match d with
 | .ptr k 0 0=>(get k).bind λo=>match o with
  | .cells sz [row]=>if sz=CT.sz X c then(HV c row).bind λx=>some (x,k)else none
  |_=>none
 |_=>none
def o7(Γ:FuncId->J (cp X))(get:Nat->J (bm X)):U (DV X)->(l:U (AT X.ι))->J (iD X l×List Nat×List Bool)
 |[],[]=>some ((),[],[])
 |d::ds,.mut c::l=>(abG get d c).bind λx=>(o7 Γ get ds l).bind λh=>some ((x.1,h.1),x.2.1::h.2.1,x.2.2++h.2.2)
 |d::ds,.jz c::l=>(Wm get d c).bind λx=>(o7 Γ get ds l).bind λh=>some ((x.1,h.1),x.2::h.2.1,h.2.2)
 |d::ds,.d c::l=>(RH Γ get 3 [d] [.d c]).bind λx=>(o7 Γ get ds l).bind λh=>some ((x.1.1,h.1),h.2.1,x.2++h.2.2)
 |d::ds,.ref c::l=>(RH Γ get 3 [d] [.ref c]).bind λx=>(o7 Γ get ds l).bind λh=>some ((x.1.1,h.1),h.2.1,x.2++h.2.2)
 |d::ds,.ek as r::l=>(RH Γ get 3 [d] [.ek as r]).bind λx=>(o7 Γ get ds l).bind λh=>some ((x.1.1,h.1),h.2.1,x.2++h.2.2)
 |d::ds,.nil::l=>match d with
  | .nil=>(o7 Γ get ds l).bind λh=>some (((),h.1),h.2.1,h.2.2)
  |_=>none
 |_,_=>none
def JL:U (DV X)->U (AT X.ι)->U Nat
 |d::ds,a::l=>(if a.im then []else bk d)++JL ds l
 |_,_=>[]
def PX(get:Nat->J (bm X)):U (DV X)->(l:U (CT X.ι))->J (HL X.toSE l×List Bool)
 |[],[]=>some ((),[])
 |d::ds,c::l=>(FK get d c).bind λx=>(PX get ds l).bind λh=>some ((x.1,h.1),x.2++h.2)
 |_,_=>none
variable (Γ:FuncId->Option (cp X))
def XS(i:Nat)(f:DV X)(args:U (DV X))(get:Nat->J (bm X))(k:KK X A):J A:=
 match f with
 | .fn F first caps=>(Γ F).bind λs=>match s.gen.filter λg=>(sk get g.pL (first++args++caps) ⟨[],[],[],[]⟩).isSome with
  |some g=>agA g i (first++args++caps) get k
  |none=>if (s.args.all (λ q=>q.pl)&&s.res.all (λ q=>!q.out))=true then(RH Γ get 3 (first++args++caps) s.args).bind λa=>VB a.2 ((s.fn a.1).bind λx=>(GG i [] s.res x).bind λp=>
   if s.res.all Wh then k p.1 p.2 (aR (first++args++caps)) []
   else k p.1 (p.2++M6 (aR (first++args++caps))) (aR (first++args++caps)) (aR (first++args++caps)))
  else(o7 Γ get (first++args++caps) s.args).bind λa=>VB a.2.2 ((s.fn a.1).bind λx=>(GG i a.2.1 s.res x).bind λp=>
   if (decide a.2.1.Nodup&&(JL (first++args++caps) s.args).all (λ j=>!a.2.1.contains j)&&decide ((Wl s.res x).length=a.2.1.length))=true then
    if s.res.all Wh then k p.1 (p.2++Ia a.2.1 (Wl s.res x)) (aR (first++args++caps)) a.2.1
    else k p.1 (p.2++(Ia a.2.1 (Wl s.res x)++M6 ((aR (first++args++caps)).filter λj=>!a.2.1.contains j))) (aR (first++args++caps)) (a.2.1++(aR (first++args++caps)).filter λj=>!a.2.1.contains j)
   else none)
 | .ek as q φ=>(PX get args as).bind λh=>VB h.2 ((φ h.1).bind λy=>
  if xA q then k (.c q y) [] (aR args) []else k (.c q y) (M6 (aR args)) (aR args) (aR args))
 |_=>none
def DQ(fz:U Nat)(T:eo)(am:TypeId->J (CT X.ι))(i:Nat)(o:Op)(ρ:Operand->DV X)(get:Nat->J (bm X))(k:KK X A):J A:=
 match o with
 | .call { callee:= .value f,args:=args,argTypes:=_ }=>XS Γ i (ρ f) (args.toList.map ρ) get k
 |o=>if apZ o ρ then VV T am i o ρ get k else if ap2 o ρ || fz.contains i then VM T am i o ρ get k else if ap3 T o ρ then VC T am o ρ get k else L5 T am i o ρ get k
variable {Γ}
theorem Nb{P:Program}{get:Nat->J (bm X)}{rd:U Nat}:∀{ds:U (DV X)}{l:U (CT X.ι)}{h:HL X.toSE l×List Bool},PX get ds l=some h->(∀ b∈h.2,b=true)->(∀ j∈aR ds,j∈rd)->
 ∃hs obs,(∀ p∈obs,p)/\∀ag,mG P (dL rd (fw get)) (bQ ds) (hs++ag)=some ((HL.nw X.toSE l h.1).map TV.av,ag,obs)
 |[],[],h,_,_,_=>⟨[],[],by simp,λag=>rfl⟩
 |d::ds,c::l,h,hr,hc,hrd=>by
  simp only[PX]at hr;have⟨x,h1,hr⟩:=ai.1 hr;have⟨g,h2,hr⟩:=ai.1 hr;cases hr;obtain⟨hs1,o1,p1,q1⟩:=z8 (P:=P) (rd:=rd) h1 (λ b hb=>hc b (by simp[hb])) (λ j hj=>hrd j (by simp[aR,hj]));obtain⟨hs2,o2,p2,q2⟩:=Nb (P:=P) (rd:=rd) h2 (λ b hb=>hc b (by simp[hb])) (λ j hj=>hrd j (by simp[aR,hj]));refine⟨hs1++hs2,o1++o2,gL p1 p2,λag=>?_⟩;simp only[bQ,mG,aM,q1,af,q2];rfl
 |[],_::_,_,hr,_,_=>by simp[PX]at hr
 |_::_,[],_,hr,_,_=>by simp[PX]at hr
theorem Wn{i:Nat}{ae ns:U Nat}{q:RT X.ι}{x:RT.T X q}:∀p∈(H9 i ae ns q x).2,p.1=cR i:=by cases q<;>simp[H9]
theorem Wo{i:Nat}{ae ns:U Nat}:∀{l:U (RT X.ι)}{x:sM X l}{p:U (DV X)×List (Nat×Option (bm X))},KZ i ae ns l x=some p->∀q∈p.2,q.1=cR i
 |[],_,p,h=>by simp only[KZ,aA]at h;subst h;simp
 |[q],x,p,h=>by simp only[KZ,aA]at h;subst h;exact Wn
 |q::q'::l,x,p,h=>by
  simp only[KZ]at h;have⟨p',h1,h⟩:=ai.1 h;split at h
  .cases h;intro z hz;rcases aZ.1 hz with hz |hz
   .exact Wn z hz
   .exact Wo h1 z hz
  .cases h
theorem aai{i:Nat}{ae:U Nat}{l:U (RT X.ι)}{x:sM X l}{p:DV X×List (Nat×Option (bm X))}(h:GG i ae l x=some p):∀q∈p.2,q.1=cR i:=by
 unfold GG at h;have⟨p',h1,h⟩:=ai.1 h;cases h;exact Wo h1
theorem Ib{P:Program}{get:Nat->J aT}{x:AV}{hs ag:U LH}{y:AV}{o:U Prop}(h:mG P get [x] hs=some ([y],ag,o)):nT P get x hs=some (y,ag,o):=by
 simp only[mG,af,append_nil,ai,aA,Prod.mk.injEq,List.cons.injEq,and_true]at h;obtain⟨q,h1,h2,h3,h4⟩:=h;rw[h1,<- h2,<- h3,<- h4]
theorem kX{d:DV X}{ds:U (DV X)}{a:AT X.ι}{l:U (AT X.ι)}{P:Nat->Prop}(h:∀j∈JL (d::ds) (a::l),P j):(a.im=false->∀j∈bk d,P j)/\∀j∈JL ds l,P j:=by
 simp only[JL,aZ]at h;exact⟨λ e j hj=>h j (.inl (by rw[e];simpa using hj)),λj hj=>h j (.inr hj)⟩
theorem apo{c:CT X.ι}{l:U (CT.T X.toSE c)}:dX ((aI (l.map (CT.row X.toSE c))).take (l.map (CT.row X.toSE c)).length)=aI (l.map (CT.row X.toSE c)):=by
 rw[List.take_of_length_le (by simp[aI])];simp only[dX,aI,map_map];exact map_congr_left λy _=>by
  simp only[Function.comp,map_map];exact map_congr_left λz _=>rfl
theorem YS{get:Nat->J (bm X)}{d:DV X}{c:CT X.ι}{x:U (CT.T X.toSE c)×Nat×List Bool}(h:abG get d c=some x)(hc:∀b∈x.2.2,b=true):
 d= .own x.2.1 0 (List.length x.1)/\∃o,get x.2.1=some o/\(bG o).sz=(rG c x.1).1/\dX ((bG o).rows.take (rG c x.1).2.length)=aI (rG c x.1).2:=by
 unfold abG at h;split at h
 .rename_i k len;rw[ai]at h;obtain⟨o,h1,h⟩:=h;split at h
  .rename_i b l;rw[ai]at h;obtain⟨l',h2,h⟩:=h;cases h;have⟨h3,h4⟩:=jb h2;have h5:len=List.length l':=(by simpa[aE]using hc (aE len (List.length l')) (by simp));refine⟨by rw[h5],.en b l,h1,by simp only[bG,rG];exact h3,?_⟩;simp only[bG,rG,h4];exact apo
  .cases h
 .cases h
theorem Wp{get:Nat->J (bm X)}{d:DV X}{c:CT X.ι}{x:CT.T X.toSE c×Nat}(h:Wm get d c=some x):
 d= .ptr x.2 0 0/\∃o,get x.2=some o/\(bG o).sz=(rG c [x.1]).1/\dX ((bG o).rows.take (rG c [x.1]).2.length)=aI (rG c [x.1]).2:=by
 unfold Wm at h;split at h
 .rename_i k;rw[ai]at h;obtain⟨o,h1,h⟩:=h;split at h
  .rename_i sz row;split at h
   .rename_i hsz;have⟨y,h2,h⟩:=ai.1 h;cases h;refine⟨rfl,_,h1,by simp only[bG,rG];exact hsz,?_⟩;simp only[bG,rG,aF,map_nil,List.length_singleton,List.take_succ_cons,List.take_zero,dX,aI];rw[yj h2]
   .cases h
  .cases h
 .cases h
theorem nE{P:Program}{Γ:FuncId->J (cp X)}(hΓ:sC P Γ){get:Nat->J (bm X)}{rd ae:U Nat}:∀{n:Nat}{ds:U (DV X)}{l:U (AT X.ι)}{a:iD X l×List Nat×List Bool},o7 Γ get ds l=some a->(∀ b∈a.2.2,b=true)->(∀ j∈aR ds,j∈rd)->(∀ j∈JL ds l,j∉ae)->ae.drop n=a.2.1->
 (∃ hs obs,(∀ p∈obs,p)/\∀ag,l6 P (dL rd (fw get)) ae (bQ ds) (hs++ag)=some (dR n l a.1,ag,obs))/\∃mo,AY (dL rd (fw get)) a.2.1 (qj l a.1)=some mo/\∀p∈mo,p
 |n,[],[],a,h,_,_,_,_=>by
  simp only[o7,aA]at h;subst h;exact⟨⟨[],[],by simp,λag=>rfl⟩,[],rfl,by simp⟩
 |n,d::ds,.mut c::l,a,h,hc,hrd,hnr,hid=>by
  simp only[o7]at h;have⟨x,h1,h⟩:=ai.1 h;have⟨q,h2,h⟩:=ai.1 h;cases h;obtain⟨rfl,o,g1,g2,g3⟩:=YS h1 (λ b hb=>hc b (by simp[hb]));have BY:ae[n]? =some x.2.1:=by rw[<- List.head?_drop,hid];rfl
  have B3:ae.drop (n+1)=q.2.1:=by rw[<- List.tail_drop,hid];rfl
  obtain⟨⟨hs,obs,p1,p2⟩,mo,m1,m2⟩:=nE hΓ (n:=n+1) h2 (λ b hb=>hc b (by simp[hb])) (λ j hj=>hrd j (by simp[aR,hj])) (kX hnr).2 B3;refine⟨⟨.mut n::hs,obs,p1,λag=>?_⟩,((bG o).sz=(rG c x.1).1/\dX ((bG o).rows.take (rG c x.1).2.length)=aI (rG c x.1).2)::mo,?_,?_⟩
  .simp only[bQ,den,l6,cons_append,oV,BY,if_true,af,p2,dR,bT]
  .simp only[qj,AY,eD (hrd x.2.1 (by simp[aR,bk])) g1,af,m1]
  .intro p hp;rcases aO.1 hp with rfl |hp
   .exact⟨g2,g3⟩
   .exact m2 p hp
 |n,d::ds,.jz c::l,a,h,hc,hrd,hnr,hid=>by
  simp only[o7]at h;have⟨x,h1,h⟩:=ai.1 h;have⟨q,h2,h⟩:=ai.1 h;cases h;obtain⟨rfl,o,g1,g2,g3⟩:=Wp h1;have BY:ae[n]? =some x.2:=by rw[<- List.head?_drop,hid];rfl
  have B3:ae.drop (n+1)=q.2.1:=by rw[<- List.tail_drop,hid];rfl
  obtain⟨⟨hs,obs,p1,p2⟩,mo,m1,m2⟩:=nE hΓ (n:=n+1) h2 (λ b hb=>hc b (by simp[hb])) (λ j hj=>hrd j (by simp[aR,hj])) (kX hnr).2 B3;refine⟨⟨.mut n::hs,obs,p1,λag=>?_⟩,((bG o).sz=(rG c [x.1]).1/\dX ((bG o).rows.take (rG c [x.1]).2.length)=aI (rG c [x.1]).2)::mo,?_,?_⟩
  .simp only[bQ,den,l6,cons_append,oV,BY,if_true,af,p2,dR,bT]
  .simp only[qj,AY,eD (hrd x.2 (by simp[aR,bk])) g1,af,m1]
  .intro p hp;rcases aO.1 hp with rfl |hp
   .exact⟨g2,g3⟩
   .exact m2 p hp
 |n,d::ds,.d c::l,a,h,hc,hrd,hnr,hid=>by
  simp only[o7]at h;have⟨x,h1,h⟩:=ai.1 h;have⟨q,h2,h⟩:=ai.1 h;cases h;obtain⟨hs1,o1,p1,q1⟩:=rV (P:=P) hΓ 3 (n:=n) h1 (λ b hb=>hc b (by simp[hb])) (rd:=rd) (λ j hj=>hrd j (by simp only[aR,append_nil]at hj;simp[aR,hj]));obtain⟨⟨hs,obs,p2,q2⟩,mo,m1,m2⟩:=nE hΓ (n:=n) h2 (λ b hb=>hc b (by simp[hb])) (λ j hj=>hrd j (by simp[aR,hj])) (kX hnr).2 hid;refine⟨⟨YR (den d) hs1++hs,o1++obs,gL p1 p2,λag=>?_⟩,mo,m1,m2⟩;have:=yu (Ib (q1 (hs++ag))) (λ k hk=>(kX hnr).1 rfl k (by rwa [iK]at hk));rw[M9]at this;simp only[bQ,l6,aM,this,af,q2,dR]
 |n,d::ds,.ref c::l,a,h,hc,hrd,hnr,hid=>by
  simp only[o7]at h;have⟨x,h1,h⟩:=ai.1 h;have⟨q,h2,h⟩:=ai.1 h;cases h;obtain⟨hs1,o1,p1,q1⟩:=rV (P:=P) hΓ 3 (n:=n) h1 (λ b hb=>hc b (by simp[hb])) (rd:=rd) (λ j hj=>hrd j (by simp only[aR,append_nil]at hj;simp[aR,hj]));obtain⟨⟨hs,obs,p2,q2⟩,mo,m1,m2⟩:=nE hΓ (n:=n) h2 (λ b hb=>hc b (by simp[hb])) (λ j hj=>hrd j (by simp[aR,hj])) (kX hnr).2 hid;refine⟨⟨YR (den d) hs1++hs,o1++obs,gL p1 p2,λag=>?_⟩,mo,m1,m2⟩;have:=yu (Ib (q1 (hs++ag))) (λ k hk=>(kX hnr).1 rfl k (by rwa [iK]at hk));rw[M9]at this;simp only[bQ,l6,aM,this,af,q2,dR]
 |n,d::ds,.ek as r::l,a,h,hc,hrd,hnr,hid=>by
  simp only[o7]at h;have⟨x,h1,h⟩:=ai.1 h;have⟨q,h2,h⟩:=ai.1 h;cases h;obtain⟨hs1,o1,p1,q1⟩:=rV (P:=P) hΓ 3 (n:=n) h1 (λ b hb=>hc b (by simp[hb])) (rd:=rd) (λ j hj=>hrd j (by simp only[aR,append_nil]at hj;simp[aR,hj]));obtain⟨⟨hs,obs,p2,q2⟩,mo,m1,m2⟩:=nE hΓ (n:=n) h2 (λ b hb=>hc b (by simp[hb])) (λ j hj=>hrd j (by simp[aR,hj])) (kX hnr).2 hid;refine⟨⟨YR (den d) hs1++hs,o1++obs,gL p1 p2,λag=>?_⟩,mo,m1,m2⟩;have:=yu (Ib (q1 (hs++ag))) (λ k hk=>(kX hnr).1 rfl k (by rwa [iK]at hk));rw[M9]at this;simp only[bQ,l6,aM,this,af,q2,dR]
 |n,d::ds,.nil::l,a,h,hc,hrd,hnr,hid=>by
  simp only[o7]at h;split at h
  .have⟨q,h2,h⟩:=ai.1 h;cases h;obtain⟨⟨hs,obs,p2,q2⟩,mo,m1,m2⟩:=nE hΓ (n:=n) h2 hc (λ j hj=>hrd j (by simp[aR,hj])) (kX hnr).2 hid;refine⟨⟨.nil::hs,obs,p2,λag=>?_⟩,mo,m1,m2⟩;have:=yu (P:=P) (get':=dL rd (fw get)) (ae:=ae) (x:= .da) (hs:= .nil::(hs++ag)) (p:=(.da,hs++ag,[])) rfl (λ k hk=>by simp[refs]at hk);simp only[YR]at this;simp only[bQ,den,l6,cons_append,this,af,q2,dR,bT]
  .cases h
 |_,[],_::_,_,h,_,_,_,_=>by simp[o7]at h
 |_,_::_,[],_,h,_,_,_,_=>by simp[o7]at h
theorem adS{P:Program}(hΓ:sC P Γ){i:Nat}{f:DV X}{args:U (DV X)}{get:Nat->J (bm X)}{k:KK X A}{r:A}(h:XS Γ i f args get k=some r):
 ∃cL rd wr dv upd ab,j3 P i (den f) (bQ args) cL (dL rd (fw get))=some ab/\jk ab.obs/\ab.v=den dv/\ab.upd=iw upd/\(∀ p∈upd,p.1=cR i\/p.1∈wr)/\k dv upd rd wr=some r:=by
 unfold XS at h;split at h
 .rename_i F first caps
  rw[ai]at h;obtain⟨s,h1,h⟩:=h;split at h
  .rename_i g hgen;exact abE ((hΓ F s h1).2.2 g (Option.filter_eq_some_iff.1 hgen).1) h
  split at h
  .rename_i hpure;rw[ai]at h;obtain⟨⟨a,cs⟩,h2,h⟩:=h;have⟨hcs,h⟩:=pR h;rw[ai]at h;obtain⟨x,h3,h⟩:=h;rw[ai]at h;obtain⟨p,h4,h⟩:=h;have hf0:=(hΓ F s h1).2.1 a x h3;simp only[aL]at hpure;rw[wo (apX hpure.1),adB hpure.2]at hf0;have hf:=MU hf0;have hi:=adQ h4;have hk:=aai h4;obtain⟨hs,obs,g1,g2⟩:=rV (P:=P) hΓ 3 h2 hcs (rd:=aR (first++args++caps)) (λ j hj=>hj);have g3:=g2 [];rw[append_nil,iA,iA]at g3;have hrefs:eX (bQ first++bQ args++bQ caps)=aR (first++args++caps):=(by rw[<- iA,<- iA,gX]);split at h
   .rename_i hfl;refine⟨.call hs (sV s.res x) true,_,[],p.1,p.2,⟨den p.1,iw p.2,obs++[rh P F (wm s.args a) (sV s.res x),(sV s.res x).flat]⟩,?_,?_,rfl,rfl,λq hq=> .inl (hk q hq),h⟩
    .simp only[den,j3,oW,xC,hi,af,g3];rfl
    .exact qW _ (gL g1 (by
      intro q hq;simp only[aO,gB,or_false]at hq;rcases hq with rfl |rfl
      .exact hf
      .exact Wj x hfl))
   .refine⟨.call hs (sV s.res x) false,_,_,p.1,_,⟨den p.1,iw p.2++(aR (first++args++caps)).map (λ k=>(k,none)),obs++[rh P F (wm s.args a) (sV s.res x)]⟩,?_,?_,rfl,?_,?_,h⟩
    .simp only[den,j3,oW,xC,hi,af,g3,hrefs];rfl
    .exact qW _ (gL g1 (by
      intro q hq;simp only[aP]at hq;subst hq;exact hf))
    .simp only[rW,Cz]
    .intro q hq;rcases aZ.1 hq with hq |hq
     .exact .inl (hk q hq)
     .exact .inr (JJ hq)
  .rename_i hpure;rw[ai]at h;obtain⟨⟨a,ae,cs⟩,h2,h⟩:=h;have⟨hcs,h⟩:=pR h;rw[ai]at h;obtain⟨x,h3,h⟩:=h;rw[ai]at h;obtain⟨p,h4,h⟩:=h;split at h
   .rename_i hc;simp only[aL,aV]at hc;obtain⟨⟨hnd,hnr⟩,hlen⟩:=hc;have hf:=(hΓ F s h1).2.1 a x h3;have hi:=adQ h4;have hk:=aai h4;obtain⟨⟨hs,obs,g1,g2⟩,mo,m1,m2⟩:=nE (P:=P) hΓ (rd:=aR (first++args++caps)) (ae:=ae) (n:=0) h2 hcs (λ j hj=>hj) (λ j hj=>by simpa using all_eq_true.1 hnr j hj) rfl;have g3:=g2 [];rw[append_nil,iA,iA]at g3;have hrefs:eX (bQ first++bQ args++bQ caps)=aR (first++args++caps):=(by rw[<- iA,<- iA,gX]);have hlen':(nV s.res x).length=ae.length:=by
     rw[<- hlen];simpa using (congrArg List.length (PW s.res x)).symm
    have hout:iw (Ia ae (Wl s.res x))=AZ ae (nV s.res x):=aah _ _ _ (PW s.res x);split at h
    .rename_i hfl;refine⟨.tB ae (qj s.args a) (nV s.res x) hs (sV s.res x) true,_,ae,p.1,_,⟨den p.1,iw p.2++AZ ae (nV s.res x),obs++mo++[qq P F (wm s.args a) (qj s.args a) (nV s.res x) (sV s.res x),(sV s.res x).flat,U9 (nV s.res x)]⟩,?_,?_,rfl,?_,?_,h⟩
     .simp only[den,j3,oW,Ho,hi,af,m1,g3];rw[aX ⟨hnd,hlen'⟩];rfl
     .refine qW _ (gL (gL g1 m2) ?_);intro q hq;simp only[aO,gB,or_false]at hq;rcases hq with rfl |rfl |rfl
      .exact hf
      .exact Wj x hfl
      .exact aae hfl
     .simp only[rW,hout]
     .intro q hq;rcases aZ.1 hq with hq |hq
      .exact .inl (hk q hq)
      .exact .inr (Ls hq)
    .refine⟨.tB ae (qj s.args a) (nV s.res x) hs (sV s.res x) false,_,_,p.1,_,⟨den p.1,iw p.2++(AZ ae (nV s.res x)++((aR (first++args++caps)).filter λj=>!ae.contains j).map (λ k=>(k,none))),obs++mo++[qq P F (wm s.args a) (qj s.args a) (nV s.res x) (sV s.res x)]⟩,?_,?_,rfl,?_,?_,h⟩
     .simp only[den,j3,oW,Ho,hi,af,m1,g3,Hl,hrefs];rw[aX ⟨hnd,hlen'⟩];rfl
     .refine qW _ (gL (gL g1 m2) ?_);intro q hq;simp only[aP]at hq;subst hq;exact hf
     .simp only[rW,hout,Cz]
     .intro q hq;rcases aZ.1 hq with hq |hq
      .exact .inl (hk q hq)
      .rcases aZ.1 hq with hq |hq
       .exact .inr (List.mem_append_left _ (Ls hq))
       .exact .inr (mem_append_right _ (JJ hq))
   .cases h
 .rename_i as q φ;rw[ai]at h;obtain⟨⟨hh,cs⟩,h1,h⟩:=h;have⟨hcs,h⟩:=pR h;rw[ai]at h;obtain⟨y,h2,h⟩:=h;obtain⟨hs,obs,g1,g2⟩:=Nb (P:=P) h1 hcs (rd:=aR args) (λ j hj=>hj);have g3:=g2 [];rw[append_nil]at g3;have hφ:∃h' x',φ h'=some x'/\HL.nw X.toSE as hh=HL.nw X.toSE as h'/\CT.tv X.toSE q y=CT.tv X.toSE q x':=⟨hh,y,h2,rfl,rfl⟩;split at h
  .rename_i hfl;refine⟨.DE hs (HL.nw X.toSE as hh) (CT.tv X.toSE q y) true,_,[],.c q y,[],⟨(CT.tv X.toSE q y).av,[],obs++[(HL.nw X.toSE as hh).map TV.av=(HL.nw X.toSE as hh).map TV.av,(∃ h' x',φ h'=some x'/\HL.nw X.toSE as hh=HL.nw X.toSE as h'/\CT.tv X.toSE q y=CT.tv X.toSE q x'),(CT.tv X.toSE q y).flat]⟩,?_,?_,rfl,rfl,by simp,h⟩
   .simp only[den,j3,oW,xC,g3,af];rfl
   .exact qW _ (gL g1 (by
     intro z hz;simp only[aO,gB,or_false]at hz;rcases hz with rfl |rfl |rfl
     .trivial
     .exact hφ
     .exact adO hfl y))
  .refine⟨.DE hs (HL.nw X.toSE as hh) (CT.tv X.toSE q y) false,_,_,.c q y,_,⟨(CT.tv X.toSE q y).av,(aR args).map (λ k=>(k,none)),obs++[(HL.nw X.toSE as hh).map TV.av=(HL.nw X.toSE as hh).map TV.av,(∃ h' x',φ h'=some x'/\HL.nw X.toSE as hh=HL.nw X.toSE as h'/\CT.tv X.toSE q y=CT.tv X.toSE q x')]⟩,?_,?_,rfl,(Cz _).symm,λz hz=> .inr (JJ hz),h⟩
   .simp only[den,j3,oW,xC,g3,af,gX];rfl
   .exact qW _ (gL g1 (by
     intro z hz;simp only[aO,gB,or_false]at hz;rcases hz with rfl |rfl
     .trivial
     .exact hφ))
 .cases h
theorem agD{P:Program}(hΓ:sC P Γ){fz:U Nat}{T:eo}{am:TypeId->J (CT X.ι)}{i:Nat}{o:Oper}{ρ:Operand->DV X}{get:Nat->J (bm X)}{k:KK X A}{r:A}(h:DQ Γ fz T am i o.op ρ get k=some r):ej P T i o ρ get k r:=by
 obtain⟨dst,op,ty,ao,after,guard⟩:=o;unfold DQ at h;simp only at h;split at h
 .rename_i f args cX;have:=adS hΓ h;simp only[<- Uv]at this;obtain⟨cL,rd,wr,dv,upd,ab,g1,g2⟩:=this;exact .call g1 g2
 .split at h
  .exact agv (o:=⟨dst,op,ty,ao,after,guard⟩) h
  .split at h
   .exact agx (o:=⟨dst,op,ty,ao,after,guard⟩) h
   .split at h
    .exact agy (o:=⟨dst,op,ty,ao,after,guard⟩) h
    .rename_i hne _ _ _;have⟨cL,rd,wr,dv,upd,ab,g1,g2⟩:=ZX (o:=⟨dst,op,ty,ao,after,guard⟩) h;exact ej.op (λ f args cX e=>hne f args cX e) g1 g2
end
def lz(x y:AV):Prop:=∀P β w I v,VR P β w I x v->VR P β w I y v
theorem lz.refl(x:AV):lz x x:=λ_ _ _ _ _ h=>h
theorem lz.undef(x:AV):lz x .undef:=λ_ _ _ _ _ _=>by simp[VR]
theorem lz.wk(x:AV):lz x (wk x):=λ_ _ _ _ _ h=>h.wk
section
variable {P:Program} {w0:World} {O0:ky} {N:Nat} {β:Nat->Option cT} {I:Nat->Prop} {a:Act} {w:World} {f g:Nat->Nat} {D:Nat->Prop}
mutual
theorem VR.rn(hgf:∀k,D k->g (f k)=k):∀(x:AV)(v:Value),(∀ k∈refs x,D k)->VR P β w I x v->VR P (λ j=>β (g j)) w I (gh f x) v
 | .own k aa len,v,hd,h=>by simp only[gh,VR,hgf k (hd k (by simp[refs]))]at h ⊢;exact h
 | .ptr k row aa,v,hd,h=>by simp only[gh,VR,hgf k (hd k (by simp[refs]))]at h ⊢;exact h
 | .agg cs,v,hd,h=>by
  simp only[gh,VR]at h ⊢;obtain⟨vs,h1,h2⟩:=h;exact⟨vs,h1,bj.rn hgf cs _ (by simpa[refs]using hd) h2⟩
 | .eV cs,v,hd,h=>by
  simp only[gh,VR]at h ⊢;obtain⟨vs,h1,h2⟩:=h;exact⟨vs,h1,bj.rn hgf cs _ (by simpa[refs]using hd) h2⟩
 | .fn F first caps,v,hd,h=>by
  simp only[gh,VR]at h ⊢;obtain⟨fs,cs,h1,h2,h3⟩:=h;exact⟨fs,cs,h1,bj.rn hgf first _ (λ k hk=>hd k (by simp[refs,hk])) h2,bj.rn hgf caps _ (λ k hk=>hd k (by simp[refs,hk])) h3⟩
 | .t x,v,_,h=>by simpa[gh,VR]using h
 | .eM r o,v,_,h=>by simpa[gh,VR]using h
 | .ek φ,v,_,h=>by simpa[gh,VR]using h
 | .mp k,v,hd,h=>by simp only[gh,VR,hgf k (hd k (by simp[refs]))]at h ⊢;exact h
 | .oz k len,v,hd,h=>by simp only[gh,VR,hgf k (hd k (by simp[refs]))]at h ⊢;exact h
 | .da,v,_,h=>by simpa[gh,VR]using h
 | .ub,v,_,h=>by simpa[gh,VR]using h
 | .undef,v,_,h=>by simp[gh,VR]
theorem bj.rn(hgf:∀k,D k->g (f k)=k):∀(xs:List AV)(vs:List Value),(∀ k∈eX xs,D k)->bj P β w I xs vs->bj P (λ j=>β (g j)) w I (zH f xs) vs
 |[],[],_,_=>by simp[zH,bj]
 |x::xs,v::vs,hd,h=>by
  simp only[bj]at h;simp only[zH,bj];exact⟨VR.rn hgf x v (λ k hk=>hd k (by simp[eX,hk])) h.1,bj.rn hgf xs vs (λ k hk=>hd k (by simp[eX,hk])) h.2⟩
 |[],_::_,_,h=>by simp[bj]at h
 |_::_,[],_,h=>by simp[bj]at h
end
def m5(D:Nat->Prop)(f:Nat->Nat):U AV->U AV->Prop
 |[],[]=>True
 |x::xs,y::ys=>((∀ k∈refs x,D k)/\lz (gh f x) y)/\m5 D f xs ys
 |_,_=>False
def i9(D:Nat->Prop)(f:Nat->Nat):U (List AV)->U (List AV)->Prop
 |[],[]=>True
 |r::rs,q::qs=>m5 D f r q/\i9 D f rs qs
 |_,_=>False
theorem m5.length:∀{r q:U AV},m5 D f r q->q.length=r.length
 |[],[],_=>rfl
 |_::xs,_::ys,h=>by simp[m5.length h.2]
 |[],_::_,h=>h.elim
 |_::_,[],h=>h.elim
theorem dc.re(hgf:∀k,D k->g (f k)=k):∀{r q:U AV}{c:Array Value}{aa:Nat},m5 D f r q->dc P β w I r c aa->dc P (λ j=>β (g j)) w I q c aa
 |[],[],_,_,_,_=>trivial
 |x::xs,y::ys,c,aa,hr,⟨⟨v,h1,h2,h3⟩,h4⟩=>⟨⟨v,h1,hr.1.2 _ _ _ _ _ (VR.rn hgf x v hr.1.1 h2),h3⟩,dc.re hgf hr.2 h4⟩
 |[],_::_,_,_,h,_=>h.elim
 |_::_,[],_,_,h,_=>h.elim
theorem bp.re(hgf:∀k,D k->g (f k)=k):∀{rs qs:U (List AV)}{c:Array Value}{aa sz:Nat},i9 D f rs qs->bp P β w I rs c aa sz->bp P (λ j=>β (g j)) w I qs c aa sz
 |[],[],_,_,_,_,_=>trivial
 |r::rs,q::qs,c,aa,sz,hr,⟨h1,h2,h3⟩=>⟨by rw[hr.1.length];exact h1,dc.re hgf hr.1 h2,bp.re hgf hr.2 h3⟩
 |[],_::_,_,_,_,h,_=>h.elim
 |_::_,[],_,_,_,h,_=>h.elim
theorem bj.re(hgf:∀k,D k->g (f k)=k):∀{r q:U AV}{vs:U Value},m5 D f r q->bj P β w I r vs->bj P (λ j=>β (g j)) w I q vs
 |[],[],[],_,_=>by simp[bj]
 |x::xs,y::ys,v::vs,hr,h=>by
  simp only[bj]at h ⊢;exact⟨hr.1.2 _ _ _ _ _ (VR.rn hgf x v hr.1.1 h.1),bj.re hgf hr.2 h.2⟩
 |[],_::_,_,h,_=>h.elim
 |_::_,[],_,h,_=>h.elim
 |[],[],_::_,_,h=>by simp[bj]at h
 |_::_,_::_,[],_,h=>by simp[bj]at h
theorem cH.re(hgf:∀k,D k->g (f k)=k):∀{rs qs:U (List AV)}{es:U MapEntry},i9 D f rs qs->cH P β w I rs es->cH P (λ j=>β (g j)) w I qs es
 |[],[],[],_,_=>trivial
 |r::rs,q::qs,_::es,hr,⟨h1,h2⟩=>⟨bj.re hgf hr.1 h1,cH.re hgf hr.2 h2⟩
 |[],_::_,_,h,_=>h.elim
 |_::_,[],_,h,_=>h.elim
 |[],[],_::_,_,h=>h.elim
 |_::_,_::_,[],_,h=>h.elim
theorem i9.length:∀{rs qs:U (List AV)},i9 D f rs qs->qs.length=rs.length
 |[],[],_=>rfl
 |_::xs,_::ys,h=>by simp[i9.length h.2]
 |[],_::_,h=>h.elim
 |_::_,[],h=>h.elim
theorem Rel.re{s s':St}(hgf:∀k,D k->g (f k)=k)(hg:∀j,j<1000->g j=j)(hr:Rel P w0 O0 N β I s a w)(hok:∀t,s.ok t=none\/s'.env t= .undef)(hok':∀t,s'.ok t=none)
 (hE:∀t,s'.env t= .undef\/((∀ k∈refs (s.env t),D k)/\lz (gh f (s.env t)) (s'.env t)))
 (hO:∀j o',s'.obj j=some o'->∃k o,s.obj k=some o/\D k/\f k=j/\o'.sz=o.sz/\i9 D f o.rows o'.rows):Rel P w0 O0 N (λ j=>β (g j)) I s' a w:=by
 refine⟨hr.defers,hr.size,λt=>?_,?_⟩
 .have h1:=hr.env t;rw[hok' t];rcases hok t with hk |h
  rotate_left
  .rw[h];simp[fg,VR]
  rw[hk]at h1;rcases hE t with h |⟨h2,h3⟩
  .rw[h];simp[fg,VR]
  .exact h3 _ _ _ _ _ (VR.rn hgf _ _ h2 h1)
 .have hm:=hr.mem;constructor
  .intro j o' hj;obtain⟨k,o,h1,h2,rfl,h4,h5⟩:=hO j o' hj;have⟨B,hB,sA⟩:=hm.cP k o h1;refine⟨B,by simp only[hgf k h2];exact hB,?_⟩;cases B with
   |none=>
    simp only[OR]at sA ⊢;rw[sA]at h5;cases ho:o'.rows with
    |nil=>rfl
    |cons=>rw[ho]at h5;exact h5.elim
   | «at» b sz n=>
    obtain⟨g1,c,e,g2,g3,g4⟩:=sA;exact⟨by rw[g1,h4],c,e,g2,g3,bp.re hgf h5 g4⟩
   |mp b=>
    obtain⟨es,cl,g1,gl,g2,g3⟩:=sA;have hl:=h5.length;exact⟨es,cl,g1,by omega,λe=>cH.re hgf h5 (g2 (by omega)),g3⟩
  .intro j j' o o' B B' b h1 h2 h3 h4 h5 h6;obtain⟨k,q,i1,i2,rfl,_⟩:=hO j o h1;obtain⟨k',q',i1',i2',rfl,_⟩:=hO j' o' h2;simp only[hgf k i2,hgf k' i2']at h3 h4;rw[hm.gS k k' q q' B B' b i1 i1' h3 h4 h5 h6]
  .intro j o B b h1 h2;obtain⟨k,q,i1,i2,rfl,_⟩:=hO j o h1;simp only[hgf k i2]at h2;exact hm.ownB k q B b i1 h2
  .exact hm.lt
  .exact hm.up
  .exact hm.keep
  .exact hm.le
  .exact hm.os
  .exact hm.tape
  .exact hm.output
  .intro j B hj;show β (g j)=some B;rw[hg j (O0.lt j B hj)];exact hm.anch j B hj
  .exact hm.vars
end
section
variable {X:SX}
theorem adT{D:Nat->Prop}(f:Nat->Nat):∀r:U (DV X),(∀ k∈aR r,D k)->m5 D f (bQ r) (bQ (Kk f r))
 |[],_=>trivial
 |x::xs,h=>⟨⟨λ k hk=>h k (by rw[iK]at hk;simp[aR,hk]),by rw[Aa];exact lz.refl _⟩,adT f xs λk hk=>h k (by simp[aR,hk])⟩
theorem JM{D:Nat->Prop}(f:Nat->Nat)(o:bm X)(h:∀k∈eh o,D k):(bG (oY f o)).sz=(bG o).sz/\i9 D f (bG o).rows (bG (oY f o)).rows:=by
 cases o with
 |cells sz rows=>
  refine⟨rfl,?_⟩;simp only[bG,oY,map_map];simp only[eh]at h
  induction rows with
  |nil=>trivial
  |cons r rs ih=>
   refine⟨adT f r λk hk=>h k (by simp[hk]),ih λk hk=>h k ?_⟩;simp only[aF,flatten_cons,aZ];exact .inr hk
 |en c l=>
  refine⟨rfl,?_⟩;simp only[bG,oY];generalize l.map (CT.row X.toSE c)=rows;have hrow:∀r:U Tree,m5 D f (r.map AV.t) (r.map AV.t):=by
   intro r
   induction r with
   |nil=>trivial
   |cons y ys ih=>exact⟨⟨by simp[refs],lz.refl _⟩,ih⟩
  induction rows with
  |nil=>trivial
  |cons r rs ih=>exact⟨hrow r,ih⟩
 |map kc vc l=>
  refine⟨rfl,?_⟩;simp only[bG,oY];clear h
  induction l with
  |nil=>trivial
  |cons p ps ih=>exact⟨⟨⟨by simp[zZ],by rw[V8];exact lz.refl _⟩,⟨by simp[zZ],by rw[V8];exact lz.refl _⟩,trivial⟩,ih⟩
structure Low(s:dE X):Prop where
 le:s.nx<=1000000
 ge:1000<=s.nx
 env:∀t,∀k∈bk (fi s.env t),k<s.nx
 obj:∀k o,ie s.obj k=some o->k<s.nx/\∀j∈eh o,j<s.nx
theorem Wq{o:bm X}{r:U AV}{x:AV}(hr:r∈(bG o).rows)(hx:x∈r):∀j∈refs x,j∈eh o:=by
 intro j hj;cases o with
 |cells sz rows=>
  simp only[bG,mem_map]at hr;obtain⟨q,hq,rfl⟩:=hr;rw[nU,mem_map]at hx;obtain⟨d,hd,rfl⟩:=hx;simp only[eh,List.mem_flatten,mem_map];refine⟨_,⟨q,hq,rfl⟩,?_⟩;have:∀l:U (DV X),d∈l->j∈aR l:=by
   intro l
   induction l with
   |nil=>intro h;simp at h
   |cons y ys ih=>intro h;rcases aO.1 h with rfl |h
                  .simp only[aR,aZ];left;rwa [iK]at hj
                  .simp only[aR,aZ];exact .inr (ih h)
  exact this q hd
 |en c l=>
  simp only[bG,aI,mem_map]at hr;obtain⟨q,_,rfl⟩:=hr;simp only[mem_map]at hx;obtain⟨t,_,rfl⟩:=hx;simp[refs]at hj
 |map kc vc l=>
  simp only[bG,mem_map]at hr;obtain⟨q,_,rfl⟩:=hr;simp only[aO,gB,or_false]at hx;rcases hx with rfl |rfl<;>simp[zZ]at hj
theorem Low.old{s:dE X}(h:Low s):tG s.st:=by
 have hle:=h.le;constructor
 .intro t k hk;have:=h.env t k (by rw[<- iK];exact hk);omega
 .intro k o hk;simp only[dE.st,dN]at hk;obtain⟨o',h1,rfl⟩:=hk;have⟨h2,h3⟩:=h.obj k o' h1;refine⟨by omega,λr hr x hx j hj=>?_⟩;have:=h3 j (Wq hr hx j hj);omega
end
section
variable {X:SX} {A:Type}
def pg(e b:U (Nat×DV X))(t:Nat):DV X:=match lk e t with |some x=>x |none=>fi b t
def xe(o b:U (Nat×Option (bm X)))(k:Nat):J (bm X):=match lk o k with |some x=>x |none=>ie b k
def zJ(dst:J Tmp)(dv:DV X)(e:U (Nat×DV X)):U (Nat×DV X):=match dst with |some t=>(t,dv)::e |none=>e
def Ws:DV X->DV X
 | .skip=> .undef
 |x=>x
def K3(e:U (Nat×DV X)):Operand->Bool
 | .tmp t=>match lk e t with |some .skip=>false |_=>true
 |_=>true
def RN(e b:U (Nat×DV X))(o:Op):Bool:=
 match o with
 | .pick c x y=>K3 e c&&((K3 e x&&K3 e y) || match YL (pg e b) c with | .c .bool t=>bif t then K3 e x else K3 e y |_=>false)
 |o=>o.operands.toList.all (K3 e)
abbrev E1:=List (Nat×List Nat×List Nat)
section
variable (Γ:FuncId->Option (cp X)) (fz:List Nat) (T:eo) (am:TypeId->Option (CT X.ι)) (al:Array Oper) (b:dE X)
def yN(k:U (Nat×DV X)->U (Nat×Option (bm X))->E1->J A):U Nat->U (Nat×DV X)->U (Nat×Option (bm X))->E1->J A
 |[],e,o,ov=>k e o ov
 |i::r,e,o,ov=>(al[i]?).bind λop=>match op.guard with
  |none=>bif RN e b.env op.op then DQ Γ fz T am i op.op (YL (pg e b.env)) (xe o b.obj) λdv upd rd wr=>yN k r (zJ op.dst (Ws dv) e) (upd++o) ((i,rd,wr)::ov)else none
  |some (j,p)=>((al[j]?).bind (·.dst)).bind λt=>match pg e b.env t with
   | .c .bool v=>
    bif v then(bif p then(bif RN ((t,.c .bool true)::e) b.env op.op then DQ Γ fz T am i op.op (YL (pg ((t,.c .bool true)::e) b.env)) (xe o b.obj) λdv upd rd wr=>yN k r (zJ op.dst (Ws dv) ((t,.c .bool true)::e)) (upd++o) ((i,rd,wr)::ov)else none)
     else yN k r (zJ op.dst .skip ((t,.c .bool true)::e)) o ((i,[],[])::ov))
    else(bif p then yN k r (zJ op.dst .skip ((t,.c .bool false)::e)) o ((i,[],[])::ov)
     else(bif RN ((t,.c .bool false)::e) b.env op.op then DQ Γ fz T am i op.op (YL (pg ((t,.c .bool false)::e) b.env)) (xe o b.obj) λdv upd rd wr=>yN k r (zJ op.dst (Ws dv) ((t,.c .bool false)::e)) (upd++o) ((i,rd,wr)::ov)else none))
   | .skip=>bif(lk e t).isSome then yN k r (zJ op.dst .skip e) o ((i,[],[])::ov)else none
   |_=>none
end
def iy(b:dE X)(e:U (Nat×DV X))(o:U (Nat×Option (bm X))):St:=⟨λ t=>den (pg e b.env t),λk=>(xe o b.obj k).map bG,λt=>match lk e t with |some .skip=>some false |_=>none⟩
theorem ajD(x:DV X):den (Ws x)=den x:=by cases x<;>rfl
theorem alq(b:dE X)(e:U (Nat×DV X))(o:U (Nat×Option (bm X)))(dst:J Tmp)(dv:DV X)(upd:U (Nat×Option (bm X)))(obs:U Prop):
 (iy b e o).app dst (⟨den dv,iw upd,obs⟩,none)=iy b (zJ dst (Ws dv) e) (upd++o):=by
 simp only[iy,St.app,St.mk.injEq];refine⟨?_,?_,?_⟩
 .funext t;cases dst with
  |none=>simp[A8,zJ]
  |some d=>
   simp only[A8,zJ,pg,lk,aA];by_cases h:d=t<;>simp[h,ajD]
 .funext j
  induction upd with
  |nil=>rfl
  |cons p u ih=>
   obtain⟨q,x⟩:=p;simp only[iw,aF,dm,cons_append,xe,lk]at ih ⊢;by_cases h:j=q
   .simp[h]
   .rw[aS h,aS (Ne.symm h)];exact ih
 .funext t;cases dst with
  |none=>simp[A8,zJ]
  |some d=>
   simp only[A8,zJ,lk,aA];by_cases h:d=t
   .simp only[h,if_true];cases dv<;>rfl
   .simp only[aS h]
theorem ajE(b:dE X)(e:U (Nat×DV X))(o:U (Nat×Option (bm X)))(dst:J Tmp):(iy b e o).app dst (⟨.undef,[],[]⟩,some false)=iy b (zJ dst .skip e) o:=by
 simp only[iy,St.app,St.mk.injEq];refine⟨?_,rfl,?_⟩
 .funext t;cases dst with
  |none=>simp[A8,zJ]
  |some d=>
   simp only[A8,zJ,pg,lk,aA];by_cases h:d=t<;>simp[h,den]
 .funext t;cases dst with
  |none=>simp[A8,zJ]
  |some d=>
   simp only[A8,zJ,lk,aA];by_cases h:d=t<;>simp[h]
theorem adU(b:dE X)(e:U (Nat×DV X))(o:U (Nat×Option (bm X))):lL (iy b e o).env=λx=>den (YL (pg e b.env) x):=by funext x;exact(Vy _ x).symm
theorem CK{b:dE X}{e:U (Nat×DV X)}{o:U (Nat×Option (bm X))}{x:Operand}(h:K3 e x=true):xw (iy b e o).ok x=[]:=by
 cases x with
 |tmp t=>
  simp only[K3]at h;simp only[xw,iy];cases ht:lk e t with
  |none=>rfl
  |some d=>rw[ht]at h;cases d<;>first |rfl |cases h
 |_=>rfl
theorem ajF{b:dE X}{e:U (Nat×DV X)}{o:U (Nat×Option (bm X))}{P:Program}{T:eo}{i:Nat}{op:Oper}{cL:ka}{get:Nat->J aT}{ab:Out}(hok:RN e b.env op.op=true)
 (h:jy P T i op cL (lL (iy b e o).env) get=some ab):∀p∈needs (iy b e o).env (iy b e o).ok op.op,p:=by
 obtain⟨dst,op,ty,ao,after,guard⟩:=op;unfold needs;split
 .rename_i c x y heq;simp only at heq;subst heq;simp only[RN,aL,Bool.or_eq_true]at hok;obtain⟨hc,hxy⟩:=hok;have hb:∃t,lL (iy b e o).env c= .t (.sc (.bool t)):=by
   have h0:(∃ n,cL= .ext n)\/(∃ ae fr q,cL= .xt ae fr q)\/qg T i ⟨dst,.pick c x y,ty,ao,after,guard⟩ cL (lL (iy b e o).env) get=some ab:=(by cases cL<;>first |exact .inl ⟨_,rfl⟩ |exact .inr (.inl ⟨_,_,_,rfl⟩) |exact .inr (.inr h));rcases h0 with ⟨n,rfl⟩ |⟨ae,fr,q,rfl⟩ |h0
   .simp[jy,sS,K0,sQ]at h
   .simp[jy,Hq,af2]at h
   .simp only[qg]at h0;split at h0
    .rename_i t ht;exact⟨t,ht⟩
    .cases h0
  obtain⟨t,ht⟩:=hb;rw[ht];simp only[CK hc,bT];rcases hxy with ⟨hx,hy⟩ |hxy
  .simp[CK hx,CK hy]
  .split at hxy
   .rename_i t' ht';have e1:lL (iy b e o).env c= .t (.sc (.bool t')):=(by rw[adU];simp only[ht'];rfl);rw[e1]at ht;injection ht with ht;injection ht with ht;injection ht with ht;subst ht;cases t' with
    |true=>
     simp only[aj]at hxy;simp[CK hxy]
    |false=>
     simp only[ak]at hxy;simp[CK hxy]
   .cases hxy
 .rename_i o' hne;intro p hp;have hall:∀x∈op.operands.toList,K3 e x=true:=by
   have:RN e b.env op=op.operands.toList.all (K3 e):=(by cases op<;>first |rfl |exact(hne _ _ _ rfl).elim);rw[this]at hok;exact all_eq_true.1 hok
  simp only[List.mem_flatMap]at hp;obtain⟨x,hx,hp⟩:=hp;rw[CK (hall x hx)]at hp;simp at hp
theorem alr{a b:U Prop}(h:∀p∈a,p)(h':jk b):jk (a++b):=qW _ (gL h (MP b h'))
variable {Γ:FuncId->Option (cp X)} {fz:List Nat} {T:eo} {am:TypeId->Option (CT X.ι)} {al:Array Oper} {b:dE X} {P:Program}
theorem ajG(hΓ:sC P Γ){i:Nat}{op:Oper}{e:U (Nat×DV X)}{o:U (Nat×Option (bm X))}{k:KK X A}{r:A}(hop:al[i]? =some op)(hw:want al op (iy b e o).env (iy b e o).ok=some true)(hok:RN e b.env op.op=true)
 (h:DQ Γ fz T am i op.op (YL (pg e b.env)) (xe o b.obj) k=some r):
 ∃(a:m6)(dv:DV X)(upd:U (Nat×Option (bm X))),a.sym=false/\k dv upd a.rd a.wr=some r/\∀(dp:Nat->m6)(K:St->Prop),dp i=a->K (iy b (zJ op.dst (Ws dv) e) (upd++o))->xz P T al dp i K (iy b e o):=by
 have⟨cL,rd,wr,dv,upd,ab,h1,h2,h3,h4,h5,h6⟩:=agD hΓ h;refine⟨⟨cL,rd,wr,false⟩,dv,upd,rfl,h6,λdp K ha hK=>?_⟩;have h1':jy P T i op cL (lL (iy b e o).env) (dL rd (iy b e o).obj)=some ab:=by rw[adU];exact h1
 refine⟨op,(⟨ab.v,ab.upd,needs (iy b e o).env (iy b e o).ok op.op++ab.obs⟩,none),hop,?_,?_,?_⟩
 .unfold opAt;simp only[hop,af,hw,ha,h1'];rw[aX];rw[all_eq_true];intro p hp;rw[h4]at hp;simp only[iw,mem_map]at hp;obtain⟨q,hq,rfl⟩:=hp;rcases h5 q hq with h |h
  .simp[h,Vl.2 (.inl rfl:jj (cR i) (cR i))]
  .simp[h]
 .exact alr (ajF hok h1') h2
 .rw[h3,h4,alq];exact hK
theorem step_skip{i:Nat}{op:Oper}{e:U (Nat×DV X)}{o:U (Nat×Option (bm X))}(hop:al[i]? =some op)(hw:want al op (iy b e o).env (iy b e o).ok=some false)
 (dp:Nat->m6) (K:St->Prop) (ha:dp i=⟨.none,[],[],false⟩) (hK:K (iy b (zJ op.dst .skip e) o)):xz P T al dp i K (iy b e o):=by
 refine⟨op,(⟨.undef,[],[]⟩,some false),hop,?_,trivial,?_⟩
 .unfold opAt;simp only[hop,af,hw,ha]
 .rw[ajE];exact hK
theorem agE{e:U (Nat×DV X)}{o:U (Nat×Option (bm X))}{t:Nat}{v:Bool}(h:pg e b.env t= .c .bool v):iy b ((t,.c .bool v)::e) o=iy b e o:=by
 simp only[iy,St.mk.injEq,true_and];refine⟨?_,?_⟩
 .funext s;by_cases hs:t=s
  .subst hs;rw[h];simp[pg,lk]
  .simp[pg,lk,hs]
 .funext s;by_cases hs:t=s
  .subst hs;simp only[lk,if_true];unfold pg at h;cases ht:lk e t with
   |none=>rfl
   |some d=>rw[ht]at h;simp only at h;subst h;rfl
  .simp[lk,hs]
def Kl(tr:U (Nat×m6)):E1:=tr.map λp=>(p.1,p.2.rd,p.2.wr)
def RO(al:Array Oper)(t:Nat):Prop:=∃(j:Nat)(op:Oper),al[j]? =some op/\op.dst=some t
theorem adV{dst:J Tmp}{dv:DV X}{e:U (Nat×DV X)}{p:Nat×DV X}(h:p∈zJ dst dv e):p∈e\/dst=some p.1:=by
 cases dst with
 |none=>exact .inl h
 |some t=>
  simp only[zJ,aO]at h;rcases h with rfl |h
  .exact .inr rfl
  .exact .inl h
theorem Ej(hΓ:sC P Γ){k:U (Nat×DV X)->U (Nat×Option (bm X))->E1->J A}{r:A}:∀(l:U Nat)(e:U (Nat×DV X))(o:U (Nat×Option (bm X)))(ov:E1),yN Γ fz T am al b k l e o ov=some r->
 ∃(tr:U (Nat×m6))(e':U (Nat×DV X))(o':U (Nat×Option (bm X))),tr.map (·.1)=l/\k e' o' ((Kl tr).reverse++ov)=some r/\(∀ p∈e',p∈e\/RO al p.1)/\
  ∀dp:Nat->m6,(∀ p∈tr,dp p.1=p.2)->SB P T al dp (λ σ=>σ=iy b e' o') l (iy b e o)
 |[],e,o,ov,h=>⟨[],e,o,rfl,h,λ_ hp=> .inl hp,λ_ _=>rfl⟩
 |i::l,e,o,ov,h=>by
  simp only[yN]at h;have⟨op,hop,h⟩:=ai.1 h
  have exec:∀e:U (Nat×DV X),want al op (iy b e o).env (iy b e o).ok=some true->
   (bif RN e b.env op.op then DQ Γ fz T am i op.op (YL (pg e b.env)) (xe o b.obj) λdv upd rd wr=>yN Γ fz T am al b k l (zJ op.dst (Ws dv) e) (upd++o) ((i,rd,wr)::ov)else none)=some r->
   ∃(tr:U (Nat×m6)) (e':U (Nat×DV X)) (o':U (Nat×Option (bm X))),tr.map (·.1)=i::l/\k e' o' ((Kl tr).reverse++ov)=some r/\(∀ p∈e',p∈e\/RO al p.1)/\
    ∀dp:Nat->m6,(∀ p∈tr,dp p.1=p.2)->SB P T al dp (λ σ=>σ=iy b e' o') (i::l) (iy b e o):=by
   intro e hw h;have⟨hok,h⟩:=d9 h;have⟨a,dv,upd,_,h1,h2⟩:=ajG hΓ hop hw hok h;obtain⟨tr,e',o',g1,g2,g4,g3⟩:=Ej hΓ l _ _ _ h1;refine⟨(i,a)::tr,e',o',by simp[g1],?_,λp hp=>(g4 p hp).elim (λ hp=>(adV hp).elim .inl λhd=> .inr ⟨i,op,hop,hd⟩) .inr,λdp ha=>?_⟩
   .simpa[Kl]using g2
   .exact h2 dp _ (ha (i,a) (by simp)) (g3 dp λp hp=>ha p (by simp[hp]))
  have skip:∀e:U (Nat×DV X),want al op (iy b e o).env (iy b e o).ok=some false->yN Γ fz T am al b k l (zJ op.dst .skip e) o ((i,[],[])::ov)=some r->
   ∃(tr:U (Nat×m6)) (e':U (Nat×DV X)) (o':U (Nat×Option (bm X))),tr.map (·.1)=i::l/\k e' o' ((Kl tr).reverse++ov)=some r/\(∀ p∈e',p∈e\/RO al p.1)/\
    ∀dp:Nat->m6,(∀ p∈tr,dp p.1=p.2)->SB P T al dp (λ σ=>σ=iy b e' o') (i::l) (iy b e o):=by
   intro e hw h;obtain⟨tr,e',o',g1,g2,g4,g3⟩:=Ej hΓ l _ _ _ h;refine⟨(i,⟨.none,[],[],false⟩)::tr,e',o',by simp[g1],?_,λp hp=>(g4 p hp).elim (λ hp=>(adV hp).elim .inl λhd=> .inr ⟨i,op,hop,hd⟩) .inr,λdp ha=>?_⟩
   .simpa[Kl]using g2
   .exact step_skip hop hw dp _ (ha (i,_) (by simp)) (g3 dp λp hp=>ha p (by simp[hp]))
  split at h
  .rename_i hg;exact exec e (by simp[want,hg]) h
  .rename_i j p hg;rw[ai]at h;obtain⟨t,ht,h⟩:=h;split at h
   .rename_i v hv;have hw:∀e:U (Nat×DV X),pg e b.env t= .c .bool v->want al op (iy b e o).env (iy b e o).ok=some (v==p):=by
     intro e he;simp only[want,hg,ht];have h0:(iy b e o).ok t=none:=by
      simp only[iy];unfold pg at he;cases hq:lk e t with
      |none=>rfl
      |some d=>rw[hq]at he;simp only at he;subst he;rfl
     have h1:(iy b e o).env t= .t (.sc (.bool v)):=(by simp only[iy,he];rfl);rw[h0,h1]
    have hk:=agE (b:=b) (o:=o) hv;have hv':pg ((t,.c .bool v)::e) b.env t= .c .bool v:=(by simp[pg,lk]);have htd:RO al t:=by
     have⟨oj,h1,h2⟩:=ai.1 ht;exact⟨j,oj,h1,h2⟩
    have wide:(∃ (tr:U (Nat×m6)) (e':U (Nat×DV X)) (o':U (Nat×Option (bm X))),tr.map (·.1)=i::l/\k e' o' ((Kl tr).reverse++ov)=some r/\(∀ p∈e',p∈((t,.c .bool v)::e:U (Nat×DV X))\/RO al p.1)/\
     ∀dp:Nat->m6,(∀ p∈tr,dp p.1=p.2)->SB P T al dp (λ σ=>σ=iy b e' o') (i::l) (iy b ((t,.c .bool v)::e) o))->
     ∃(tr:U (Nat×m6)) (e':U (Nat×DV X)) (o':U (Nat×Option (bm X))),tr.map (·.1)=i::l/\k e' o' ((Kl tr).reverse++ov)=some r/\(∀ p∈e',p∈e\/RO al p.1)/\
     ∀dp:Nat->m6,(∀ p∈tr,dp p.1=p.2)->SB P T al dp (λ σ=>σ=iy b e' o') (i::l) (iy b e o):=by
     rintro⟨tr,e',o',g1,g2,g4,g3⟩;refine⟨tr,e',o',g1,g2,λq hq=>?_,hk ▸ g3⟩;rcases g4 q hq with h |h
     .rcases aO.1 h with rfl |h
      .exact .inr htd
      .exact .inl h
     .exact .inr h
    apply wide;cases v with
    |true=>
     simp only[aj]at h;cases p with
     |true=>exact exec _ (hw _ hv') h
     |false=>exact skip _ (hw _ hv') h
    |false=>
     simp only[ak]at h;cases p with
     |true=>exact skip _ (hw _ hv') h
     |false=>exact exec _ (hw _ hv') h
   .rename_i hv;have⟨hsome,h⟩:=d9 h;refine skip e ?_ h;simp only[want,hg,ht];have h1:(iy b e o).env t= .undef:=(by simp only[iy,hv];rfl);cases hq:lk e t with
    |some d=>
     have h0:(iy b e o).ok t=some false:=by
      unfold pg at hv;rw[hq]at hv;simp only at hv;subst hv;simp only[iy,hq]
     rw[h0,h1]
    |none=>rw[hq]at hsome;cases hsome
   .cases h
end
section
variable {X:SX} {A:Type}
def fN(nx k:Nat):Nat:=if k<1000000 then k else nx+(k -1000000)
def gN(nx j:Nat):Nat:=if j<nx then j else 1000000+(j -nx)
def Hs(nx sz k:Nat):Bool:=decide (k<nx) || (decide (1000000<=k)&&decide (k<1000000+sz))
def okE(nx sz:Nat)(e:U (Nat×DV X)):Bool:=e.all λp=>(bk p.2).all (Hs nx sz)
def okO(nx sz:Nat)(o:U (Nat×Option (bm X))):Bool:=o.all λp=>Hs nx sz p.1&&match p.2 with |some x=>(eh x).all (Hs nx sz) |none=>true
def M1(ov:E1):Nat->m6:=λi=>match lk ov i with |some p=>⟨.none,p.1,p.2,false⟩ |none=>⟨.none,[],[],false⟩
def GF(tr:U (Nat×m6)):Nat->m6:=λi=>match lk tr i with |some a=>a |none=>⟨.none,[],[],false⟩
def J1:DV X->DV X
 | .skip=> .undef
 |x=>x
theorem alu(x:DV X):den (J1 x)=den x:=by cases x<;>rfl
theorem aaj(x:DV X):bk (J1 x)=bk x:=by cases x<;>rfl
def fin(s:dE X)(e:U (Nat×DV X))(o:U (Nat×Option (bm X)))(sz:Nat):dE X:=
 ⟨e.map (λ p=>(p.1,J1 (oa (fN s.nx) p.2)))++s.env,o.map (λ p=>(fN s.nx p.1,p.2.map (oY (fN s.nx))))++s.obj,s.nx+sz,o.map (λ p=>fN s.nx p.1)++s.log⟩
def alv(N:Nat)(al:Array Oper)(d:Bool)(nx:Nat)(e:U (Nat×DV X))(o:U (Nat×Option (bm X)))(ov:E1):Bool:=
 PC N al&&(!d || N3 al (M1 ov))&&okE nx (64*al.size) e&&okO nx (64*al.size) o&&decide (nx+64*al.size<=1000000)
def agF(Γ:FuncId->J (cp X))(fz:U Nat)(T:eo)(am:TypeId->J (CT X.ι))(N:Nat)(al:Array Oper)(d:Bool)(s:dE X)(k:dE X->J A):J A:=
 yN Γ fz T am al s (λ e o ov=>bif alv N al d s.nx e o ov then k (fin s e o (64*al.size))else none) (List.range al.size) [] [] []
theorem adW{al:Array Oper}{dp uc:Nat->m6}(h:∀i,(dp i).rd=(uc i).rd/\(dp i).wr=(uc i).wr):N3 al dp=N3 al uc:=by
 have h1:xD dp=xD uc:=by
  funext i j;simp only[xD,(h i).1,(h i).2,(h j).1,(h j).2]
 have h2:∀md,Pw md al dp=Pw md al uc:=by
  intro md;funext listed i;simp only[Pw,h1]
 have h3:∀(md:Region.Mode)(n k:Nat)(listed:Array Bool),lexFrom' md al dp n k listed=lexFrom' md al uc n k listed:=by
  intro md n
  induction n with
  |zero=>intro k listed;rfl
  |succ n ih=>intro k listed;simp only[lexFrom',h2,ih]
 exact h3 _ _ _ _
theorem CO{α:Type}:∀(a b:U (Nat×α))(k:Nat),lk (a++b) k=match lk a k with |some x=>some x |none=>lk b k
 |[],_,_=>rfl
 |(j,x)::a,b,k=>by
  simp only[cons_append,lk];by_cases h:j=k
  .simp[h]
  .simp only[aS h,CO a b k]
theorem aiw{α:Type}:∀{l:U (Nat×α)}{k:Nat},lk l k=none->∀x,(k,x)∉l
 |(j,y)::r,k,h,x=>by
  simp only[lk]at h;split at h
  .cases h
  .rename_i hn;simp only[aO,Prod.mk.injEq,not_or];exact⟨λ e=>hn e.1.symm,aiw h x⟩
 |[],_,_,_=>by simp
theorem apq{tr:U (Nat×m6)}(hn:(tr.map (·.1)).Nodup)(i:Nat):(M1 (Kl tr).reverse i).rd=(GF tr i).rd/\(M1 (Kl tr).reverse i).wr=(GF tr i).wr:=by
 have hn':((Kl tr).reverse.map (·.1)).Nodup:=by
  rw[List.map_reverse];have h1:((Kl tr).map (·.1)).Nodup:=by simpa[Kl,Function.comp_def]using hn
  exact List.pairwise_reverse.2 (h1.imp λh=>Ne.symm h)
 unfold M1 GF;cases h:lk tr i with
 |none=>
  cases h':lk (Kl tr).reverse i with
  |none=>exact⟨rfl,rfl⟩
  |some p=>
   have:=rE h';simp only[Kl,List.mem_reverse,mem_map]at this;obtain⟨q,hq,he⟩:=this;injection he with e1 e2;subst e1;exact(aiw h q.2 hq).elim
 |some a=>
  have h1:=rE h;have h2:(i,a.rd,a.wr)∈(Kl tr).reverse:=by
   simp only[Kl,List.mem_reverse,mem_map];exact⟨(i,a),h1,rfl⟩
  rw[uU hn' h2];exact⟨rfl,rfl⟩
theorem alx{tr:U (Nat×m6)}(hn:(tr.map (·.1)).Nodup):∀p∈tr,GF tr p.1=p.2:=by
 rintro⟨i,a⟩ hp;unfold GF;rw[uU hn hp]
theorem Wt{nx sz k:Nat}(h:Hs nx sz k=true):k<nx\/(1000000<=k/\k<1000000+sz):=by simpa[Hs]using h
theorem T3{nx sz k:Nat}(hle:nx+sz<=1000000)(h:k<nx\/(1000000<=k/\k<1000000+sz)):gN nx (fN nx k)=k:=by
 unfold gN fN;rcases h with h |⟨h1,h2⟩
 .rw[aX (show k<1000000 by omega),aX h]
 .rw[aS (show ¬k<1000000 by omega),aS (by omega)];omega
theorem GP{nx sz k:Nat}(hle:nx+sz<=1000000)(h:k<nx\/(1000000<=k/\k<1000000+sz)):fN nx k<nx+sz:=by
 unfold fN;rcases h with h |⟨h1,h2⟩
 .rw[aX (show k<1000000 by omega)];omega
 .rw[aS (show ¬k<1000000 by omega)];omega
theorem NL{nx k:Nat}(hle:nx<=1000000)(h:k<nx):fN nx k=k:=aX (by omega)
mutual
theorem Wu{f:Nat->Nat}:∀x:DV X,(∀ k∈bk x,f k=k)->oa f x=x
 | .own k _ _,h=>by simp only[oa,h k (by simp[bk])]
 | .ptr k _ _,h=>by simp only[oa,h k (by simp[bk])]
 | .qt k _ _,h=>by simp only[oa,h k (by simp[bk])]
 | .mp k,h=>by simp only[oa,h k (by simp[bk])]
 | .oz k _,h=>by simp only[oa,h k (by simp[bk])]
 | .tj k _ _ _ _,h=>by simp only[oa,h k (by simp[bk])]
 | .agg cs,h=>by simp only[oa,Ac cs (by simpa[bk]using h)]
 | .eV cs,h=>by simp only[oa,Ac cs (by simpa[bk]using h)]
 | .fn F first caps,h=>by simp only[oa,Ac first (λ k hk=>h k (by simp[bk,hk])),Ac caps (λ k hk=>h k (by simp[bk,hk]))]
 | .c _ _,_=>rfl
 | .rp _ _ _,_=>rfl
 | .wy _ _ _ _ _,_=>rfl
 | .ek _ _ _,_=>rfl
 | .raw _,_=>rfl
 | .nil,_=>rfl
 | .ub,_=>rfl
 | .skip,_=>rfl
 | .undef,_=>rfl
theorem Ac{f:Nat->Nat}:∀l:List (DV X),(∀ k∈aR l,f k=k)->Kk f l=l
 |[],_=>rfl
 |x::xs,h=>by simp only[Kk,Wu x (λ k hk=>h k (by simp[aR,hk])),Ac xs (λ k hk=>h k (by simp[aR,hk]))]
end
mutual
theorem Wv(f:Nat->Nat):∀x:DV X,bk (oa f x)=(bk x).map f
 | .own _ _ _=>rfl
 | .ptr _ _ _=>rfl
 | .qt _ _ _=>rfl
 | .mp _=>rfl
 | .oz _ _=>rfl
 | .tj _ _ _ _ _=>rfl
 | .agg cs=>by simp only[oa,bk,yx f cs]
 | .eV cs=>by simp only[oa,bk,yx f cs]
 | .fn F first caps=>by simp only[oa,bk,yx f first,yx f caps,map_append]
 | .c _ _=>rfl
 | .rp _ _ _=>rfl
 | .wy _ _ _ _ _=>rfl
 | .ek _ _ _=>rfl
 | .raw _=>rfl
 | .nil=>rfl
 | .ub=>rfl
 | .skip=>rfl
 | .undef=>rfl
theorem yx(f:Nat->Nat):∀l:List (DV X),aR (Kk f l)=(aR l).map f
 |[]=>rfl
 |x::xs=>by simp only[Kk,aR,Wv f x,yx f xs,map_append]
end
theorem adX(f:Nat->Nat)(o:bm X):eh (oY f o)=(eh o).map f:=by
 cases o with
 |cells sz rows=>simp only[oY,eh,map_map,List.map_flatten];congr 1;exact map_congr_left λr _=>yx f r
 |en c l=>rfl
 |map kc vc l=>rfl
theorem aly{α β:Type}(f:α->β):∀(l:U (Nat×α))(k:Nat),lk (l.map λp=>(p.1,f p.2)) k=(lk l k).map f
 |[],_=>rfl
 |(j,x)::r,k=>by
  simp only[aF,lk];by_cases h:j=k
  .simp[h]
  .simp only[aS h,aly f r k]
theorem aiy{α β:Type}(f:α->β)(g:Nat->Nat):∀(l:U (Nat×α))(j:Nat),(∀ p∈l,∀q∈l,g p.1=g q.1->p.1=q.1)->
 (∀ y,lk (l.map λp=>(g p.1,f p.2)) j=some y->∃k x,lk l k=some x/\g k=j/\y=f x)/\(lk (l.map λp=>(g p.1,f p.2)) j=none->∀p∈l,g p.1≠j)
 |[],_,_=>⟨λ _ h=>by simp[lk]at h,λ_=>by simp⟩
 |(k0,x0)::r,j,hi=>by
  obtain⟨i1,i2⟩:=aiy f g r j (λ p hp q hq=>hi p (by simp[hp]) q (by simp[hq]));simp only[aF,lk];by_cases h:g k0=j
  .rw[aX h];exact⟨λ y hy=>by injection hy with hy;exact⟨k0,x0,by simp,h,hy.symm⟩,λhn=>by cases hn⟩
  .rw[aS h];refine⟨λ y hy=>?_,λhn p hp=>?_⟩
   .have⟨k,x,h1,h2,h3⟩:=i1 y hy;refine⟨k,x,?_,h2,h3⟩;have hne:k0≠k:=λe=>h (by rw[e];exact h2);rw[aS hne];exact h1
   .rcases aO.1 hp with rfl |hp
    .exact h
    .exact i2 hn p hp
structure Ext(ds:Nat->Prop)(s s':dE X):Prop where
 env:∀t,¬ds t->fi s'.env t=fi s.env t\/fi s'.env t= .undef
 obj:∃d,s'.log=d++s.log/\∀k,k<s.nx->k∉d->ie s'.obj k=ie s.obj k\/ie s'.obj k=none
 nx:s.nx<=s'.nx
variable {Γ:FuncId->Option (cp X)} {fz:List Nat} {T:eo} {am:TypeId->Option (CT X.ι)} {P:Program} {N:Nat}
theorem Nc(s:dE X)(e:U (Nat×DV X))(o:U (Nat×Option (bm X)))(sz t:Nat):fi (fin s e o sz).env t=match lk e t with |some d=>J1 (oa (fN s.nx) d) |none=>fi s.env t:=by
 simp only[fin,fi,CO,aly (λ d=>J1 (oa (fN s.nx) d))];cases lk e t<;>rfl
theorem abH(hT:fe P T)(hm:P.follows .mixedOrders=true)(hΓ:sC P Γ){id:Nat}{al:Array Oper}{d:Bool}{s:dE X}{k:dE X->J A}{r:A}(hl:Low s)(h:agF Γ fz T am N al d s k=some r):
 ∃s':dE X,k s'=some r/\Low s'/\Ext (RO al) s s'/\Ev P N (.region id al d) (λ e σ=>e= .normal/\σ=s'.st) s.st:=by
 unfold agF at h;obtain⟨tr,e,o,h1,h2,h3,h4⟩:=Ej hΓ _ _ _ _ h;have⟨h5,h6⟩:=d9 h2;simp only[alv,aL,append_nil]at h5;obtain⟨⟨⟨⟨hd,hlex⟩,hE⟩,hO⟩,hnx⟩:=h5;have hle:s.nx+64*al.size<=1000000:=of_decide_eq_true hnx;have HP:(tr.map (·.1)).Nodup:=by rw[h1];exact List.nodup_range
 have Tu:∀t x,lk e t=some x->∀j∈bk x,j<s.nx\/(1000000<=j/\j<1000000+64*al.size):=by
  intro t x hx j hj;have:=all_eq_true.1 hE _ (rE hx);exact Wt (all_eq_true.1 this j hj)
 have H2:∀p∈o,(p.1<s.nx\/(1000000<=p.1/\p.1<1000000+64*al.size))/\∀x,p.2=some x->∀j∈eh x,j<s.nx\/(1000000<=j/\j<1000000+64*al.size):=by
  intro p hp;have:=all_eq_true.1 hO _ hp;simp only[aL]at this;refine⟨Wt this.1,λx hx j hj=>?_⟩;have h2:=this.2;rw[hx]at h2;exact Wt (all_eq_true.1 h2 j hj)
 have hinj:∀p∈o,∀q∈o,fN s.nx p.1=fN s.nx q.1->p.1=q.1:=by
  intro p hp q hq he;have:=congrArg (gN s.nx) he
  rwa [T3 hle (H2 p hp).1,T3 hle (H2 q hq).1]at this
 have xm:∀j,(∃ q x,lk o q=some x/\fN s.nx q=j/\ie (fin s e o (64*al.size)).obj j=x.map (oY (fN s.nx)))\/(ie (fin s e o (64*al.size)).obj j=ie s.obj j/\∀p∈o,fN s.nx p.1≠j):=by
  intro j;obtain⟨i1,i2⟩:=aiy (λ x:Option (bm X)=>x.map (oY (fN s.nx))) (fN s.nx) o j hinj;simp only[fin,ie,CO];cases hj:lk (o.map λp=>(fN s.nx p.1,p.2.map (oY (fN s.nx)))) j with
  |none=>exact .inr ⟨rfl,i2 hj⟩
  |some y=>
   have⟨q,x,g1,g2,g3⟩:=i1 y hj;exact .inl ⟨q,x,g1,g2,by rw[g3];rfl⟩
 refine⟨fin s e o (64*al.size),h6,?_,?_,?_⟩
 .constructor
  .exact hle
  .have:=hl.ge;show 1000<=s.nx+64*al.size;omega
  .intro t j hj;rw[Nc]at hj;cases ht:lk e t with
   |none=>rw[ht]at hj;have:=hl.env t j hj;show j<s.nx+64*al.size;omega
   |some x=>
    rw[ht,aaj,Wv]at hj;obtain⟨q,hq,rfl⟩:=mem_map.1 hj;exact GP hle (Tu t x ht q hq)
  .intro j x hx;rcases xm j with ⟨q,y,g1,rfl,g3⟩ |⟨g1,_⟩
   .rw[g3]at hx;rw[dN]at hx;obtain⟨z,rfl,rfl⟩:=hx;obtain⟨k1,k2⟩:=H2 _ (rE g1);refine⟨GP hle k1,λi hi=>?_⟩;rw[adX]at hi;obtain⟨i',hi',rfl⟩:=mem_map.1 hi;exact GP hle (k2 z rfl i' hi')
   .rw[g1]at hx;have⟨k1,k2⟩:=hl.obj j x hx;refine⟨show j<s.nx+64*al.size by omega,λi hi=>?_⟩;have:=k2 i hi;show i<s.nx+64*al.size;omega
 .refine⟨λ t ht=> .inl ?_,⟨o.map (λ p=>fN s.nx p.1),rfl,λj hj hn=>?_⟩,by show s.nx<=s.nx+64*al.size;omega⟩
  .rw[Nc];cases hx:lk e t with
   |none=>rfl
   |some x=>
    rcases h3 _ (rE hx)with h |h
    .simp at h
    .exact(ht h).elim
  .rcases xm j with ⟨q,y,g1,g2,g3⟩ |⟨g1,_⟩
   .exact(hn (mem_map.2 ⟨(q,y),rE g1,g2⟩)).elim
   .exact .inl g1
 .have hst:iy s [] []=s.st:=rfl;have hex:=h4 (GF tr) (alx HP);rw[hst]at hex;intro w0 O0 β I a w hr ho;have done:∀(e':Exit)(a':Act)(w':World),(∃ β' I' σ1,Rel P w0 O0 N β' I' σ1 a' w'/\e'= .normal/\σ1=iy s e o)->∃ β' I' σ1,Rel P w0 O0 N β' I' σ1 a' w'/\tG σ1/\e'= .normal/\σ1=(fin s e o (64*al.size)).st:=by
   rintro e' a' w' ⟨β',I',σ1,g1,rfl,rfl⟩;refine⟨_,I',(fin s e o (64*al.size)).st,Rel.re (f:=fN s.nx) (g:=gN s.nx) (D:=λk=>k<s.nx\/(1000000<=k/\k<1000000+64*al.size)) (λ k hk=>T3 hle hk) (λ j hj=>by have:=hl.ge;unfold gN;rw[aX (by omega)]) g1 (λ t=>?_) (λ _=>rfl) (λ t=> .inr ?_) (λ j o' hj=>?_),?_,rfl,rfl⟩
   .show(match lk e t with |some .skip=>some false |_=>none)=none\/den (fi (fin s e o (64*al.size)).env t)= .undef;rw[Nc];cases ht:lk e t with
    |none=>exact .inl rfl
    |some d=>cases d<;>first |exact .inl rfl |exact .inr rfl
   .show(∀ k∈refs (den (pg e s.env t)),_)/\lz (gh (fN s.nx) (den (pg e s.env t))) (den (fi (fin s e o (64*al.size)).env t));rw[Nc,iK,<- Aa];unfold pg;cases ht:lk e t with
    |none=>
     refine⟨λ q hq=> .inl (hl.env t q hq),?_⟩;rw[Wu _ (λ q hq=>NL (by omega) (hl.env t q hq))];exact lz.refl _
    |some x=>exact⟨Tu t x ht,by simp only[alu];exact lz.refl _⟩
   .simp only[dE.st,dN]at hj;obtain⟨x,hx,rfl⟩:=hj;rcases xm j with ⟨q,y,i1,rfl,i3⟩ |⟨i1,i2⟩
    .rw[i3,dN]at hx;obtain⟨z,rfl,rfl⟩:=hx;obtain⟨k1,k2⟩:=H2 _ (rE i1);obtain⟨r1,r2⟩:=JM (D:=λk=>k<s.nx\/(1000000<=k/\k<1000000+64*al.size)) (fN s.nx) z (λ i hi=>k2 z rfl i hi);refine⟨q,bG z,?_,k1,rfl,r1,r2⟩;simp only[iy,xe,i1,Option.map_some]
    .rw[i1]at hx;have⟨k1,k2⟩:=hl.obj j x hx;have hid:oY (fN s.nx) x=x:=by
      cases x with
      |en c l=>rfl
      |map kc vc l=>rfl
      |cells sz rows=>
       simp only[oY];congr 1;have:∀q∈rows,Kk (fN s.nx) q=q:=λq hq=>Ac q λi hi=>NL (by omega) (k2 i (by
        simp only[eh,List.mem_flatten,mem_map];exact⟨_,⟨q,hq,rfl⟩,hi⟩))
       rw[map_congr_left this];simp
     obtain⟨r1,r2⟩:=JM (D:=λk=>k<s.nx\/(1000000<=k/\k<1000000+64*al.size)) (fN s.nx) x (λ i hi=> .inl (k2 i hi));rw[hid]at r1 r2;refine⟨j,bG x,?_,.inl k1,NL (by omega) k1,r1,r2⟩;simp only[iy,xe];cases hlo:lk o j with
     |none=>simp[hx]
     |some y=>exact(i2 _ (rE hlo) (NL (by omega) k1)).elim
   .have hL:Low (fin s e o (64*al.size)):=by
     constructor
     .exact hle
     .have:=hl.ge;show 1000<=s.nx+64*al.size;omega
     .intro t j hj;rw[Nc]at hj;cases ht:lk e t with
      |none=>rw[ht]at hj;have:=hl.env t j hj;show j<s.nx+64*al.size;omega
      |some x=>
       rw[ht,aaj,Wv]at hj;obtain⟨q,hq,rfl⟩:=mem_map.1 hj;exact GP hle (Tu t x ht q hq)
     .intro j x hx;rcases xm j with ⟨q,y,g1,rfl,g3⟩ |⟨g1,_⟩
      .rw[g3]at hx;rw[dN]at hx;obtain⟨z,rfl,rfl⟩:=hx;obtain⟨k1,k2⟩:=H2 _ (rE g1);refine⟨GP hle k1,λi hi=>?_⟩;rw[adX]at hi;obtain⟨i',hi',rfl⟩:=mem_map.1 hi;exact GP hle (k2 z rfl i' hi')
      .rw[g1]at hx;have⟨k1,k2⟩:=hl.obj j x hx;refine⟨show j<s.nx+64*al.size by omega,λi hi=>?_⟩;have:=k2 i hi;show i<s.nx+64*al.size;omega
    exact hL.old
  cases d with
  |false=>exact wp_mono (ajj hT hd ho hex hr) done
  |true=>
   refine wp_mono (Vt hT hm hd ?_ ho hex hr) done;rw[<- adW (apq HP)];simpa using hlex
end
end Go.Gb
namespace Go.Gb
open Go.RowKit
structure Sh(ι:Type) where
 slots:List (Nat×Pt ι)
 cP:List (Nat×OP ι)
 keep:List Nat
 du:List Nat
 nx:Nat
 AW:List (Nat×CT ι)
def Sh.vars{ι:Type}(s:Sh ι):U (CT ι):=ir s.slots++cQ s.cP
section
variable {X:SX}
def nz(z:Bool)(k:Nat):DV X:=bif z then .oz k 0 else .own k 0 0
def AC(z:Bool)(s:dE X)(t:Nat)(c:CT X.ι):dE X:=
 match fi s.env t with
 | .nil=>if s.nx<1000000 then⟨(t,nz z s.nx)::s.env,(s.nx,some (.en c []))::s.obj,s.nx+1,s.nx::s.log⟩else s
 |_=>s
def GE(s:dE X)(q j:Nat)(c:CT X.ι):dE X:=
 match ie s.obj q with
 |some (.cells sz [row])=>match row[j]? with
  |some .nil=>if s.nx<1000000 then⟨s.env,(q,some (.cells sz [row.set j (.own s.nx 0 0)]))::(s.nx,some (.en c []))::s.obj,s.nx+1,q::s.nx::s.log⟩else s
  |_=>s
 |_=>s
def PY:U (Nat×CT X.ι)->dE X->dE X
 |[],s=>s
 |(t,c)::r,s=>PY r (bif Nat.ble 1000000 t then bif Nat.ble 1099511627776 t then AC true s (t -1099511627776) c else GE s ((t -1000000)/4096) ((t -1000000)%4096) c else AC false s t c)
def isU:DV X->Bool
 | .undef | .skip=>true
 |_=>false
def encS(sh:Sh X.ι)(s0:dE X)(v:VT (X:=X) sh.vars):dE X:=
 let L:=vZ sh.vars v
 let n:=(ir sh.slots).length
 let ol:=λk=>(lk (lens sh.cP (L.drop n)) k).getD 0
 ⟨Lp ol sh.slots (L.take n)++sh.keep.map (λ t=>(t,fi s0.env t)),dD ol sh.cP (L.drop n)++sh.du.map (λ k=>(k,ie s0.obj k)),sh.nx,
  (List.range s0.nx).filter (λ k=>!sh.du.contains k)++s0.log⟩
def okS(sh:Sh X.ι)(ds:U Nat)(s0 s':dE X)(m:MA X):Bool:=
 decide (m.nm.map (·.1)++sh.du).Nodup&&decide (m.nm.map (·.2)++sh.du).Nodup&&decide (sh.cP.map (·.1)).Nodup&&m.nm.all (λ q=>(sh.cP.map (·.1)).contains q.2&&decide (q.2<sh.nx)&&(decide (q.1=q.2) || decide (1000<=q.2)))&&
  sh.slots.all (λ p=>ds.contains p.1)&&sh.keep.all (λ t=>!ds.contains t&&!isU (fi s'.env t)&&(bk (fi s0.env t)).all λj=>sh.du.contains j || m.nm.contains (j,j))&&
  sh.du.all (λ k=>decide (k<s0.nx)&&!(s'.log.take (s'.log.length -s0.log.length)).contains k&&(ie s'.obj k).isSome&&match ie s0.obj k with |some o=>(eh o).all λj=>sh.du.contains j || m.nm.contains (j,j) |none=>false)&&
  decide (s0.nx<=sh.nx)&&decide (sh.nx<=1000000)
def PQ{A:Type}(sh:Sh X.ι)(ds:U Nat)(s0 s':dE X)(k:VT (X:=X) sh.vars->J A):J A:=
 (H8 (ie s'.obj) (fi s'.env) sh.slots ⟨[],[],[]⟩).bind λm=>(CB (ie s'.obj) sh.cP m).bind λm=>bif okS sh ds s0 s' m then(YN sh.vars m.eR).bind λv=>VB m.j7 (k v)else none
def qo{A:Type}(sh:Sh X.ι)(ds:U Nat)(s0 s':dE X)(k:VT (X:=X) sh.vars->J A):J A:=
 bif sh.AW.all (λ p=>bif Nat.ble 1000000 p.1 then !Nat.ble 1099511627776 p.1 || ds.contains (p.1 -1099511627776)else ds.contains p.1)then PQ sh ds s0 (PY sh.AW s') k else none
end
section
variable {X:SX}
theorem aal{d:DV X}{c:CT X.ι}{x:CT.T X.toSE c}(h:Kj d c=some x):bk d=[]:=by
 cases d
 case c=>rfl
 case nil=>rfl
 all_goals cases c<;>cases h
theorem RP:∀{ds:U (DV X)}{l:U (CT X.ι)}{h:HL X.toSE l},yH ds l=some h->aR ds=[]
 |[],[],_,_=>rfl
 |d::ds,c::l,h,hr=>by
  simp only[yH]at hr;have⟨x,h1,hr⟩:=ai.1 hr;have⟨g,h2,hr⟩:=ai.1 hr;simp only[aR,aal h1,RP h2,append_nil]
 |[],_::_,_,hr=>by simp[yH]at hr
 |_::_,[],_,hr=>by simp[yH]at hr
theorem anR{d:DV X}{c:CT X.ι}{x:CT.T X.toSE c}(h:dat d c=some x):lz (den d) (den (.c c x:DV X))/\bk d=[]:=by
 cases c
 case st i=>
  replace h:DO d i=some x:=h
  cases d
  case agg cs=>
   simp only[DO]at h;have⟨g,h1,h⟩:=ai.1 h;cases h;refine⟨λ P β w I v hv=>?_,by simp only[bk,RP h1]⟩;have h2:=(yI h1 (X.flat i)).1;simp only[den,VR]at hv;obtain⟨vs,rfl,hv⟩:=hv;show VR P β w I (.agg ((X.row i (X.make i g)).map AV.t)) _;have h3:(X.row i (X.make i g)).map AV.t=(bQ cs).map Gb.wk:=(by rw[h2];exact congrArg _ (X.gC i g));rw[h3];simp only[VR];exact⟨vs,rfl,bj.wk _ _ hv⟩
  case c a y=>
   replace h:jq a (.st i) y=some x:=h
   rw[(oC h).1];exact⟨lz.refl _,rfl⟩
  all_goals cases h
 all_goals
  have h1:=vX h;refine⟨λ P β w I v hv=>?_,aal h⟩;simp only[den];rw[<- h1];exact hv.wk
def gR(m m':MA X):Prop:=(∀ q∈m.nm,q∈m'.nm)/\(∀ c∈m.j7,c∈m'.j7)
theorem gR.refl(m:MA X):gR m m:=⟨λ _ h=>h,λ_ h=>h⟩
theorem gR.trans{a b c:MA X}(h:gR a b)(h':gR b c):gR a c:=⟨λ q hq=>h'.1 q (h.1 q hq),λq hq=>h'.2 q (h.2 q hq)⟩
theorem fC(m:MA X)(k' k:Nat):(addN m k' k).eR=m.eR/\(addN m k' k).j7=m.j7:=by unfold addN;split<;>exact⟨rfl,rfl⟩
theorem nW(m:MA X)(k' k:Nat):(k',k)∈(addN m k' k).nm:=by
 unfold addN;split
 .rename_i h;simpa using h
 .simp
theorem pU(m:MA X)(k' k:Nat):gR m (addN m k' k):=by
 unfold addN;split
 .exact gR.refl m
 .exact⟨λ q hq=>by simp[hq],λ_ h=>h⟩
variable {get:Nat->Option (bm X)}
mutual
theorem aiz:∀(p:Pt X.ι)(d:DV X)(m m':MA X),mP get p d m=some m'->gR m m'/\∃an,m'.eR=m.eR++an/\an.length=p.vars.length
 | .v c,d,m,m',h=>by
  simp only[mP]at h;rw[ai]at h;obtain⟨x,h1,h⟩:=h;cases h;exact⟨⟨λ _ h=>h,λ_ h=>h⟩,[⟨c,x⟩],rfl,rfl⟩
 | .o k,d,m,m',h=>by
  simp only[mP]at h;split at h
  .rename_i k' len;have⟨o,h1,h⟩:=ai.1 h;split at h
   .cases h;refine⟨gR.trans (b:=⟨m.nm,m.eR,m.j7++_⟩) ⟨λ _ h=>h,λ_ h=>by simp[h]⟩ (pU _ _ _),[],by rw[(fC _ _ _).1];simp,rfl⟩
   .cases h
  .cases h
 | .oz k,d,m,m',h=>by
  simp only[mP]at h;split at h
  .have⟨o,h1,h⟩:=ai.1 h;split at h
   .cases h;refine⟨gR.trans (b:=⟨m.nm,m.eR,m.j7++_⟩) ⟨λ _ h=>h,λ_ h=>by simp[h]⟩ (pU _ _ _),[],by rw[(fC _ _ _).1];simp,rfl⟩
   .cases h
  .have⟨o,h1,h⟩:=ai.1 h;split at h
   .cases h;refine⟨gR.trans (b:=⟨m.nm,m.eR,m.j7++_⟩) ⟨λ _ h=>h,λ_ h=>by simp[h]⟩ (pU _ _ _),[],by rw[(fC _ _ _).1];simp,rfl⟩
   .cases h
  .cases h
 | .p k,d,m,m',h=>by
  simp only[mP]at h;split at h
  .cases h;exact⟨pU _ _ _,[],by rw[(fC _ _ _).1];simp,rfl⟩
  .cases h
 | .mp k,d,m,m',h=>by
  simp only[mP]at h;split at h
  .cases h;exact⟨pU _ _ _,[],by rw[(fC _ _ _).1];simp,rfl⟩
  .cases h
 | .nil,d,m,m',h=>by
  simp only[mP]at h;split at h
  .cases h;exact⟨gR.refl _,[],by simp,rfl⟩
  .cases h
 | .f F fs cs,d,m,m',h=>by
  simp only[mP]at h;split at h
  .split at h
   .rw[ai]at h;obtain⟨m1,h1,h⟩:=h;obtain⟨a1,n1,b1,c1⟩:=yO fs _ m m1 h1;obtain⟨a2,n2,b2,c2⟩:=yO cs _ m1 m' h;exact⟨a1.trans a2,n1++n2,by rw[b2,b1,aM],by simp[Pt.vars,c1,c2]⟩
   .cases h
  .cases h
 | .od k,d,m,m',h=>by
  simp only[mP]at h;split at h
  .rename_i k' aa len;have⟨o,h1,h⟩:=ai.1 h;split at h
   .cases h;refine⟨gR.trans (b:=⟨m.nm,m.eR++[⟨.int .i64,(aa:Int)⟩],m.j7++_⟩) ⟨λ _ h=>h,λ_ h=>by simp[h]⟩ (pU _ _ _),[⟨.int .i64,(aa:Int)⟩],by rw[(fC _ _ _).1],rfl⟩
   .cases h
  .cases h
 | .a ps,d,m,m',h=>by
  simp only[mP]at h;split at h
  .exact yO ps _ m m' h
  .cases h
theorem yO:∀(ps:List (Pt X.ι))(ds:List (DV X))(m m':MA X),sY get ps ds m=some m'->gR m m'/\∃an,m'.eR=m.eR++an/\an.length=(cW ps).length
 |[],[],m,m',h=>by
  simp only[sY,aA]at h;subst h;exact⟨gR.refl _,[],by simp,rfl⟩
 |p::ps,d::ds,m,m',h=>by
  simp only[sY]at h;have⟨m1,h1,h⟩:=ai.1 h;have⟨a1,n1,b1,c1⟩:=aiz p d m m1 h1;have⟨a2,n2,b2,c2⟩:=yO ps ds m1 m' h;exact⟨a1.trans a2,n1++n2,by rw[b2,b1,aM],by simp[cW,c1,c2]⟩
 |[],_::_,m,m',h=>by simp[sY]at h
 |_::_,[],m,m',h=>by simp[sY]at h
end
theorem yP:∀(rs:U (List (Pt X.ι)))(qs:U (List (DV X)))(m m':MA X),FL get rs qs m=some m'->gR m m'/\∃an,m'.eR=m.eR++an/\an.length=(vY rs).length
 |[],[],m,m',h=>by
  simp only[FL,aA]at h;subst h;exact⟨gR.refl _,[],by simp,rfl⟩
 |r::rs,q::qs,m,m',h=>by
  simp only[FL]at h;have⟨m1,h1,h⟩:=ai.1 h;have⟨a1,n1,b1,c1⟩:=yO r q m m1 h1;have⟨a2,n2,b2,c2⟩:=yP rs qs m1 m' h;exact⟨a1.trans a2,n1++n2,by rw[b2,b1,aM],by simp[vY,c1,c2]⟩
 |[],_::_,m,m',h=>by simp[FL]at h
 |_::_,[],m,m',h=>by simp[FL]at h
section
variable {NM:List (Nat×Nat)} {f:Nat->Nat} {ea:Nat->Nat}
def DN(NM:U (Nat×Nat))(j:Nat):Prop:=∃k,(j,k)∈NM
def SN(NM:U (Nat×Nat))(j:Nat):Prop:=∃k,(k,j)∈NM
theorem Nf{D:Nat->Prop}{f:Nat->Nat}{P:Program}{β:Nat->J cT}{w:World}{I:Nat->Prop}:∀{a b:U AV}(_:m5 D f a b)(u:U Value),bj P β w I (zH f a) u->bj P β w I b u
 |[],[],_,u,hu=>hu
 |[],_::_,hr,_,_=>hr.elim
 |_::_,[],hr,_,_=>hr.elim
 |y::ys,z::zs,hr,[],hu=>by simp[zH,bj]at hu
 |y::ys,z::zs,hr,v::vs,hu=>by
  simp only[zH,bj]at hu ⊢;exact⟨hr.1.2 _ _ _ _ _ hu.1,Nf hr.2 vs hu.2⟩
mutual
theorem adZ(hf:∀q∈NM,f q.1=q.2)(ho:∀q∈NM,∀c l,get q.1=some (.en c l)->ea q.2=l.length):∀(p:Pt X.ι)(d:DV X)(m m':MA X),mP get p d m=some m'->(∀ q∈m'.nm,q∈NM)->(∀ c∈m'.j7,c=true)->
 ∃an,m'.eR=m.eR++an/\∃d',(∀ ag,eP ea p (an++ag)=(d',ag))/\lz (gh f (den d)) (den d')/\(∀ j∈bk d,DN NM j)/\(∀ j∈bk d',SN NM j)
 | .v c,d,m,m',h,_,_=>by
  simp only[mP]at h;rw[ai]at h;obtain⟨x,h1,h⟩:=h;cases h;have⟨h2,h3⟩:=anR h1;refine⟨[⟨c,x⟩],rfl,.c c x,λag=>rfl,?_,by simp[h3],by simp[bk]⟩;rw[<- Aa,Wu d (by simp[h3])];exact h2
 | .o k,d,m,m',h,hn,hc=>by
  simp only[mP]at h;split at h
  .rename_i k' len;rw[ai]at h;obtain⟨o,h1,h⟩:=h;split at h
   .rename_i c l;cases h;have hq:(k',k)∈NM:=hn _ (nW _ _ _);have he:len=l.length:=by
     have:=hc (aE len l.length) (by rw[(fC _ _ _).2];simp);simpa[aE]using this
    refine⟨[],by rw[(fC _ _ _).1];simp,.own k 0 (ea k),λag=>rfl,?_,?_,?_⟩
    .simp only[den,gh];rw[hf _ hq,ho _ hq c l h1,he];exact lz.refl _
    .intro j hj;simp only[bk,aP]at hj;subst hj;exact⟨k,hq⟩
    .intro j hj;simp only[bk,aP]at hj;subst hj;exact⟨k',hq⟩
   .cases h
  .cases h
 | .oz k,d,m,m',h,hn,hc=>by
  simp only[mP]at h;split at h
  .rename_i k' len;rw[ai]at h;obtain⟨o,h1,h⟩:=h;split at h
   .rename_i c l;cases h;have hq:(k',k)∈NM:=hn _ (nW _ _ _);have he:len≠0/\len=l.length:=by
     have:=hc (!(len==0)&&aE len l.length) (by rw[(fC _ _ _).2];simp);simpa[aE]using this
    refine⟨[],by rw[(fC _ _ _).1];simp,.oz k (ea k),λag=>rfl,?_,λj hj=>?_,λj hj=>?_⟩
    .simp only[den,gh];rw[hf _ hq,ho _ hq c l h1,<- he.2];intro P β w I v hv;simp only[VR]at hv ⊢;exact .inr ⟨he.1,hv.resolve_left λh=>he.1 h.2.2.2⟩
    .simp only[bk,aP]at hj;subst hj;exact⟨k,hq⟩
    .simp only[bk,aP]at hj;subst hj;exact⟨k',hq⟩
   .cases h
  .rename_i k' len;rw[ai]at h;obtain⟨o,h1,h⟩:=h;split at h
   .rename_i c l;cases h;have hq:(k',k)∈NM:=hn _ (nW _ _ _);have he:len=l.length:=by
     have:=hc (aE len l.length) (by rw[(fC _ _ _).2];simp);simpa[aE]using this
    refine⟨[],by rw[(fC _ _ _).1];simp,.oz k (ea k),λag=>rfl,?_,λj hj=>?_,λj hj=>?_⟩
    .simp only[den,gh];rw[hf _ hq,ho _ hq c l h1,he];exact lz.refl _
    .simp only[bk,aP]at hj;subst hj;exact⟨k,hq⟩
    .simp only[bk,aP]at hj;subst hj;exact⟨k',hq⟩
   .cases h
  .cases h
 | .p k,d,m,m',h,hn,hc=>by
  simp only[mP]at h;split at h
  .rename_i k';cases h;have hq:(k',k)∈NM:=hn _ (nW _ _ _);refine⟨[],by rw[(fC _ _ _).1];simp,.ptr k 0 0,λag=>rfl,?_,?_,?_⟩
   .simp only[den,gh];rw[hf _ hq];exact lz.refl _
   .intro j hj;simp only[bk,aP]at hj;subst hj;exact⟨k,hq⟩
   .intro j hj;simp only[bk,aP]at hj;subst hj;exact⟨k',hq⟩
  .cases h
 | .mp k,d,m,m',h,hn,hc=>by
  simp only[mP]at h;split at h
  .rename_i k';cases h;have hq:(k',k)∈NM:=hn _ (nW _ _ _);refine⟨[],by rw[(fC _ _ _).1];simp,.mp k,λag=>rfl,?_,?_,?_⟩
   .simp only[den,gh];rw[hf _ hq];exact lz.refl _
   .intro j hj;simp only[bk,aP]at hj;subst hj;exact⟨k,hq⟩
   .intro j hj;simp only[bk,aP]at hj;subst hj;exact⟨k',hq⟩
  .cases h
 | .nil,d,m,m',h,_,_=>by
  simp only[mP]at h;split at h
  .cases h;exact⟨[],by simp,.nil,λag=>rfl,lz.refl _,by simp[bk],by simp[bk]⟩
  .cases h
 | .f F fs cs,d,m,m',h,hn,hc=>by
  simp only[mP]at h;split at h
  .rename_i F' first caps
   split at h
   .rename_i e;subst e;rw[ai]at h;obtain⟨m1,h1,h⟩:=h;have hm:=(yO cs _ m1 m' h).1;obtain⟨n1,a1,f',b1,c1,e1,g1⟩:=CP hf ho fs _ m m1 h1 (λ q hq=>hn q (hm.1 q hq)) (λ q hq=>hc q (hm.2 q hq));obtain⟨n2,a2,c',b2,c2,e2,g2⟩:=CP hf ho cs _ m1 m' h hn hc;refine⟨n1++n2,by rw[a2,a1,aM],.fn F f' c',λag=>by simp only[eP,aM,b1,b2],?_,?_,?_⟩
    .intro P β w I v hv;simp only[den,gh,VR]at hv ⊢;obtain⟨us,vs,rfl,hu,hv⟩:=hv;exact⟨us,vs,rfl,Nf c1 _ hu,Nf c2 _ hv⟩
    .intro j hj;simp only[bk,aZ]at hj;exact hj.elim (e1 j) (e2 j)
    .intro j hj;simp only[bk,aZ]at hj;exact hj.elim (g1 j) (g2 j)
   .cases h
  .cases h
 | .od k,d,m,m',h,hn,hc=>by
  simp only[mP]at h;split at h
  .rename_i k' aa len;rw[ai]at h;obtain⟨o,h1,h⟩:=h;split at h
   .rename_i c l;cases h;have hq:(k',k)∈NM:=hn _ (nW _ _ _);have he:aa+len=l.length:=by
     have:=hc (aE (aa+len) l.length) (by rw[(fC _ _ _).2];simp);simpa[aE]using this
    refine⟨[⟨.int .i64,(aa:Int)⟩],by rw[(fC _ _ _).1],.own k aa (ea k -aa),λag=>?_,?_,?_,?_⟩
    .simp only[eP,cons_append,bT];have:ZY (X:=X) ⟨.int .i64,(aa:Int)⟩=aa:=by
      simp only[ZY];rw[VO];simp
     rw[this]
    .simp only[den,gh];rw[hf _ hq,ho _ hq c l h1,show l.length -aa=len by omega];exact lz.refl _
    .intro j hj;simp only[bk,aP]at hj;subst hj;exact⟨k,hq⟩
    .intro j hj;simp only[bk,aP]at hj;subst hj;exact⟨k',hq⟩
   .cases h
  .cases h
 | .a ps,d,m,m',h,hn,hc=>by
  simp only[mP]at h;split at h
  .rename_i ds;have⟨an,h1,ds',h2,h3,h4,h5⟩:=CP hf ho ps ds m m' h hn hc;refine⟨an,h1,.agg ds',λag=>by simp only[eP,h2],?_,by simpa[bk]using h4,by simpa[bk]using h5⟩;intro P β w I v hv;simp only[den,gh,VR]at hv ⊢;obtain⟨vs,rfl,hv⟩:=hv;refine⟨vs,rfl,?_⟩;exact Nf h3 _ hv
  .cases h
theorem CP(hf:∀q∈NM,f q.1=q.2)(ho:∀q∈NM,∀c l,get q.1=some (.en c l)->ea q.2=l.length):∀(ps:List (Pt X.ι))(ds:List (DV X))(m m':MA X),sY get ps ds m=some m'->(∀ q∈m'.nm,q∈NM)->(∀ c∈m'.j7,c=true)->
 ∃an,m'.eR=m.eR++an/\∃ds',(∀ ag,ly ea ps (an++ag)=(ds',ag))/\m5 (DN NM) f (bQ ds) (bQ ds')/\(∀ j∈aR ds,DN NM j)/\(∀ j∈aR ds',SN NM j)
 |[],[],m,m',h,_,_=>by
  simp only[sY,aA]at h;subst h;exact⟨[],by simp,[],λag=>rfl,trivial,by simp[aR],by simp[aR]⟩
 |p::ps,d::ds,m,m',h,hn,hc=>by
  simp only[sY]at h;have⟨m1,h1,h⟩:=ai.1 h;have hm:=(yO ps ds m1 m' h).1;obtain⟨n1,a1,d',b1,c1,e1,g1⟩:=adZ hf ho p d m m1 h1 (λ q hq=>hn q (hm.1 q hq)) (λ q hq=>hc q (hm.2 q hq));have⟨n2,a2,ds',b2,c2,e2,g2⟩:=CP hf ho ps ds m1 m' h hn hc;refine⟨n1++n2,by rw[a2,a1,aM],d'::ds',λag=>?_,⟨⟨λ k hk=>e1 k (by rwa [iK]at hk),c1⟩,c2⟩,?_,?_⟩
  .simp only[ly,aM,b1,b2]
  .intro j hj;simp only[aR,aZ]at hj;exact hj.elim (e1 j) (e2 j)
  .intro j hj;simp only[aR,aZ]at hj;exact hj.elim (g1 j) (g2 j)
 |[],_::_,m,m',h,_,_=>by simp[sY]at h
 |_::_,[],m,m',h,_,_=>by simp[sY]at h
end
theorem RQ(hf:∀q∈NM,f q.1=q.2)(ho:∀q∈NM,∀c l,get q.1=some (.en c l)->ea q.2=l.length):∀(rs:U (List (Pt X.ι)))(qs:U (List (DV X)))(m m':MA X),FL get rs qs m=some m'->(∀ q∈m'.nm,q∈NM)->(∀ c∈m'.j7,c=true)->
 ∃an,m'.eR=m.eR++an/\∃E3,(∀ ag,wh ea rs (an++ag)=(E3,ag))/\i9 (DN NM) f (qs.map bQ) (E3.map bQ)/\(∀ j∈(qs.map aR).flatten,DN NM j)/\(∀ j∈(E3.map aR).flatten,SN NM j)
 |[],[],m,m',h,_,_=>by
  simp only[FL,aA]at h;subst h;exact⟨[],by simp,[],λag=>rfl,trivial,by simp,by simp⟩
 |r::rs,q::qs,m,m',h,hn,hc=>by
  simp only[FL]at h;have⟨m1,h1,h⟩:=ai.1 h;have hm:=(yP rs qs m1 m' h).1;obtain⟨n1,a1,d',b1,c1,e1,g1⟩:=CP hf ho r q m m1 h1 (λ q hq=>hn q (hm.1 q hq)) (λ q hq=>hc q (hm.2 q hq));have⟨n2,a2,ds',b2,c2,e2,g2⟩:=RQ hf ho rs qs m1 m' h hn hc;refine⟨n1++n2,by rw[a2,a1,aM],d'::ds',λag=>?_,⟨c1,c2⟩,?_,?_⟩
  .simp only[wh,aM,b1,b2]
  .intro j hj;simp only[aF,flatten_cons,aZ]at hj;exact hj.elim (e1 j) (e2 j)
  .intro j hj;simp only[aF,flatten_cons,aZ]at hj;exact hj.elim (g1 j) (g2 j)
 |[],_::_,m,m',h,_,_=>by simp[FL]at h
 |_::_,[],m,m',h,_,_=>by simp[FL]at h
end
end
section
variable {X:SX} {get:Nat->Option (bm X)} {env:Nat->DV X}
theorem Ic:∀(sl:U (Nat×Pt X.ι))(m m':MA X),H8 get env sl m=some m'->gR m m'/\∃an,m'.eR=m.eR++an/\an.length=(ir sl).length
 |[],m,m',h=>by
  simp only[H8,aA]at h;subst h;exact⟨gR.refl _,[],by simp,rfl⟩
 |(t,p)::r,m,m',h=>by
  simp only[H8]at h;rw[ai]at h;obtain⟨m1,h1,h⟩:=h;obtain⟨a1,n1,b1,c1⟩:=aiz p _ m m1 h1;have⟨a2,n2,b2,c2⟩:=Ic r m1 m' h;exact⟨a1.trans a2,n1++n2,by rw[b2,b1,aM],by simp[ir,c1,c2]⟩
theorem l8:∀(os:U (Nat×OP X.ι))(m m':MA X),CB get os m=some m'->gR m m'/\∃an,m'.eR=m.eR++an/\an.length=(cQ os).length
 |[],m,m',h=>by
  simp only[CB,aA]at h;subst h;exact⟨gR.refl _,[],by simp,rfl⟩
 |(k,op)::r,m,m',h=>by
  simp only[CB]at h;rw[ai]at h;obtain⟨o,h1,h⟩:=h;split at h
  .rename_i c c' l;rw[ai]at h;obtain⟨l',h2,h⟩:=h;obtain⟨a2,n2,b2,c2⟩:=l8 r _ m' h;refine⟨gR.trans (gR.trans (b:=⟨m.nm,m.eR++[⟨.sl c,l'⟩],m.j7⟩) ⟨λ _ h=>h,λ_ h=>h⟩ (pU _ _ _)) a2,[⟨.sl c,l'⟩]++n2,?_,by simp[cQ,c2]⟩;rw[b2,(fC _ _ _).1,aM]
  .rename_i kc vc tS tI l;rw[ai]at h;obtain⟨l',h2,h⟩:=h;obtain⟨a2,n2,b2,c2⟩:=l8 r _ m' h;refine⟨gR.trans (gR.trans (b:=⟨m.nm,m.eR++[⟨.mp kc vc,l'⟩],m.j7⟩) ⟨λ _ h=>h,λ_ h=>h⟩ (pU _ _ _)) a2,[⟨.mp kc vc,l'⟩]++n2,?_,by simp[cQ,c2]⟩;rw[b2,(fC _ _ _).1,aM]
  .rename_i sz rows sz' rows';split at h
   .rw[ai]at h;obtain⟨m1,h2,h⟩:=h;obtain⟨a1,n1,b1,c1⟩:=yP rows _ _ m1 h2;have⟨a2,n2,b2,c2⟩:=l8 r m1 m' h;refine⟨((pU m _ _).trans a1).trans a2,n1++n2,?_,by simp[cQ,c1,c2]⟩;rw[b2,b1,(fC _ _ _).1,aM]
   .cases h
  .cases h
variable {NM:List (Nat×Nat)} {f:Nat->Nat} {ea:Nat->Nat}
theorem El:∀(os:U (Nat×OP X.ι))(m m':MA X),CB get os m=some m'->(∀ q∈m'.nm,q∈NM)->∃an,m'.eR=m.eR++an/\∀ag,∀k∈os.map (·.1),∃k' o,(k',k)∈NM/\get k'=some o/\∀c l,o= .en c l->(k,List.length l)∈lens os (an++ag)
 |[],m,m',h,_=>by
  simp only[CB,aA]at h;subst h;exact⟨[],by simp,λag k hk=>by simp at hk⟩
 |(k,op)::r,m,m',h,hn=>by
  simp only[CB]at h;rw[ai]at h;obtain⟨o,h1,h⟩:=h;split at h
  .rename_i c c' l;rw[ai]at h;obtain⟨l',h2,h⟩:=h;have hm:=(l8 r _ m' h).1;obtain⟨n2,b2,c2⟩:=El r _ m' h hn;refine⟨[⟨.sl c,l'⟩]++n2,by rw[b2,(fC _ _ _).1,aM],λag j hj=>?_⟩;simp only[aF,aO]at hj;simp only[cons_append,bT,lens];by_cases hjk:j=k
   .subst hjk;refine⟨_,_,hn _ (hm.1 _ (nW _ _ _)),h1,λc2 l2 he=>?_⟩;injection he with e1 e2;subst e1;have e2:=eq_of_heq e2;subst e2;have:=congrArg List.length (jb h2).2;simp only[length_map]at this;rw[this];exact List.mem_cons_self
   .rcases hj with rfl |hj
    .exact(hjk rfl).elim
    .have⟨k',o',g1,g2,g3⟩:=c2 ag j hj;exact⟨k',o',g1,g2,λc l he=>eH _ (g3 c l he)⟩
  .rename_i kc vc tS tI l;rw[ai]at h;obtain⟨l',h2,h⟩:=h;have hm:=(l8 r _ m' h).1;obtain⟨n2,b2,c2⟩:=El r _ m' h hn;refine⟨[⟨.mp kc vc,l'⟩]++n2,by rw[b2,(fC _ _ _).1,aM],λag j hj=>?_⟩;simp only[aF,aO]at hj;simp only[cons_append,bT,lens,List.drop_succ_cons,List.drop_zero];by_cases hjk:j=k
   .subst hjk;exact⟨_,_,hn _ (hm.1 _ (nW _ _ _)),h1,λc2 l2 he=>by cases he⟩
   .rcases hj with rfl |hj
    .exact(hjk rfl).elim
    .exact c2 ag j hj
  .rename_i sz rows sz' rows';split at h
   .have⟨m1,h2,h⟩:=ai.1 h;obtain⟨a1,n1,b1,c1⟩:=yP rows _ _ m1 h2;have hm:=(l8 r _ m' h).1;obtain⟨n2,b2,c2⟩:=El r _ m' h hn;refine⟨n1++n2,by rw[b2,b1,(fC _ _ _).1,aM],λag j hj=>?_⟩;simp only[aF,aO]at hj;have hd:(n1++n2++ag).drop (vY rows).length=n2++ag:=(by rw[<- c1,aM,List.drop_left]);simp only[lens,hd];by_cases hjk:j=k
    .subst hjk;exact⟨_,_,hn _ (hm.1 _ (a1.1 _ (nW _ _ _))),h1,λc2 l2 he=>by cases he⟩
    .rcases hj with rfl |hj
     .exact(hjk rfl).elim
     .exact c2 ag j hj
   .cases h
  .cases h
theorem JN:∀(os:U (Nat×OP X.ι))(L:U (DC X)),((lens os L).map (·.1)).Sublist (os.map (·.1))
 |[],_=>by simp[lens]
 |(k,.l c)::r,L=>by
  simp only[lens];split
  .exact(JN r _).cons_cons _
  .exact List.nil_sublist _
 |(k,.m kc vc)::r,L=>by
  simp only[lens];exact(JN r _).cons _
 |(k,.c sz rows)::r,L=>by
  simp only[lens];exact(JN r _).cons _
theorem Ng(hf:∀q∈NM,f q.1=q.2)(ho:∀q∈NM,∀c l,get q.1=some (.en c l)->ea q.2=l.length):∀(sl:U (Nat×Pt X.ι))(m m':MA X),H8 get env sl m=some m'->(∀ q∈m'.nm,q∈NM)->(∀ c∈m'.j7,c=true)->
 ∃an,m'.eR=m.eR++an/\∃es,(∀ ag,Lp ea sl (an++ag)=es)/\(∀ p∈es,p.1∈sl.map (·.1)/\lz (gh f (den (env p.1))) (den p.2)/\(∀ j∈bk (env p.1),DN NM j)/\(∀ j∈bk p.2,SN NM j))
 |[],m,m',h,_,_=>by
  simp only[H8,aA]at h;subst h;exact⟨[],by simp,[],λag=>rfl,by simp⟩
 |(t,p)::r,m,m',h,hn,hc=>by
  simp only[H8]at h;have⟨m1,h1,h⟩:=ai.1 h;have hm:=(Ic r m1 m' h).1;obtain⟨n1,a1,d',b1,c1,e1,g1⟩:=adZ hf ho p _ m m1 h1 (λ q hq=>hn q (hm.1 q hq)) (λ q hq=>hc q (hm.2 q hq));have⟨n2,a2,es,b2,c2⟩:=Ng hf ho r m1 m' h hn hc;refine⟨n1++n2,by rw[a2,a1,aM],(t,d')::es,λag=>by simp only[Lp,aM,b1,b2],λq hq=>?_⟩;rcases aO.1 hq with rfl |hq
  .exact⟨by simp,c1,e1,g1⟩
  .have⟨i1,i2⟩:=c2 q hq;exact⟨by simp only[aF,aO];exact .inr i1,i2⟩
theorem aam{D:Nat->Prop}(f:Nat->Nat):∀rows:U (List Tree),i9 D f (aI rows) (aI rows)
 |[]=>trivial
 |r::rs=>by
  refine⟨?_,aam f rs⟩
  induction r with
  |nil=>trivial
  |cons y ys ih=>exact⟨⟨by simp[refs],lz.refl _⟩,ih⟩
theorem aan{a b c d:CT X.ι}{l:U (CT.T X.toSE a×CT.T X.toSE b)}{l':U (CT.T X.toSE c×CT.T X.toSE d)}(h:jq (.mp a b) (.mp c d) l=some l'):bG (.map c d l':bm X)=bG (.map a b l):=by
 have⟨e,h⟩:=rF h;injection e with e1 e2;subst e1;subst e2;subst h;rfl
theorem aao{D:Nat->Prop}(f:Nat->Nat){kc vc:CT X.ι}:∀l:U (CT.T X.toSE kc×CT.T X.toSE vc),i9 D f (bG (.map kc vc l:bm X)).rows (bG (.map kc vc l:bm X)).rows
 |[]=>trivial
 |p::ps=>⟨⟨⟨by simp[zZ],by rw[V8];exact lz.refl _⟩,⟨by simp[zZ],by rw[V8];exact lz.refl _⟩,trivial⟩,aao f ps⟩
theorem Ad(hf:∀q∈NM,f q.1=q.2)(ho:∀q∈NM,∀c l,get q.1=some (.en c l)->ea q.2=l.length):∀(os:U (Nat×OP X.ι))(m m':MA X),CB get os m=some m'->(∀ q∈m'.nm,q∈NM)->(∀ c∈m'.j7,c=true)->
 ∃an,m'.eR=m.eR++an/\∃xs,(∀ ag,dD ea os (an++ag)=xs)/\(∀ p∈xs,p.1∈os.map (·.1)/\∃k' o o',p.2=some o'/\(k',p.1)∈NM/\get k'=some o/\(bG o').sz=(bG o).sz/\i9 (DN NM) f (bG o).rows (bG o').rows/\(∀ j∈eh o',SN NM j))
 |[],m,m',h,_,_=>by
  simp only[CB,aA]at h;subst h;exact⟨[],by simp,[],λag=>rfl,by simp⟩
 |(k,op)::r,m,m',h,hn,hc=>by
  simp only[CB]at h;rw[ai]at h;obtain⟨o,h1,h⟩:=h;split at h
  .rename_i c c' l;rw[ai]at h;obtain⟨l',h2,h⟩:=h;have hm:=(l8 r _ m' h).1;obtain⟨n2,a2,xs,b2,c2⟩:=Ad hf ho r _ m' h hn hc;refine⟨[⟨.sl c,l'⟩]++n2,by rw[a2,(fC _ _ _).1,aM],(k,some (.en c l'))::xs,λag=>by simp only[cons_append,bT,dD,b2],λq hq=>?_⟩;rcases aO.1 hq with rfl |hq
   .refine⟨by simp,_,_,_,rfl,hn _ (hm.1 _ (nW _ _ _)),h1,?_,?_,by simp[eh]⟩
    .simp only[bG,(jb h2).1]
    .simp only[bG,(jb h2).2];exact aam f _
   .have⟨i1,i2⟩:=c2 q hq;exact⟨by simp only[aF,aO];exact .inr i1,i2⟩
  .rename_i kc vc tS tI l;rw[ai]at h;obtain⟨l',h2,h⟩:=h;have hm:=(l8 r _ m' h).1;obtain⟨n2,a2,xs,b2,c2⟩:=Ad hf ho r _ m' h hn hc;refine⟨[⟨.mp kc vc,l'⟩]++n2,by rw[a2,(fC _ _ _).1,aM],(k,some (.map kc vc l'))::xs,λag=>by simp only[cons_append,bT,dD,b2],λq hq=>?_⟩;rcases aO.1 hq with rfl |hq
   .refine⟨by simp,_,_,_,rfl,hn _ (hm.1 _ (nW _ _ _)),h1,?_,?_,by simp[eh]⟩
    .rw[aan h2]
    .rw[aan h2];exact aao f _
   .have⟨i1,i2⟩:=c2 q hq;exact⟨by simp only[aF,aO];exact .inr i1,i2⟩
  .rename_i sz rows sz' rows';split at h
   .rename_i hsz;have⟨m1,h2,h⟩:=ai.1 h;have hm1:=(yP rows _ _ m1 h2).1;have hm:=(l8 r _ m' h).1;obtain⟨n1,a1,qs,b1,c1,e1,g1⟩:=RQ hf ho rows _ _ m1 h2 (λ q hq=>hn q (hm.1 q hq)) (λ q hq=>hc q (hm.2 q hq));obtain⟨n2,a2,xs,b2,c2⟩:=Ad hf ho r _ m' h hn hc;refine⟨n1++n2,by rw[a2,a1,(fC _ _ _).1,aM],(k,some (.cells sz qs))::xs,λag=>by simp only[aM,dD,b1,b2],λq hq=>?_⟩;rcases aO.1 hq with rfl |hq
    .exact⟨by simp,_,_,_,rfl,hn _ (hm.1 _ (hm1.1 _ (nW _ _ _))),h1,hsz,c1,g1⟩
    .have⟨i1,i2⟩:=c2 q hq;exact⟨by simp only[aF,aO];exact .inr i1,i2⟩
   .cases h
  .cases h
theorem ajJ{d:DV X}(h:isU d=false)(h':d= .undef):False:=by subst h';cases h
theorem abJ{A:Type}{sh:Sh X.ι}{ds:U Nat}{s0 s':dE X}{k:VT (X:=X) sh.vars->J A}{r:A}(hl0:Low s0)(hx:Ext (· ∈ds) s0 s')(h:PQ sh ds s0 s' k=some r):
 ∃v,k v=some r/\Low (encS sh s0 v)/\Ext (· ∈ds) s0 (encS sh s0 v)/\∀(P:Program) (w0:World) (O0:ky) (N:Nat) (β:Nat->J cT) (I:Nat->Prop) (a:Act) (w:World),Rel P w0 O0 N β I s'.st a w->∃ β',Rel P w0 O0 N β' I (encS sh s0 v).st a w:=by
 unfold PQ at h;have⟨m1,h1,h⟩:=ai.1 h;have⟨m,h2,h⟩:=ai.1 h;have⟨h3,h⟩:=d9 h;have⟨v,h4,h⟩:=ai.1 h;have⟨h5,h6⟩:=pR h;simp only[okS,aL,aV]at h3;obtain⟨⟨⟨⟨⟨⟨⟨⟨n1,n2⟩,n3⟩,n4⟩,n5⟩,n6⟩,n7⟩,n8⟩,n9⟩:=h3;have hm2:=(l8 _ _ _ h2).1;have vu:=VN h4;obtain⟨_,nA,dA,lA⟩:=Ic _ _ _ h1;simp only[bT]at dA;have SM:(m.nm.map (·.1)).Nodup:=(List.nodup_append.1 n1).1;have SJ:(m.nm.map (·.2)).Nodup:=(List.nodup_append.1 n2).1;have hsw:((m.nm.map λq=>(q.2,q.1)).map (·.1)).Nodup:=by rw[map_map];exact SJ
 generalize hf':(λ j=>match lk m.nm j with |some q=>q |none=>j:Nat->Nat)=f;generalize hg':(λ j=>match lk (m.nm.map λq=>(q.2,q.1)) j with |some q=>q |none=>j:Nat->Nat)=g;have hf:∀q∈m.nm,f q.1=q.2:=by
  rintro⟨p,q⟩ hq;rw[<- hf'];simp only[uU SM hq]
 have hg:∀q∈m.nm,g q.2=q.1:=by
  rintro⟨p,q⟩ hq;rw[<- hg'];have:(q,p)∈m.nm.map λq=>(q.2,q.1):=mem_map.2 ⟨(p,q),hq,rfl⟩;simp only[uU hsw this]
 have nf:∀j∈sh.du,f j=j:=by
  intro j hj;rw[<- hf'];cases hh:lk m.nm j with
  |none=>simp[hh]
  |some q=>exact((List.nodup_append.1 n1).2.2 j (mem_map.2 ⟨(j,q),rE hh,rfl⟩) j hj rfl).elim
 have HS:∀j∈sh.du,g j=j:=by
  intro j hj;rw[<- hg'];cases hh:lk (m.nm.map λq=>(q.2,q.1)) j with
  |none=>simp[hh]
  |some q=>
   have h1:=rE hh;simp only[mem_map]at h1;obtain⟨z,hz,e⟩:=h1;injection e with e1 e2;exact((List.nodup_append.1 n2).2.2 j (mem_map.2 ⟨z,hz,e1⟩) j hj rfl).elim
 have hg0:∀j,j<1000->g j=j:=by
  intro j hj;rw[<- hg'];cases hh:lk (m.nm.map λq=>(q.2,q.1)) j with
  |none=>simp[hh]
  |some q=>
   have h1:=rE hh;simp only[mem_map]at h1;obtain⟨z,hz,e⟩:=h1;injection e with e1 e2;have:=all_eq_true.1 n4 z hz;simp only[aL,Bool.or_eq_true,aV]at this;simp only[hh];omega
 have hgf:∀j,(DN m.nm j\/j∈sh.du)->g (f j)=j:=by
  rintro j (⟨q,hq⟩ |hj)
  .rw[hf _ hq];exact hg _ hq
  .rw[nf j hj];exact HS j hj
 obtain⟨nB,dB,lB⟩:=El (NM:=m.nm) _ _ _ h2 (λ q hq=>hq);have hL:m.eR=nA++nB:=by rw[dB,dA]
 have hdrop:(vZ sh.vars v).drop (ir sh.slots).length=nB:=by rw[vu,hL,<- lA,List.drop_left]
 have htake:(vZ sh.vars v).take (ir sh.slots).length=nA:=by rw[vu,hL,<- lA,List.take_left]
 generalize hol:(λ k=>(lk (lens sh.cP nB) k).getD 0:Nat->Nat)=ea;have ho:∀q∈m.nm,∀c l,ie s'.obj q.1=some (.en c l)->ea q.2=l.length:=by
  rintro⟨p,q⟩ hq c l hl;have hqk:=all_eq_true.1 n4 _ hq;simp only[aL]at hqk;obtain⟨p',o,g1,g2,g3⟩:=lB [] q (by simpa using hqk.1.1);have:p'=p:=by
   have e1:=hg _ g1;have e2:=hg _ hq;simp only at e1 e2;rw[<- e1,e2]
  subst this;simp only at hl;rw[hl]at g2;injection g2 with g2;have h3:=g3 c l g2.symm;rw[append_nil]at h3;rw[<- hol];have hk:=(JN sh.cP nB).nodup n3;simp only[uU hk h3,Option.getD_some]
 obtain⟨Rg,IR,es,eA,pA⟩:=Ng (NM:=m.nm) (f:=f) (ea:=ea) hf ho _ _ _ h1 (λ q hq=>hm2.1 q hq) (λ c hc=>h5 c (hm2.2 c hc));obtain⟨Re,Vc,xs,eB,pB⟩:=Ad (NM:=m.nm) (f:=f) (ea:=ea) hf ho _ _ _ h2 (λ q hq=>hq) h5;have US:Rg=nA:=by simp only[bT]at IR;rw[<- IR,dA]
 have UP:Re=nB:=List.append_cancel_left (Vc.symm.trans dB);subst US UP;have IN:=eA [];have IM:=eB [];rw[append_nil]at IN IM;have hS:encS sh s0 v=⟨es++sh.keep.map (λ t=>(t,fi s0.env t)),xs++sh.du.map (λ k=>(k,ie s0.obj k)),sh.nx,(List.range s0.nx).filter (λ k=>!sh.du.contains k)++s0.log⟩:=by simp only[encS,hdrop,htake,hol,IN,IM]
 have hsn:∀j,SN m.nm j->j<sh.nx:=by
  rintro j ⟨p,hp⟩;have:=all_eq_true.1 n4 _ hp;simp only[aL,aV]at this;exact this.1.2
 have kp:∀j,(sh.du.contains j || m.nm.contains (j,j))=true->j∈sh.du\/(j,j)∈m.nm:=by
  intro j hj;simpa using hj
 have hfp:∀j,j∈sh.du\/(j,j)∈m.nm->f j=j:=λj hj=>hj.elim (nf j) (λ h=>hf (j,j) h);have hdp:∀j,j∈sh.du\/(j,j)∈m.nm->DN m.nm j\/j∈sh.du:=λj hj=>hj.elim .inr (λ h=> .inl ⟨j,h⟩);have hko:∀j∈sh.du,j<s0.nx/\(∃ o,ie s0.obj j=some o/\ie s'.obj j=some o/\∀i∈eh o,i∈sh.du\/(i,i)∈m.nm):=by
  intro j hj;have:=all_eq_true.1 n7 _ hj;simp only[aL,aV,Bool.not_eq_true']at this;obtain⟨⟨⟨a1,a2⟩,a3⟩,a4⟩:=this;refine⟨a1,?_⟩;cases ho0:ie s0.obj j with
  |none=>rw[ho0]at a4;cases a4
  |some o=>
   rw[ho0]at a4;refine⟨o,rfl,?_,λi hi=>kp i (all_eq_true.1 a4 i hi)⟩;obtain⟨d,hd,hd2⟩:=hx.obj;have hnd:j∉d:=by
    have e:s'.log.take (s'.log.length -s0.log.length)=d:=(by rw[hd,dM,Nat.add_sub_cancel,List.take_left]);rw[e]at a2;simpa using a2
   rcases hd2 j a1 hnd with h |h
   .rw[h,ho0]
   .rw[h]at a3;cases a3
 have hke:∀t∈sh.keep,t∉ds/\fi s'.env t=fi s0.env t/\∀j∈bk (fi s0.env t),j∈sh.du\/(j,j)∈m.nm:=by
  intro t ht;have:=all_eq_true.1 n6 _ ht;simp only[aL,Bool.not_eq_true']at this;obtain⟨⟨a1,a2⟩,a3⟩:=this;have a1':t∉ds:=by simpa using a1
  refine⟨a1',?_,λj hj=>kp j (all_eq_true.1 a3 j hj)⟩;rcases hx.env t a1' with h |h
  .exact h
  .exact(ajJ a2 h).elim
 have hks:∀q∈es,q.1∈ds:=by
  intro q hq;have h1:=(pA q hq).1;obtain⟨z,hz,e⟩:=mem_map.1 h1;have:=all_eq_true.1 n5 _ hz;rw[<- e];simpa using this
 have hkeep:∀t,lk (sh.keep.map λt=>(t,fi s0.env t)) t=if t∈sh.keep then some (fi s0.env t)else none:=by
  intro t
  induction sh.keep with
  |nil=>simp[lk]
  |cons q qs ih=>
   simp only[aF,lk,ih,aO];by_cases e:q=t
   .subst e;simp
   .rw[aS e];simp[Ne.symm e]
 have BW:∀t,lk (sh.du.map λt=>(t,ie s0.obj t)) t=if t∈sh.du then some (ie s0.obj t)else none:=by
  intro t
  induction sh.du with
  |nil=>simp[lk]
  |cons q qs ih=>
   simp only[aF,lk,ih,aO];by_cases e:q=t
   .subst e;simp
   .rw[aS e];simp[Ne.symm e]
 have ra:∀t,(∃ d,(t,d)∈es/\fi (encS sh s0 v).env t=d)\/(t∈sh.keep/\fi (encS sh s0 v).env t=fi s0.env t)\/fi (encS sh s0 v).env t= .undef:=by
  intro t;have e1:fi (encS sh s0 v).env t=(match lk es t with |some d=>some d |none=>if t∈sh.keep then some (fi s0.env t)else none).getD .undef:=by
   rw[hS];show(lk (es++sh.keep.map (λ t=>(t,fi s0.env t))) t).getD .undef=_;rw[CO,hkeep t];cases lk es t<;>rfl
  rw[e1];cases he:lk es t with
  |some d=>exact .inl ⟨d,rE he,rfl⟩
  |none=>
   by_cases ht:t∈sh.keep
   .simp only[aX ht];exact .inr (.inl ⟨ht,rfl⟩)
   .simp only[aS ht];exact .inr (.inr rfl)
 have hZ:∀j o,ie (encS sh s0 v).obj j=some o->(∃ k' o1,(k',j)∈m.nm/\ie s'.obj k'=some o1/\(bG o).sz=(bG o1).sz/\i9 (DN m.nm) f (bG o1).rows (bG o).rows/\(∀ i∈eh o,SN m.nm i))\/(j∈sh.du/\ie s0.obj j=some o):=by
  intro j o hjo;have e1:ie (encS sh s0 v).obj j=(match lk xs j with |some d=>some d |none=>if j∈sh.du then some (ie s0.obj j)else none).join:=by
   rw[hS];show(lk (xs++sh.du.map (λ k=>(k,ie s0.obj k))) j).join=_;rw[CO,BW j];cases lk xs j<;>rfl
  rw[e1]at hjo;cases he:lk xs j with
  |some x=>
   rw[he]at hjo;obtain⟨_,k',o1,o',b1,b2,b3,b4,b5,b6⟩:=pB _ (rE he);simp only at b1 b2 hjo;subst b1;simp only[Option.join_some,aA]at hjo;subst hjo;exact .inl ⟨k',o1,b2,b3,b4,b5,b6⟩
  |none=>
   rw[he]at hjo;by_cases hj:j∈sh.du
   .simp only[aX hj,Option.join_some]at hjo;exact .inr ⟨hj,hjo⟩
   .simp[aS hj]at hjo
 have hnx:s0.nx<=sh.nx:=n8;have hkx:∀j,j∈sh.du\/(j,j)∈m.nm->j<sh.nx:=λj hj=>hj.elim (λ hj=>Nat.lt_of_lt_of_le (hko j hj).1 hnx) (λ h=>hsn j ⟨j,h⟩);have hRW:∀{r q:U AV},m5 (DN m.nm) f r q->m5 (λ j=>DN m.nm j\/j∈sh.du) f r q:=by
  intro r
  induction r with
  |nil=>intro q h;cases q with
   |nil=>trivial
   |cons=>exact h.elim
  |cons x xs ih=>intro q h;cases q with
   |nil=>exact h.elim
   |cons y ys=>exact⟨⟨λ k hk=> .inl (h.1.1 k hk),h.1.2⟩,ih h.2⟩
 have Th:∀{r q:U (List AV)},i9 (DN m.nm) f r q->i9 (λ j=>DN m.nm j\/j∈sh.du) f r q:=by
  intro r
  induction r with
  |nil=>intro q h;cases q with
   |nil=>trivial
   |cons=>exact h.elim
  |cons x xs ih=>intro q h;cases q with
   |nil=>exact h.elim
   |cons y ys=>exact⟨hRW h.1,ih h.2⟩
 refine⟨v,h6,?_,?_,?_⟩
 .constructor
  .rw[hS];exact n9
  .rw[hS];exact Nat.le_trans hl0.ge n8
  .intro t j hj;have Bi:(encS sh s0 v).nx=sh.nx:=(by rw[hS]);rw[Bi];rcases ra t with ⟨d,h1,h2⟩ |⟨h1,h2⟩ |h2
   .rw[h2]at hj;exact hsn j ((pA _ h1).2.2.2 j hj)
   .rw[h2]at hj;exact hkx j ((hke t h1).2.2 j hj)
   .rw[h2]at hj;simp[bk]at hj
  .intro j o hjo;have Bi:(encS sh s0 v).nx=sh.nx:=(by rw[hS]);rw[Bi];rcases hZ j o hjo with ⟨k',o1,b1,b2,b3,b4,b5⟩ |⟨b1,b2⟩
   .exact⟨hsn j ⟨k',b1⟩,λi hi=>hsn i (b5 i hi)⟩
   .have⟨c1,o',c2,c3,c4⟩:=hko j b1;rw[b2]at c2;cases c2;exact⟨hkx j (.inl b1),λi hi=>hkx i (c4 i hi)⟩
 .refine⟨λ t ht=>?_,⟨(List.range s0.nx).filter (λ k=>!sh.du.contains k),by rw[hS],λj hj hn=>?_⟩,by rw[hS];exact hnx⟩
  .rcases ra t with ⟨d,h1,h2⟩ |⟨h1,h2⟩ |h2
   .exact(ht (hks _ h1)).elim
   .exact .inl h2
   .exact .inr h2
  .have hjk:j∈sh.du:=(by simpa[hj]using hn);cases hjo:ie (encS sh s0 v).obj j with
   |none=>exact .inr rfl
   |some o=>
    rcases hZ j o hjo with ⟨k',o1,b1,_⟩ |⟨b1,b2⟩
    .exact((List.nodup_append.1 n2).2.2 j (mem_map.2 ⟨(k',j),b1,rfl⟩) j hjk rfl).elim
    .exact .inl b2.symm
 .intro P w0 O0 N β I a w hr;refine⟨_,Rel.re (f:=f) (g:=g) (D:=λj=>DN m.nm j\/j∈sh.du) hgf hg0 hr (λ _=> .inl rfl) (λ _=>rfl) (λ t=>?_) (λ j o' hj=>?_)⟩
  .show den (fi (encS sh s0 v).env t)= .undef\/((∀ k∈refs (den (fi s'.env t)),_)/\lz (gh f (den (fi s'.env t))) (den (fi (encS sh s0 v).env t)));rcases ra t with ⟨d,h1,h2⟩ |⟨h1,h2⟩ |h2
   .right;rw[h2];obtain⟨_,b1,b2,_⟩:=pA _ h1;exact⟨λ k hk=> .inl (b2 k (by rwa [iK]at hk)),b1⟩
   .right;have⟨_,b1,b2⟩:=hke t h1;rw[h2,b1];refine⟨λ k hk=>hdp k (b2 k (by rwa [iK]at hk)),?_⟩;rw[<- Aa,Wu _ (λ k hk=>hfp k (b2 k hk))];exact lz.refl _
   .left;rw[h2];rfl
  .simp only[dE.st,dN]at hj;obtain⟨o,hjo,rfl⟩:=hj;rcases hZ j o hjo with ⟨k',o1,b1,b2,b3,b4,b5⟩ |⟨b1,b2⟩
   .exact⟨k',bG o1,by simp[dE.st,b2],.inl ⟨j,b1⟩,hf _ b1,b3,Th b4⟩
   .have⟨c1,o',c2,c3,c4⟩:=hko j b1;rw[b2]at c2;cases c2;have hid:oY f o=o:=by
     cases o with
     |en c l=>rfl
     |map kc vc l=>rfl
     |cells sz rows=>
      simp only[oY];congr 1;have:∀q∈rows,Kk f q=q:=λq hq=>Ac q λi hi=>hfp i (c4 i (by
       simp only[eh,List.mem_flatten,mem_map];exact⟨_,⟨q,hq,rfl⟩,hi⟩))
      rw[map_congr_left this];simp
    obtain⟨r1,r2⟩:=JM (D:=λj=>DN m.nm j\/j∈sh.du) f o (λ i hi=>hdp i (c4 i hi));rw[hid]at r1 r2;exact⟨j,bG o,by simp[dE.st,c3],.inr b1,nf j b1,r1,r2⟩
theorem Ext.trans{ds:Nat->Prop}{a b c:dE X}(h:Ext ds a b)(h':Ext ds b c):Ext ds a c:=by
 refine⟨λ t ht=>?_,?_,Nat.le_trans h.nx h'.nx⟩
 .rcases h'.env t ht with h1 |h1
  .rcases h.env t ht with h2 |h2
   .exact .inl (h1.trans h2)
   .exact .inr (h1.trans h2)
  .exact .inr h1
 .obtain⟨d,h1,h2⟩:=h.obj;obtain⟨d',h3,h4⟩:=h'.obj;refine⟨d'++d,by rw[h3,h1,aM],λk hk hn=>?_⟩;simp only[aZ,not_or]at hn;rcases h4 k (Nat.lt_of_lt_of_le hk h.nx) hn.1 with h5 |h5
  .rcases h2 k hk hn.2 with h6 |h6
   .exact .inl (h5.trans h6)
   .exact .inr (h5.trans h6)
  .exact .inr h5
theorem Ext.refl(ds:Nat->Prop)(s:dE X):Ext ds s s:=⟨λ _ _=> .inl rfl,⟨[],by simp,λ_ _ _=> .inl rfl⟩,aD _⟩
def Says(s s':dE X):Prop:=∀(P:Program) (w0:World) (O0:ky) (N:Nat) (β:Nat->J cT) (I:Nat->Prop) (a:Act) (w:World),Rel P w0 O0 N β I s.st a w->∃ β',Rel P w0 O0 N β' I s'.st a w
theorem Low.room{s:dE X}{P:Program}{w0:World}{O0:ky}{N:Nat}{β:Nat->J cT}{I:Nat->Prop}{a:Act}{w:World}(hl:Low s)(hr:Rel P w0 O0 N β I s.st a w):∃ β2,β2 s.nx=none/\Rel P w0 O0 N β2 I s.st a w:=by
 have hr1:=hr.restrict hl.old
 have hr2:=Rel.re (f:=id) (g:=λj=>if j<s.nx then j else 1000000) (D:=(· <s.nx)) (s':=s.st) (λ k hk=>aX hk) (λ j hj=>aX (by have:=hl.ge;omega)) hr1 (λ _=> .inl rfl) (λ _=>rfl)
  (λ q=> .inr ⟨λ k hk=>hl.env q k (by rw[<- iK];exact hk),by
   show lz (gh id (den (fi s.env q))) (den (fi s.env q));rw[<- Aa,Wu (f:=id) _ (λ _ _=>rfl)];exact lz.refl _⟩)
  (λ j o' hj=>by
   simp only[dE.st,dN]at hj;obtain⟨x,hx,rfl⟩:=hj;have⟨h1,h2⟩:=hl.obj j x hx;have⟨r1,r2⟩:=JM (D:=(· <s.nx)) id x h2;have hid:oY id x=x:=by
    cases x with
    |en c l=>rfl
    |map kc vc l=>rfl
    |cells sz rows=>
     simp only[oY];congr 1;have:∀q∈rows,Kk id q=q:=λq _=>Ac (f:=id) q λ_ _=>rfl;rw[map_congr_left this];simp
   rw[hid]at r1 r2;exact⟨j,bG x,by simp[dE.st,hx],h1,rfl,r1,r2⟩)
 exact⟨_,by simp,hr2⟩
theorem anS(z:Bool)(k:Nat):bk (nz (X:=X) z k)=[k]:=by cases z<;>rfl
theorem Ww{ds:U Nat}{z:Bool}{s:dE X}{t:Nat}{c:CT X.ι}(hl:Low s)(ht:t∈ds):Low (AC z s t c)/\Ext (· ∈ds) s (AC z s t c)/\Says s (AC z s t c):=by
 unfold AC;split
 .rename_i hn;split
  .rename_i hlt;have he:∀q,fi ((t,nz z s.nx)::s.env) q=if t=q then nz z s.nx else fi s.env q:=λq=>by
    simp only[fi,lk];by_cases e:t=q<;>simp[e]
   have hO:∀q,ie ((s.nx,some (.en c []))::s.obj) q=if s.nx=q then some (.en c [])else ie s.obj q:=λq=>by
    simp only[ie,lk];by_cases e:s.nx=q<;>simp[e]
   refine⟨⟨by show s.nx+1<=1000000;omega,by have:=hl.ge;show 1000<=s.nx+1;omega,λq k hk=>?_,λk o ho=>?_⟩,⟨λ q hq=>?_,⟨[s.nx],rfl,λk hk hnk=>?_⟩,by show s.nx<=s.nx+1;omega⟩,λP w0 O0 N β I a w hr=>?_⟩
   .rw[he]at hk;split at hk
    .simp only[anS,aP]at hk;subst hk;show s.nx<s.nx+1;omega
    .have:=hl.env q k hk;show k<s.nx+1;omega
   .rw[hO]at ho;split at ho
    .rename_i e;cases ho;subst e;exact⟨by show s.nx<s.nx+1;omega,by simp[eh]⟩
    .have⟨h1,h2⟩:=hl.obj k o ho;exact⟨by show k<s.nx+1;omega,λj hj=>by have:=h2 j hj;show j<s.nx+1;omega⟩
   .left;rw[he,aS];intro e;subst e;exact hq ht
   .left;rw[hO,aS (by omega)]
   .have⟨β2,E6,hr2⟩:=hl.room hr;have⟨hS,hM⟩:=Mem.pC (i:=s.nx) (o:=bG (.en c []:bm X)) hr2.mem E6 rfl;refine⟨ins β2 s.nx .none,hr2.defers,hr2.size,λq=>?_,?_⟩
    .have h1:=hr2.env q;show fg P _ w I (den (fi ((t,nz z s.nx)::s.env) q)) none _;rw[he];by_cases e:t=q
     .subst e;rw[aX rfl];have h2:VR P _ w I (den (fi s.env t)) (a.tmps.getD t undef):=h1;rw[hn]at h2;simp only[den,VR]at h2;cases z with
      |false=>simp only[fg,nz,ak,den,VR];exact .inl ⟨by simp[ins],h2,trivial,trivial⟩
      |true=>simp only[fg,nz,aj,den,VR];exact .inl ⟨trivial,h2⟩
     .rw[aS e];exact fg.mono hS.ext hS.same hS.inc h1
    .have e:(λ k=>(ie ((s.nx,some (.en c []))::s.obj) k).map bG)=dm s.st.obj [(s.nx,some (bG (.en c []:bm X)))]:=by
      funext q;simp only[dm,dE.st];rw[hO];by_cases e:s.nx=q
      .simp[e]
      .rw[aS e,aS (Ne.symm e)]
     show Mem P w0 O0 _ I (λ k=>(ie ((s.nx,some (.en c []))::s.obj) k).map bG) w;rw[e];exact hM
  .exact⟨hl,Ext.refl _ s,λ_ _ _ _ β _ _ _ h=>⟨β,h⟩⟩
 .exact⟨hl,Ext.refl _ s,λ_ _ _ _ β _ _ _ h=>⟨β,h⟩⟩
theorem Wx(y:DV X):∀(l:U (DV X))(j i:Nat),i∈aR (l.set j y)->i∈aR l\/i∈bk y
 |[],_,_,h=> .inl (by simpa using h)
 |x::l,0,i,h=>by
  simp only[List.set,aR,aZ]at h ⊢;rcases h with h |h
  .exact .inr h
  .exact .inl (.inr h)
 |x::l,j+1,i,h=>by
  simp only[List.set,aR,aZ]at h ⊢;rcases h with h |h
  .exact .inl (.inl h)
  .rcases Wx y l j i h with h |h
   .exact .inl (.inr h)
   .exact .inr h
theorem bj.set{P:Program}{β:Nat->J cT}{w:World}{I:Nat->Prop}{y:AV}:∀(xs:U AV)(vs:U Value)(j:Nat),(∀ x v,xs[j]? =some x->VR P β w I x v->VR P β w I y v)->bj P β w I xs vs->bj P β w I (xs.set j y) vs
 |[],vs,_,_,h=>by simpa using h
 |x::xs,[],_,_,h=>by simp[bj]at h
 |x::xs,v::vs,0,hy,h=>by simp only[bj,List.set]at h ⊢;exact⟨hy x v rfl h.1,h.2⟩
 |x::xs,v::vs,j+1,hy,h=>by simp only[bj,List.set]at h ⊢;exact⟨h.1,bj.set xs vs j (λ x v e=>hy x v (by simpa using e)) h.2⟩
theorem OR.set1{P:Program}{β:Nat->J cT}{w:World}{I:Nat->Prop}{sz:Nat}{row:U AV}{j:Nat}{y:AV}{B:cT}(hy:∀x v,row[j]? =some x->VR P β w I x v->VR P β w I y v)(h:OR P β w I ⟨sz,[row]⟩ B):OR P β w I ⟨sz,[row.set j y]⟩ B:=by
 cases B with
 |none=>simp[OR]at h
 | «at» b s n=>
  obtain⟨h1,c,e,h2,h3,h4⟩:=h;refine⟨h1,c,e,h2,h3,?_⟩;simp only[bp,List.length_set]at h4 ⊢;refine⟨h4.1,?_,trivial⟩;rw[jo]at h4 ⊢;intro i x hx;rw[List.getElem?_set]at hx;split at hx
  .rename_i e;subst e;split at hx
   .cases hx;rename_i hlt;obtain⟨v,g1,g2,g3⟩:=h4.2.1 j _ (dQ hlt);exact⟨v,g1,hy _ v (dQ hlt) g2,g3⟩
   .cases hx
  .exact h4.2.1 i x hx
 |mp b=>
  obtain⟨es,cl,h1,hle,h2,h3⟩:=h;refine⟨es,cl,h1,hle,λe=>?_,h3⟩;have:=h2 e
  match hes:es.toList,this with
  |[e1],this=>simp only[cH]at this ⊢;exact⟨bj.set _ _ j hy this.1,trivial⟩
  |[],this=>simp[cH]at this
  |_::_::_,this=>simp[cH]at this
theorem ad1(y:DV X):∀(l:U (DV X))(j:Nat),bQ (l.set j y)=(bQ l).set j (den y)
 |[],_=>by simp[bQ]
 |x::l,0=>by simp[bQ]
 |x::l,j+1=>by simp[bQ,ad1 y l j]
theorem agG{ds:U Nat}{s:dE X}{q j:Nat}{c:CT X.ι}(hl:Low s):Low (GE s q j c)/\Ext (· ∈ds) s (GE s q j c)/\Says s (GE s q j c):=by
 unfold GE;split
 .rename_i sz row hq;split
  .rename_i hn;split
   .rename_i hlt;have hqn:q<s.nx:=(hl.obj q _ hq).1;have hrefs:∀k∈aR row,k<s.nx:=λk hk=>(hl.obj q _ hq).2 k (by simpa[eh]using hk);have hO:∀k,ie ((q,some (.cells sz [row.set j (.own s.nx 0 0)]))::(s.nx,some (.en c []))::s.obj) k=if q=k then some (.cells sz [row.set j (.own s.nx 0 0)])else if s.nx=k then some (.en c [])else ie s.obj k:=λk=>by
     simp only[ie,lk];by_cases e:q=k
     .simp[e]
     .by_cases e':s.nx=k<;>simp[e,e']
    refine⟨⟨by show s.nx+1<=1000000;omega,by have:=hl.ge;show 1000<=s.nx+1;omega,λk i hk=>by have:=hl.env k i hk;show i<s.nx+1;omega,λk o ho=>?_⟩,⟨λ _ _=> .inl rfl,⟨[q,s.nx],rfl,λk hk hnk=>?_⟩,by show s.nx<=s.nx+1;omega⟩,λP w0 O0 N β I a w hr=>?_⟩
    .rw[hO]at ho;split at ho
     .rename_i e;cases ho;subst e;refine⟨by show q<s.nx+1;omega,λi hi=>?_⟩;show i<s.nx+1;simp only[eh,aF,map_nil,flatten_cons,List.flatten_nil,append_nil]at hi;rcases Wx _ _ _ _ hi with h1 |h1
      .have:=hrefs i h1;omega
      .simp only[bk,aP]at h1;omega
     .split at ho
      .rename_i e;cases ho;subst e;exact⟨by show s.nx<s.nx+1;omega,by simp[eh]⟩
      .have⟨h1,h2⟩:=hl.obj k o ho;exact⟨by show k<s.nx+1;omega,λi hi=>by have:=h2 i hi;show i<s.nx+1;omega⟩
    .left;simp only[aO,gB,or_false,not_or]at hnk;rw[hO,aS (Ne.symm hnk.1),aS (Ne.symm hnk.2)]
    .have⟨β2,E6,hr2⟩:=hl.room hr;have⟨hS,hM⟩:=Mem.pC (i:=s.nx) (o:=bG (.en c []:bm X)) hr2.mem E6 rfl;refine⟨ins β2 s.nx .none,hr2.defers,hr2.size,λk=>fg.mono hS.ext hS.same hS.inc (hr2.env k),?_⟩;refine hM.weak λk o' ho=>?_;simp only[dE.st]at ho;rw[hO]at ho;by_cases e:q=k
     .subst e;rw[aX rfl,Option.map_some]at ho;cases ho;refine⟨bG (.cells sz [row]),by simp only[dm];rw[aS (by omega)];simp[dE.st,hq],λB _ hB=>?_⟩;simp only[bG,aF,map_nil,ad1]at hB ⊢;refine OR.set1 (λ x v hx hv=>?_) hB;rw[nU,List.getElem?_map,hn]at hx;cases hx;simp only[den,VR]at hv ⊢;exact .inl ⟨by simp[ins],hv,trivial,trivial⟩
     .rw[aS e]at ho;refine⟨o',?_,λ_ _ h=>h⟩;simp only[dm];by_cases e':s.nx=k
      .subst e';rw[aX rfl]at ho ⊢;simpa using ho
      .rw[aS e']at ho;rw[aS (Ne.symm e')];exact ho
   .exact⟨hl,Ext.refl _ s,λ_ _ _ _ β _ _ _ h=>⟨β,h⟩⟩
  .exact⟨hl,Ext.refl _ s,λ_ _ _ _ β _ _ _ h=>⟨β,h⟩⟩
 .exact⟨hl,Ext.refl _ s,λ_ _ _ _ β _ _ _ h=>⟨β,h⟩⟩
theorem Nh{ds:U Nat}:∀(l:U (Nat×CT X.ι)){s:dE X},Low s->(∀ p∈l,(bif Nat.ble 1000000 p.1 then !Nat.ble 1099511627776 p.1 || ds.contains (p.1 -1099511627776)else ds.contains p.1)=true)->Low (PY l s)/\Ext (· ∈ds) s (PY l s)/\Says s (PY l s)
 |[],s,hl,_=>⟨hl,Ext.refl _ s,λ_ _ _ _ β _ _ _ h=>⟨β,h⟩⟩
 |(t,c)::r,s,hl,hd=>by
  generalize hs:(bif Nat.ble 1000000 t then bif Nat.ble 1099511627776 t then AC true s (t -1099511627776) c else GE s ((t -1000000)/4096) ((t -1000000)%4096) c else AC false s t c)=s1;have h0:Low s1/\Ext (· ∈ds) s s1/\Says s s1:=by
   have hd0:=hd (t,c) (by simp);simp only at hd0;subst hs;cases hb:Nat.ble 1000000 t with
   |true=>
    rw[hb]at hd0;cases hb2:Nat.ble 1099511627776 t with
    |true=>rw[hb2]at hd0;exact Ww hl (by simpa using hd0)
    |false=>exact agG hl
   |false=>rw[hb]at hd0;exact Ww hl (by simpa using hd0)
  obtain⟨h1,h2,h3⟩:=h0;simp only[PY,hs];obtain⟨g1,g2,g3⟩:=Nh r h1 (λ p hp=>hd p (by simp[hp]));refine⟨g1,h2.trans g2,λP w0 O0 N β I a w hr=>?_⟩;have⟨β',hr'⟩:=h3 P w0 O0 N β I a w hr;exact g3 P w0 O0 N β' I a w hr'
theorem kY{A:Type}{sh:Sh X.ι}{ds:U Nat}{s0 s':dE X}{k:VT (X:=X) sh.vars->J A}{r:A}(hl0:Low s0)(hl':Low s')(hx:Ext (· ∈ds) s0 s')(h:qo sh ds s0 s' k=some r):
 ∃v,k v=some r/\Low (encS sh s0 v)/\Ext (· ∈ds) s0 (encS sh s0 v)/\Says s' (encS sh s0 v):=by
 unfold qo at h;have⟨h1,h2⟩:=d9 h;obtain⟨g1,g2,g3⟩:=Nh (ds:=ds) sh.AW hl' (λ p hp=>all_eq_true.1 h1 p hp);have⟨v,i1,i2,i3,i4⟩:=abJ hl0 (hx.trans g2) h2;refine⟨v,i1,i2,i3,λP w0 O0 N β I a w hr=>?_⟩;have⟨β',hr'⟩:=g3 P w0 O0 N β I a w hr;exact i4 P w0 O0 N β' I a w hr'
end
def gD:Code->U Nat
 | .region _ al _=>al.toList.filterMap (·.dst)
 | .seq a b=>gD a++gD b
 | .cond _ a b=>gD a++gD b
 | .block _ b=>gD b
 | .loop b=>gD b
 |_=>[]
section
variable {X:SX}
section
variable {P:Program} {N:Nat}
def K4{A:Type}(ds:U Nat)(s:dE X)(k:Exit->dE X->J A)(r:A)(e:Exit)(σ:St):Prop:=∃s',Low s'/\Ext (· ∈ds) s s'/\σ=s'.st/\k e s'=some r
theorem aiA{c:Code}{Q Q':Exit->St->Prop}{σ:St}(h:Ev P N c Q σ)(ht:∀e σ,Q e σ->∀w0 O0 β I a w,Rel P w0 O0 N β I σ a w->∃ β' σ',Rel P w0 O0 N β' I σ' a w/\tG σ'/\Q' e σ'):Ev P N c Q' σ:=by
 intro w0 O0 β I a w hr ho;refine wp_mono (h w0 O0 β I a w hr ho) ?_;rintro e a' w' ⟨β',I',σ',h1,_,h3⟩;have⟨β2,σ2,g1,g2,g3⟩:=ht e σ' h3 w0 O0 β' I' a' w' h1;exact⟨β2,I',σ2,g1,g2,g3⟩
end
end
inductive Hn(ι:Type) where
 |z
 |f (l:List Nat)
 |s (a b:Hn ι)
 |b (a:Hn ι)
 |j (sh:Sh ι) (a:Hn ι)
 |jx (sh:Sh ι) (a:Hn ι)
 |l (head:Sh ι) (id:Nat) (ab:Sh ι) (a:Hn ι)
 |lx (head:Sh ι) (id:Nat) (ab:Sh ι) (a:Hn ι)
 |rg (head:Sh ι) (a:Hn ι)
 |un (a r:Hn ι)
def Hn.fz{ι:Type}:Hn ι->U Nat
 | .f is=>is
 |_=>[]
def Hn.fst{ι:Type}:Hn ι->Hn ι
 | .s a _=>a
 |_=> .z
def Hn.snd{ι:Type}:Hn ι->Hn ι
 | .s _ y=>y
 |_=> .z
def Hn.sub{ι:Type}:Hn ι->Hn ι
 | .b a=>a
 |_=> .z
def iter{V O:Type}(step:V->J (V⊕O)):Nat->V->J O
 | 0,_=>none
 |n+1,v=>(step v).bind λr=>match r with
  | .inl v=>iter step n v
  | .inr o=>some o
def L3{X:SX}{A:Type}(body:Hn X.ι->dE X->(Exit->dE X->J A)->J A):Hn X.ι->dE X->(Exit->dE X->J A)->J A
 | .un a r,s,k=>body a s λe s'=>match e with
  | .normal=>L3 body r s' k
  |e=>k e s'
 |_,_,_=>none
def dF{W A:Type}(o:J (W⊕A))(f:W->J A):J A:=o.bind λr=>match r with
 | .inl w=>f w
 | .inr a=>some a
noncomputable def both{A:Type}(x y:J A):J A:=open Classical in if x=y then x else none
theorem ajK{A:Type}{x y:J A}{r:A}(h:both x y=some r):x=some r/\y=some r:=by
 unfold both at h;split at h
 .rename_i e;exact⟨h,e ▸ h⟩
 .cases h
theorem ajL{A:Type}(x:J A):both x x=x:=by simp[both]
section
variable {X:SX}
def GO(ds:U Nat)(s:dE X)(h:Hn X.ι){A:Type}(k:Exit->dE X->J A)(body:(B:Type)->Hn X.ι->(Exit->dE X->J B)->J B):J A:=
 match h with
 | .j sh h'=>(body (VT (X:=X) sh.vars) h' λe s'=>match e with
  | .normal=>qo sh ds s s' some
  |_=>none).bind λv=>k .normal (encS sh s v)
 | .jx sh h'=>dF (body (VT (X:=X) sh.vars⊕A) h' λe s'=>match e with
  | .normal=>qo sh ds s s' λv=>some (.inl v)
  |e=>(k e s').map .inr) λv=>k .normal (encS sh s v)
 |h=>body A h k
variable (Γ:FuncId->Option (cp X)) (T:eo) (am:TypeId->Option (CT X.ι)) (N n:Nat)
noncomputable def run:Code->(A:Type)->Hn X.ι->dE X->(Exit->dE X->J A)->J A
 | .skip,_,_,s,k=>k .normal s
 | .region id al d,A,h,s,k=>GO (gD (.region id al d)) s h k λ_ h k=>agF Γ h.fz T am N al d s (k .normal)
 | .seq x y,A,h,s,k=>GO (gD (.seq x y)) s h k λB h k=>run x B h.fst s λe s'=>match e with
  | .normal=>run y B h.snd s' k
  |e=>k e s'
 | .cond c x y,A,h,s,k=>GO (gD (.cond c x y)) s h k λB h k=>match YL (fi s.env) c with
  | .c .bool v=>bif v then run x B h.fst s k else run y B h.snd s k
  | .ub=>both (run x B h.fst s k) (run y B h.snd s k)
  |_=>none
 | .block id b,A,h,s,k=>GO (gD (.block id b)) s h k λB h k=>run b B h.sub s λe s'=>match e with
  | .exit j=>if j=id then k .normal s' else k (.exit j) s'
  |e=>k e s'
 | .loop b,A,h,s,k=>match h with
  | .l hd id ab h'=>qo hd (gD b) s s λv0=>(iter (λ v=>run b (VT (X:=X) hd.vars⊕VT (X:=X) ab.vars) h' (encS hd s v) λe s'=>match e with
   | .normal=>qo hd (gD b) s s' λv=>some (.inl v)
   | .exit j=>if j=id then qo ab (gD b) s s' λw=>some (.inr w)else none
   |_=>none) n v0).bind λw=>k (.exit id) (encS ab s w)
  | .lx hd id ab h'=>qo hd (gD b) s s λv0=>dF (iter (λ v=>run b (VT (X:=X) hd.vars⊕(VT (X:=X) ab.vars⊕A)) h' (encS hd s v) λe s'=>match e with
   | .normal=>qo hd (gD b) s s' λv=>some (.inl v)
   | .exit j=>if j=id then qo ab (gD b) s s' λw=>some (.inr (.inl w))else(k (.exit j) s').map λa=> .inr (.inr a)
   |e=>(k e s').map λa=> .inr (.inr a)) n v0) λw=>k (.exit id) (encS ab s w)
  | .un a r=>L3 (λ h s k=>run b A h s k) (.un a r) s k
  |_=>none
 | .exit id,_,_,s,k=>k (.exit id) s
 | .ret,_,_,s,k=>k .ret s
 | .label _,_,_,s,k=>k .normal s
 |_,_,_,_,_=>none
section
variable {Γ:FuncId->Option (cp X)} {T:eo} {am:TypeId->Option (CT X.ι)} {N n:Nat} {P:Program}
theorem Ext.wide{ds ds':Nat->Prop}{a b:dE X}(h:Ext ds a b)(hd:∀t,ds t->ds' t):Ext ds' a b:=⟨λ t ht=>h.env t λhh=>ht (hd t hh),h.obj,h.nx⟩
theorem map_inr{α β:Type}{o:J β}{r:α⊕β}(h:o.map Sum.inr=some r):∃b,o=some b/\r= .inr b:=by
 cases o with
 |none=>cases h
 |some b=>injection h with h;exact⟨b,rfl,h.symm⟩
theorem Em{c:Code}{s:dE X}{h:Hn X.ι}{A:Type}{k:Exit->dE X->J A}{r:A}{body:(B:Type)->Hn X.ι->(Exit->dE X->J B)->J B}(hl:Low s)
 (hb:∀(B:Type)(h:Hn X.ι)(k:Exit->dE X->J B)(r:B),body B h k=some r->Ev P N c (K4 (gD c) s k r) s.st) (hr:GO (gD c) s h k body=some r):Ev P N c (K4 (gD c) s k r) s.st:=by
 unfold GO at hr;split at hr
 .rename_i sh h';rw[ai]at hr;obtain⟨v,h1,hr⟩:=hr;refine aiA (hb _ _ _ _ h1) ?_;rintro e σ ⟨s',g1,g2,rfl,g4⟩ w0 O0 β I a w hrel;cases e<;>simp only[reduceCtorEq]at g4;have⟨v',i1,i2,i3,i4⟩:=kY hl g1 g2 g4;cases i1;have⟨β',i5⟩:=i4 P w0 O0 N β I a w hrel;exact⟨β',_,i5,i2.old,_,i2,i3,rfl,hr⟩
 .rename_i sh h';unfold dF at hr;have⟨v,h1,hr⟩:=ai.1 hr;refine aiA (hb _ _ _ _ h1) ?_;rintro e σ ⟨s',g1,g2,rfl,g4⟩ w0 O0 β I a w hrel;have other:(k e s').map Sum.inr=some v->∃ β' σ',Rel P w0 O0 N β' I σ' a w/\tG σ'/\K4 (gD c) s k r e σ':=by
   intro hm;obtain⟨b,hk,rfl⟩:=map_inr hm;cases hr;exact⟨β,_,hrel,g1.old,s',g1,g2,rfl,hk⟩
  cases e with
  |normal=>
   simp only at g4;have⟨v',i1,i2,i3,i4⟩:=kY hl g1 g2 g4;cases i1;have⟨β',i5⟩:=i4 P w0 O0 N β I a w hrel;exact⟨β',_,i5,i2.old,_,i2,i3,rfl,hr⟩
  |_=>exact other g4
 .exact hb _ _ _ _ hr
theorem ajM{id:Nat}{al:Array Oper}{d:Bool}{t:Nat}(h:RO al t):t∈gD (.region id al d):=by
 obtain⟨j,op,h1,h2⟩:=h;simp only[gD,List.mem_filterMap];exact⟨op,by rw[<- Array.getElem?_toList]at h1;exact dw h1,h2⟩
theorem Wy{b:Code}{s:dE X}{hd:Sh X.ι}{O:Type}{step:VT (X:=X) hd.vars->J (VT (X:=X) hd.vars⊕O)}{kb:Exit->dE X->J (VT (X:=X) hd.vars⊕O)}{Q:Exit->St->Prop}(hl:Low s)
 (hkn:∀s',kb .normal s'=qo hd (gD b) s s' λv=>some (.inl v))
 (hstep:∀v r,Low (encS hd s v)->step v=some r->Ev P N b (K4 (gD b) (encS hd s v) kb r) (encS hd s v).st)
 {o:O} (hQ:∀e s',e≠ .normal->Low s'->Ext (· ∈gD b) s s'->kb e s'=some (.inr o)->∀w0 O0 β I a w,Rel P w0 O0 N β I s'.st a w->∃ β' σ',Rel P w0 O0 N β' I σ' a w/\tG σ'/\Q e σ')
 (hno:∀e s' v,e≠ .normal->kb e s'=some (.inl v)->False) (n:Nat) (v0:VT (X:=X) hd.vars) (h:iter step n v0=some o) (hl0:Low (encS hd s v0)) (hx0:Ext (· ∈gD b) s (encS hd s v0)):Ev P N (.loop b) Q (encS hd s v0).st:=by
 intro w0 O0 β I a w hr ho;refine ZP (λ n a w=>∃ β I v,Rel P w0 O0 N β I (encS hd s v).st a w/\iter step n v=some o/\Low (encS hd s v)/\Ext (· ∈gD b) s (encS hd s v)) (λ a w ⟨_,_,v,_,h,_⟩=>by cases h) ?_ n a w ⟨β,I,v0,hr,h,hl0,hx0⟩;rintro n a w ⟨β,I,v,hr,hi,hlv,hxv⟩;simp only[iter]at hi;have⟨r,h1,hi⟩:=ai.1 hi;refine wp_mono (hstep v r hlv h1 w0 O0 β I a w hr hlv.old) ?_;rintro e a' w' ⟨β',I',σ',g1,_,s',g2,g3,rfl,g4⟩;have hxs:=hxv.trans g3;by_cases he:e= .normal
 .subst he;rw[hkn]at g4;have⟨v',i1,i2,i3,i4⟩:=kY hl g2 hxs g4;cases i1;have⟨β2,i5⟩:=i4 P w0 O0 N β' I' a' w' g1;exact⟨β2,I',v',i5,hi,i2,i3⟩
 .cases r with
  |inl v'=>exact(hno e s' v' he g4).elim
  |inr o'=>
   cases hi;have⟨β2,σ2,i1,i2,i3⟩:=hQ e s' he g2 hxs g4 w0 O0 β' I' a' w' g1;cases e with
   |normal=>exact(he rfl).elim
   |_=>exact⟨β2,I',σ2,i1,i2,i3⟩
theorem Wz{A:Type}{sh:Sh X.ι}{ds:U Nat}{s0 s':dE X}{k:VT (X:=X) sh.vars->J A}{r:A}(h:qo sh ds s0 s' k=some r):∃v,k v=some r:=by
 unfold qo at h;have⟨_,h⟩:=d9 h;unfold PQ at h;have⟨m1,h1,h⟩:=ai.1 h;have⟨m,h2,h⟩:=ai.1 h;have⟨h3,h⟩:=d9 h;have⟨v,h4,h⟩:=ai.1 h;exact⟨v,(pR h).2⟩
theorem ad2{α β γ:Type}{o:J γ}{r:α⊕(β⊕γ)}(h:o.map (λ a=>Sum.inr (Sum.inr a))=some r):∃b,o=some b/\r= .inr (.inr b):=by
 cases o with
 |none=>cases h
 |some b=>injection h with h;exact⟨b,rfl,h.symm⟩
def Hn.len{ι:Type}:Hn ι->Nat
 | .un _ r=>r.len+1
 |_=>0
theorem ajN{b:Code}{A:Type}{body:Hn X.ι->dE X->(Exit->dE X->J A)->J A}{s0:dE X}{k:Exit->dE X->J A}{r:A}
 (hb:∀(h:Hn X.ι)(s:dE X)(k:Exit->dE X->J A)(r:A),Low s->body h s k=some r->Ev P N b (K4 (gD b) s k r) s.st)
 {h:Hn X.ι} (hl:Low s0) (hr:L3 body h s0 k=some r):Ev P N (.loop b) (K4 (gD (.loop b)) s0 k r) s0.st:=by
 refine anC (λ n σ=>∃(h:Hn X.ι)(s:dE X),σ=s.st/\h.len=n/\Low s/\Ext (· ∈gD b) s0 s/\L3 body h s k=some r) ?_ ?_ h.len ⟨h,s0,rfl,rfl,hl,Ext.refl _ s0,hr⟩
 .rintro σ ⟨h,s,_,h1,_,_,h2⟩;cases h<;>first |cases h2 |cases h1
 .rintro n σ ⟨h,s,rfl,h1,h2,h3,h4⟩;cases h<;>try cases h4
  rename_i a q;simp only[Hn.len,Nat.add_right_cancel_iff]at h1;refine(hb a s _ r h2 h4).mono ?_;rintro e σ ⟨s',g1,g2,rfl,g4⟩;have hx:=h3.trans g2;cases e with
  |normal=>exact⟨q,s',rfl,h1,g1,hx,g4⟩
  |_=>exact⟨s',g1,hx,rfl,g4⟩
theorem kL(hT:fe P T)(hm:P.follows .mixedOrders=true)(hΓ:sC P Γ):∀(c:Code)(A:Type)(h:Hn X.ι)(s:dE X)(k:Exit->dE X->J A)(r:A),Low s->run Γ T am N n c A h s k=some r->Ev P N c (K4 (gD c) s k r) s.st
 | .skip,A,h,s,k,r,hl,hr=>anz ⟨s,hl,Ext.refl _ s,rfl,hr⟩
 | .exit id,A,h,s,k,r,hl,hr=>anA ⟨s,hl,Ext.refl _ s,rfl,hr⟩
 | .ret,A,h,s,k,r,hl,hr=>apb ⟨s,hl,Ext.refl _ s,rfl,hr⟩
 | .label l,A,h,s,k,r,hl,hr=>ak6 ⟨s,hl,Ext.refl _ s,rfl,hr⟩
 | .region id al d,A,h,s,k,r,hl,hr=>by
  refine Em hl (λ B h k r hb=>?_) hr;have⟨s',g1,g2,g3,g4⟩:=abH (id:=id) hT hm hΓ hl hb;exact g4.mono λe σ ⟨he,hσ⟩=>⟨s',g2,g3.wide λt ht=>ajM ht,hσ,by rw[he];exact g1⟩
 | .seq x y,A,h,s,k,r,hl,hr=>by
  refine Em hl (λ B h k r hb=>?_) hr;refine apc ((kL hT hm hΓ x B _ s _ r hl hb).mono ?_);rintro e σ ⟨s',g1,g2,rfl,g4⟩;have wide:Ext (· ∈gD (.seq x y)) s s':=g2.wide λt ht=>by simp[gD,ht]
  cases e with
  |normal=>
   exact(kL hT hm hΓ y B _ s' k r g1 g4).mono λe σ ⟨s2,i1,i2,i3,i4⟩=>⟨s2,i1,wide.trans (i2.wide λt ht=>by simp[gD,ht]),i3,i4⟩
  |_=>exact⟨s',g1,wide,rfl,g4⟩
 | .cond c x y,A,h,s,k,r,hl,hr=>by
  refine Em hl (λ B h k r hb=>?_) hr;split at hb
  .rename_i v hv;refine anB v (λ _ _=>rfl) ?_ ?_
   .have:=Vy (fi s.env) c;rw[hv]at this;exact this.symm
   .cases v with
    |true=>exact(kL hT hm hΓ x B _ s k r hl hb).mono λe σ ⟨s2,i1,i2,i3,i4⟩=>⟨s2,i1,i2.wide λt ht=>by simp[gD,ht],i3,i4⟩
    |false=>exact(kL hT hm hΓ y B _ s k r hl hb).mono λe σ ⟨s2,i1,i2,i3,i4⟩=>⟨s2,i1,i2.wide λt ht=>by simp[gD,ht],i3,i4⟩
  .rename_i hv;have⟨hb1,hb2⟩:=ajK hb;refine af8 (λ _ _=>rfl) ?_ ?_ ?_
   .have:=Vy (fi s.env) c;rw[hv]at this;exact this.symm
   .exact(kL hT hm hΓ x B _ s k r hl hb1).mono λe σ ⟨s2,i1,i2,i3,i4⟩=>⟨s2,i1,i2.wide λt ht=>by simp[gD,ht],i3,i4⟩
   .exact(kL hT hm hΓ y B _ s k r hl hb2).mono λe σ ⟨s2,i1,i2,i3,i4⟩=>⟨s2,i1,i2.wide λt ht=>by simp[gD,ht],i3,i4⟩
  .cases hb
 | .block id b,A,h,s,k,r,hl,hr=>by
  refine Em hl (λ B h k r hb=>?_) hr;refine ak7 ((kL hT hm hΓ b B _ s _ r hl hb).mono ?_);rintro e σ ⟨s',g1,g2,rfl,g4⟩;cases e with
  |exit j=>
   simp only[af7];simp only at g4;split
   .rw[aX ‹_›]at g4;exact⟨s',g1,g2,rfl,g4⟩
   .rw[aS ‹_›]at g4;exact⟨s',g1,g2,rfl,g4⟩
  |_=>exact⟨s',g1,g2,rfl,g4⟩
 | .loop b,A,h,s,k,r,hl,hr=>by
  simp only[run]at hr;split at hr
  .rename_i hd id ab h';obtain⟨v0,h1,h2,h3,h4⟩:=kY hl hl (Ext.refl _ s) hr;rw[ai]at h1;obtain⟨w,h5,h6⟩:=h1;intro w0 O0 β I a ww hrel ho;have⟨β',hrel'⟩:=h4 P w0 O0 N β I a ww hrel;refine Wy (Q:=K4 (gD (.loop b)) s k r) hl (λ s'=>rfl) (λ v r hlv hs=>kL hT hm hΓ b _ h' (encS hd s v) _ r hlv hs) (λ e s' he hls hxs hk=>?_) (λ e s' v he hk=>?_) n v0 h5 h2 h3 w0 O0 β' I a ww hrel' h2.old
   .cases e with
    |exit j=>
     simp only at hk;split at hk
     .rename_i hj;subst hj;have⟨w',i1,i2,i3,i4⟩:=kY hl hls hxs hk;injection i1 with i1;cases i1;intro w0 O0 β I a ww hrel;have⟨β',hrel'⟩:=i4 P w0 O0 N β I a ww hrel;exact⟨β',_,hrel',i2.old,_,i2,i3,rfl,h6⟩
     .cases hk
    |normal=>exact(he rfl).elim
    |_=>cases hk
   .cases e with
    |exit j=>
     simp only at hk;split at hk
     .have⟨w',i1⟩:=Wz hk;injection i1 with i1;cases i1
     .cases hk
    |normal=>exact he rfl
    |_=>cases hk
  .rename_i hd id ab h';obtain⟨v0,h1,h2,h3,h4⟩:=kY hl hl (Ext.refl _ s) hr;unfold dF at h1;rw[ai]at h1;obtain⟨w,h5,h6⟩:=h1;intro w0 O0 β I a ww hrel ho;have⟨β',hrel'⟩:=h4 P w0 O0 N β I a ww hrel;refine Wy (Q:=K4 (gD (.loop b)) s k r) hl (λ s'=>rfl) (λ v r hlv hs=>kL hT hm hΓ b _ h' (encS hd s v) _ r hlv hs) (λ e s' he hls hxs hk=>?_) (λ e s' v he hk=>?_) n v0 h5 h2 h3 w0 O0 β' I a ww hrel' h2.old
   .intro w0 O0 β I a ww hrel;have other:(k e s').map (λ a=>Sum.inr (Sum.inr a))=some (Sum.inr w:VT (X:=X) hd.vars⊕(VT (X:=X) ab.vars⊕A))->∃ β' σ',Rel P w0 O0 N β' I σ' a ww/\tG σ'/\K4 (gD (.loop b)) s k r e σ':=by
     intro hm;have⟨q,hq,hr⟩:=ad2 hm;cases hr;cases h6;exact⟨β,_,hrel,hls.old,s',hls,hxs,rfl,hq⟩
    cases e with
    |exit j=>
     simp only at hk;split at hk
     .rename_i hj;subst hj;have⟨w',i1,i2,i3,i4⟩:=kY hl hls hxs hk;injection i1 with i1;cases i1;have⟨β',hrel'⟩:=i4 P w0 O0 N β I a ww hrel;exact⟨β',_,hrel',i2.old,_,i2,i3,rfl,h6⟩
     .exact other hk
    |normal=>exact(he rfl).elim
    |_=>exact other hk
   .have other:(k e s').map (λ a=>Sum.inr (Sum.inr a))=some (Sum.inl v:VT (X:=X) hd.vars⊕(VT (X:=X) ab.vars⊕A))->False:=by
     intro hm;have⟨q,hq,hr⟩:=ad2 hm;cases hr
    cases e with
    |exit j=>
     simp only at hk;split at hk
     .have⟨w',i1⟩:=Wz hk;injection i1 with i1;cases i1
     .exact other hk
    |normal=>exact he rfl
    |_=>exact other hk
  .exact ajN (body:=λh s k=>run Γ T am N n b A h s k) (λ h s k r hl h1=>kL hT hm hΓ b A h s k r hl h1) hl hr
  .cases hr
 | .rangeFunc ..,_,_,_,_,_,_,hr=>by cases hr
 | .scope _,_,_,_,_,_,_,hr=>by cases hr
 | .goto _,_,_,_,_,_,_,hr=>by cases hr
 | .refuse _,_,_,_,_,_,_,hr=>by cases hr
end
end
section
variable {X:SX}
def jA:Nat->(l:U (AT X.ι))->iD X l->U (DV X)
 |_,[],_=>[]
 |n,.d c::l,a=> .c c a.1::jA n l a.2
 |n,.ref c::l,a=> .rp c a.1 0::jA n l a.2
 |n,.ek as r::l,a=> .ek as r a.1::jA n l a.2
 |n,.mut _::l,a=> .own n 0 (List.length a.1)::jA (n+1) l a.2
 |n,.jz _::l,a=> .ptr n 0 0::jA (n+1) l a.2
 |n,.nil::l,a=> .nil::jA n l a.2
def Bf:(l:U (AT X.ι))->iD X l->U (bm X)
 |[],_=>[]
 | .mut c::l,a=> .en c a.1::Bf l a.2
 | .jz c::l,a=> .cells (CT.sz X c) [uV c a.1]::Bf l a.2
 | .d _::l,a=>Bf l a.2
 | .ref _::l,a=>Bf l a.2
 | .ek _ _::l,a=>Bf l a.2
 | .nil::l,a=>Bf l a.2
theorem rY:∀(n:Nat)(l:U (AT X.ι))(a:iD X l),bQ (jA n l a)=dR n l a
 |_,[],_=>rfl
 |n,.d c::l,a=>by simp only[jA,bQ,den,dR,rY n l a.2]
 |n,.ref c::l,a=>by simp only[jA,bQ,den,dR,rY n l a.2]
 |n,.ek as r::l,a=>by simp only[jA,bQ,dR,rY n l a.2]
 |n,.mut c::l,a=>by simp only[jA,bQ,den,dR,rY (n+1) l a.2]
 |n,.jz c::l,a=>by simp only[jA,bQ,den,dR,rY (n+1) l a.2]
 |n,.nil::l,a=>by simp only[jA,bQ,den,dR,rY n l a.2]
theorem wz:∀(l:U (AT X.ι))(a:iD X l),(Bf l a).map bG=(qj l a).map ii
 |[],_=>rfl
 | .d _::l,a=>wz l a.2
 | .ref _::l,a=>wz l a.2
 | .ek _ _::l,a=>wz l a.2
 | .nil::l,a=>wz l a.2
 | .mut c::l,a=>by simp only[Bf,qj,aF,wz l a.2];rfl
 | .jz c::l,a=>by simp only[Bf,qj,aF,wz l a.2,bG,ii,rG,aI,map_nil,oZ]
theorem o8:∀(n:Nat)(l:U (AT X.ι))(a:iD X l),∀k∈aR (jA n l a),k<n+qm l
 |_,[],_,k,hk=>by simp[jA,aR]at hk
 |n,.d c::l,a,k,hk=>by
  have:=o8 n l a.2 k (by simpa[jA,aR,bk]using hk);simpa[qm,AT.im]using this
 |n,.ref c::l,a,k,hk=>by
  have:=o8 n l a.2 k (by simpa[jA,aR,bk]using hk);simpa[qm,AT.im]using this
 |n,.ek as r::l,a,k,hk=>by
  have:=o8 n l a.2 k (by simpa[jA,aR,bk]using hk);simpa[qm,AT.im]using this
 |n,.nil::l,a,k,hk=>by
  have:=o8 n l a.2 k (by simpa[jA,aR,bk]using hk);simpa[qm,AT.im]using this
 |n,.mut c::l,a,k,hk=>by
  simp only[jA,aR,bk,List.singleton_append,aO]at hk;simp only[qm,AT.im,if_true];rcases hk with rfl |hk
  .omega
  .have:=o8 (n+1) l a.2 k hk;omega
 |n,.jz c::l,a,k,hk=>by
  simp only[jA,aR,bk,List.singleton_append,aO]at hk;simp only[qm,AT.im,if_true];rcases hk with rfl |hk
  .omega
  .have:=o8 (n+1) l a.2 k hk;omega
theorem kZ:∀(n:Nat)(l:U (AT X.ι))(a:iD X l),(dR n l a).length=l.length
 |_,[],_=>rfl
 |n,.d c::l,a=>by simp only[dR,bC,kZ n l a.2]
 |n,.ref c::l,a=>by simp only[dR,bC,kZ n l a.2]
 |n,.ek as r::l,a=>by simp only[dR,bC,kZ n l a.2]
 |n,.mut c::l,a=>by simp only[dR,bC,kZ (n+1) l a.2]
 |n,.jz c::l,a=>by simp only[dR,bC,kZ (n+1) l a.2]
 |n,.nil::l,a=>by simp only[dR,bC,kZ n l a.2]
theorem lg:∀(l:U (AT X.ι))(a:iD X l),(qj l a).length=qm l
 |[],_=>rfl
 | .d _::l,a=>by simpa[qm,AT.im,qj]using lg l a.2
 | .ref _::l,a=>by simpa[qm,AT.im,qj]using lg l a.2
 | .ek _ _::l,a=>by simpa[qm,AT.im,qj]using lg l a.2
 | .nil::l,a=>by simpa[qm,AT.im,qj]using lg l a.2
 | .mut _::l,a=>by simp only[qj,bC,lg l a.2,qm,AT.im,if_true];omega
 | .jz _::l,a=>by simp only[qj,bC,lg l a.2,qm,AT.im,if_true];omega
def xf(l:U (AT X.ι))(a:iD X l):dE X:=⟨(List.range l.length).zip (jA 0 l a),(List.range (Bf l a).length).zip ((Bf l a).map some),1000,[]⟩
theorem aiB(l:U (AT X.ι))(a:iD X l)(k:Nat):ie (xf l a).obj k=(Bf l a)[k]? :=by
 have h:(List.range (Bf l a).length).zip ((Bf l a).map some)=(List.range ((Bf l a).map some).length).zip ((Bf l a).map some):=by rw[length_map]
 simp only[xf,ie];rw[h,Bb,List.getElem?_map];cases (Bf l a)[k]?<;>rfl
theorem apr(l:U (AT X.ι))(a:iD X l):(xf l a).st=ry.st ⟨(List.range (wm l a).length).zip (wm l a),(List.range ((qj l a).map ii).length).zip ((qj l a).map ii)⟩:=by
 have ho:∀k,((ie (xf l a).obj k).map bG)=lk ((List.range ((qj l a).map ii).length).zip ((qj l a).map ii)) k:=by
  intro k;rw[Bb,aiB,<- wz,List.getElem?_map]
 simp only[dE.st,ry.st,St.mk.injEq,and_true];refine⟨?_,funext ho⟩;funext t;simp only[xf];rw[kZ,wm,<- rY];generalize jA 0 l a=ds;have:∀(ks:U Nat)(ds:U (DV X)),den (fi (ks.zip ds) t)=(lk (ks.zip (bQ ds)) t).getD .undef:=by
  intro ks
  induction ks with
  |nil=>intro ds;rfl
  |cons k ks ih=>
   intro ds;cases ds with
   |nil=>rfl
   |cons d ds=>
    simp only[List.zip_cons_cons,fi,lk,bQ];by_cases h:k=t
    .simp[h]
    .simp only[aS h];exact ih ds
 exact this _ _
theorem anT(l:U (AT X.ι))(a:iD X l)(hm:qm l<=1000):Low (xf l a):=by
 refine⟨by show 1000<=1000000;decide,aD _,λt k hk=>?_,λk o ho=>?_⟩
 .have h0:=o8 0 l a;simp only[xf]at hk;generalize jA 0 l a=ds at hk h0;have:∀(ks:U Nat)(ds:U (DV X)),(∀ k∈aR ds,k<0+qm l)->∀k∈bk (fi (ks.zip ds) t),k<1000:=by
   intro ks
   induction ks with
   |nil=>intro ds _ k hk;simp[fi,lk,bk]at hk
   |cons k ks ih=>
    intro ds h j hj;cases ds with
    |nil=>simp[fi,lk,bk]at hj
    |cons d ds=>
     simp only[List.zip_cons_cons,fi,lk]at hj;by_cases e:k=t
     .simp only[aX e,Option.getD_some]at hj;have:=h j (by simp[aR,hj]);omega
     .simp only[aS e]at hj;exact ih ds (λ k hk=>h k (by simp[aR,hk])) j hj
  exact this _ _ h0 k hk
 .rw[aiB]at ho;have hl:(Bf l a).length=qm l:=by rw[<- lg l a];simpa using congrArg List.length (wz l a)
  refine⟨by have:=(dH.1 ho).1;show k<1000;omega,λj hj=>?_⟩;have hz:∀(l:U (AT X.ι))(a:iD X l),∀o∈Bf l a,eh o=[]:=by
   intro l
   induction l with
   |nil=>intro a o ho;simp[Bf]at ho
   |cons q l ih=>
    intro a o ho;cases q<;>simp only[Bf,aO]at ho
    case «mut» c=>rcases ho with rfl |ho;rfl;exact ih _ o ho
    case jz c=>
     rcases ho with rfl |ho
     .have h1:aR (uV c a.1)=[]:=by
       rw[<- gX,oZ];generalize CT.row X.toSE c a.1=r
       induction r with
       |nil=>rfl
       |cons y ys ih=>simp only[aF,eX,refs,ih,bT]
      simp[eh,h1]
     .exact ih _ o ho
    all_goals exact ih _ o ho
  rw[hz l a o (dw ho)]at hj;cases hj
variable (T:eo)
def GC(s:dE X):ResultVar->J (DV X)
 | .tmp t=>some (fi s.env t)
 | .cell a t=>(T t).bind λti=>match fi s.env a with
  | .ptr kk row aa=>(ie s.obj kk).bind λo=>match o with
   | .cells _ rows=>(rows[row]?).bind λr=>Hz ti.agg ti.size ((r.drop aa).take ti.size)
   |_=>none
  |_=>none
def WA(s:dE X):U ResultVar->J (List (DV X))
 |[]=>some []
 |r::rs=>(GC T s r).bind λv=>(WA s rs).bind λvs=>some (v::vs)
theorem alz{s:dE X}{r:ResultVar}{d:DV X}(h:GC T s r=some d):Py T s.st r=some (den d):=by
 cases r with
 |tmp t=>simp only[GC,aA]at h;subst h;rfl
 |cell a t=>
  simp only[GC]at h;rw[ai]at h;obtain⟨ti,h1,h⟩:=h;split at h
  .rename_i kk row aa hp;rw[ai]at h;obtain⟨o,h2,h⟩:=h;split at h
   .rename_i sz rows;have⟨q,h3,h⟩:=ai.1 h;have h4:=Cw h;rw[j4]at h4
    show(match Uu T t (den (fi s.env a)) (λ k=>(ie s.obj k).map bG)with
     |some ⟨v,[],[]⟩=>some v
     |_=>none)=some (den d)
    simp only[Uu,KR,h1,af,hp,den,h2,Option.map_some,bG,List.getElem?_map,h3,h4,pv]
   .cases h
  .cases h
def YT{A:Type}(s:dE X):U ResultVar->(List (DV X)->J A)->J A
 |[],k=>k []
 | .tmp t::rs,k=>YT s rs λvs=>k (fi s.env t::vs)
 | .cell a t::rs,k=>(T t).bind λti=>match fi s.env a with
  | .ptr kk row aa=>(ie s.obj kk).bind λo=>match o with
   | .cells _ rows=>(rows[row]?).bind λr=>(Hz ti.agg ti.size ((r.drop aa).take ti.size)).bind λv=>YT s rs λvs=>k (v::vs)
   |_=>none
  |_=>none
theorem JO{A:Type}{s:dE X}:∀{rs:U ResultVar}{k:U (DV X)->J A}{r:A},YT T s rs k=some r->∃ds,WA T s rs=some ds/\k ds=some r
 |[],k,r,h=>⟨[],rfl,h⟩
 | .tmp t::rs,k,r,h=>by
  have⟨ds,h1,h2⟩:=JO (rs:=rs) h;exact⟨_,by simp only[WA,GC,h1,af],h2⟩
 | .cell a t::rs,k,r,h=>by
  simp only[YT]at h;rw[ai]at h;obtain⟨ti,h1,h⟩:=h;split at h
  .rename_i kk row aa hp;have⟨o,h2,h⟩:=ai.1 h;split at h
   .have⟨q,h3,h⟩:=ai.1 h;have⟨v,h4,h⟩:=ai.1 h;have⟨ds,h5,h6⟩:=JO (rs:=rs) h;exact⟨_,by simp only[WA,GC,h1,hp,h2,h3,h4,h5,af],h6⟩
   .cases h
  .cases h
theorem PZ{s:dE X}:∀{rs:U ResultVar}{ds:U (DV X)},WA T s rs=some ds->nD T s.st rs=some (bQ ds)
 |[],ds,h=>by simp only[WA,aA]at h;subst h;rfl
 |r::rs,ds,h=>by
  simp only[WA]at h;have⟨d,h1,h⟩:=ai.1 h;have⟨ds',h2,h⟩:=ai.1 h;cases h;simp only[nD,alz T h1,PZ h2,af,bQ]
def P5:U (RT X.ι)->U (DV X)->J Nat
 | .mu _::l,ds=>P5 l ds
 | .mr _::l,ds=>P5 l ds
 | .mv::l,ds=>P5 l ds
 | .fresh _::l,d::ds=>match d with
  | .own k _ _=>some k
  |_=>P5 l ds
 | .d _::l,_::ds=>P5 l ds
 | .whole _::l,_::ds=>P5 l ds
 |_,_=>none
def yr:U (RT X.ι)->U (DV X)->U (Nat×Nat)
 | .mu _::l,ds=>yr l ds
 | .mr _::l,ds=>yr l ds
 | .mv::l,ds=>yr l ds
 | .whole j::l,d::ds=>match d with
  | .own _ _ len=>(j,len)::yr l ds
  |_=>yr l ds
 | .d _::l,_::ds=>yr l ds
 | .fresh _::l,_::ds=>yr l ds
 |_,_=>[]
def wB:Nat->U (RT X.ι)->U Nat
 |_,[]=>[]
 |n,.mu _::l=>n::wB (n+1) l
 |n,.mr _::l=>n::wB (n+1) l
 |n,.mv::l=>wB (n+1) l
 |n,_::l=>wB n l
def sf:Nat->U (RT X.ι)->U Nat
 |_,[]=>[]
 |n,.mu _::l=>n::sf (n+1) l
 |n,.mr _::l=>sf (n+1) l
 |n,.mv::l=>sf (n+1) l
 |n,_::l=>sf n l
def LR(bad:U Nat)(ks:U Nat):Bool:=ks.all λk=>!bad.contains k
def abK(get:Nat->J (bm X))(row:U (DV X))(c:CT X.ι):J (CT.T X.toSE c×List Bool):=
 match c with
 | .st i=>(wU get row (X.cX i)).bind λh=>some (X.make i h.1,h.2)
 |c=>match row with
  |[d]=>RG get d c
  |_=>none
def Ie(get:Nat->J (bm X))(c:CT X.ι):U (List (DV X))->J (List (CT.T X.toSE c)×List Bool)
 |[]=>some ([],[])
 |r::rs=>(abK get r c).bind λx=>(Ie get c rs).bind λy=>some (x.1::y.1,x.2++y.2)
def Ni(get:Nat->J (bm X))(bad rk:U Nat)(fk:J Nat)(wl:U (Nat×Nat))(n:Nat):(q:RT X.ι)->U (DV X)->J ((RT.T X q×List Bool)×List (DV X))
 | .d c,d::ds=>if LR bad (bk d)then(FK get d c).bind λx=>some (x,ds)else none
 | .fresh e,d::ds=>match d with
  | .nil=>some (([],[]),ds)
  | .own k 0 len=>if fk=some k then(get k).bind λo=>match o with
   | .en b l=>(jq (.sl b) (.sl e) l).bind λ(l:List (CT.T X.toSE e))=>some ((sub l 0 len,[aE (sub l 0 len).length len]),ds)
   | .cells sz rows=>if sz=CT.sz X e/\LR bad (rows.map aR).flatten=true then(Ie get e rows).bind λx=>some ((x.1,aE len (List.length x.1)::x.2),ds)else none
   | .map _ _ _=>none
   else none
  |_=>none
 | .whole j,d::ds=>match d with
  | .own k 0 len=>if k=j/\rk.contains j=true then(lk wl j).bind λeE=>some (((),[aE len eE]),ds)else none
  |_=>none
 | .mu c,ds=>(get n).bind λo=>match o with
  | .en b l=>(jq (.sl b) (.sl c) l).bind λ(l:List (CT.T X.toSE c))=>match lk wl n with
   |some len=>some ((sub l 0 len,[aE (sub l 0 len).length len]),ds)
   |none=>some ((l,[]),ds)
  |_=>none
 | .mr c,ds=>(get n).bind λo=>match o with
  | .cells sz [row]=>if sz=CT.sz X c/\LR bad (aR row)=true then(abK get row c).bind λx=>some (x,ds)else none
  |_=>none
 | .mv,ds=>some (((),[]),ds)
 |_,[]=>none
def Nj(get:Nat->J (bm X))(bad rk:U Nat)(fk:J Nat)(wl:U (Nat×Nat)):Nat->(l:U (RT X.ι))->(ds:U (DV X))->J (sM X l×List Bool)
 |_,[],ds=>match ds with
  |[]=>some ((),[])
  |_=>none
 |n,[q],ds=>(Ni get bad rk fk wl n q ds).bind λp=>match p.2 with
  |[]=>some p.1
  |_=>none
 |n,q::q'::l,ds=>(Ni get bad rk fk wl n q ds).bind λp=>(Nj get bad rk fk wl (if q.out then n+1 else n) (q'::l) p.2).bind λy=>some ((p.1.1,y.1),p.1.2++y.2)
def PP(s:dE X)(l:U (RT X.ι))(ds:U (DV X)):J (sM X l×List Bool):=
 if LR (wB 0 l) (P5 l ds).toList then Nj (ie s.obj) (wB 0 l++(P5 l ds).toList) (sf 0 l) (P5 l ds) (yr l ds) 0 l ds else none
def ap5(rs:U ResultVar)(l:U (RT X.ι)):Exit->dE X->J (sM X l)
 | .normal,s=>YT T s rs λds=>(PP s l ds).bind λx=>VB x.2 (some x.1)
 | .ret,s=>YT T s rs λds=>(PP s l ds).bind λx=>VB x.2 (some x.1)
 |_,_=>none
def exit(A:Type)(k:dE X->J A):Exit->dE X->J A
 | .normal,s=>k s
 | .ret,s=>k s
 |_,_=>none
variable {T}
section
variable {get:Nat->Option (bm X)} {fk:Option Nat} {os':List (Option fu)} {bad:List Nat}
theorem En{ks:U Nat}(h:LR bad ks=true):∀j∈ks,j∉bad:=λj hj=>by simpa using all_eq_true.1 h j hj
theorem P6(hbad:∀j,j∉bad->fk≠some j/\¬kept os' j){d:DV X}{c:CT X.ι}{x:CT.T X.toSE c×List Bool}(hc:c.one=true)(h:RG get d c=some x)(hb:∀b∈x.2,b=true)(nf:∀j∈bk d,j∉bad):∃t,CT.tv X.toSE c x.1= .s t/\Px (fw get) fk os' (den d) t:=by
 obtain⟨t,h1,h2⟩:=row_one hc x.1;refine⟨t,h2,?_⟩;have hbase:∀y,Kj d c=some y->y=x.1->Px (fw get) fk os' (den d) t:=by
  intro y hy he;subst he;have h3:=vX hy;rw[h2]at h3;have h4:=abu hc hy;unfold Kj at hy;split at hy
  .rw[(oC hy).1];simp only[den,h2,TV.av,Px]
  .simp only[den,Gb.wk,TV.av,AV.t.injEq]at h3;simp only[den,Px];exact h3.symm
  .simp only[den,Gb.wk,TV.av,AV.t.injEq]at h3;simp only[den,Px];exact h3.symm
  .cases hy
 unfold RG at h;split at h
 .rename_i kk aa len e;rw[ai]at h;obtain⟨o,h3,h⟩:=h;split at h
  .rename_i b l0;rw[ai]at h;obtain⟨l,h4,h⟩:=h;cases h;have h5:(sub l aa len).length=len:=(by simpa[aE]using hb (aE (sub l aa len).length len) (by simp));have⟨h6,h7⟩:=jb h4;obtain⟨hf1,hf2⟩:=hbad kk (nf kk (by simp[bk]));simp only[den,Px];refine⟨hf1,hf2,bG (.en b l0),(sub l aa len).map (CT.row X.toSE e),by simp[fw,h3],?_,by simpa using h5,?_⟩
   .simp only[bG,h7];simp[aI,sub,map_take]
   .simpa[CT.row]using h1.symm
  .cases h
 .rename_i kk aa len;rw[ai]at h;obtain⟨o,h3,h⟩:=h;split at h
  .rename_i b l0;cases h;have h5:(sub l0 aa len).length=len:=(by simpa[aE]using hb (aE (sub l0 aa len).length len) (by simp));obtain⟨hf1,hf2⟩:=hbad kk (nf kk (by simp[bk]));simp only[den,Px];refine⟨hf1,hf2,bG (.en b l0),(sub l0 aa len).map (CT.row X.toSE b),by simp[fw,h3],?_,by simpa using h5,?_⟩
   .simp only[bG];simp[aI,sub,map_take,map_drop]
   .simpa[CT.row]using h1.symm
  .cases h
 .rename_i kk len e;rw[ai]at h;obtain⟨o,h3,h⟩:=h;split at h
  .rename_i b l0;have⟨l,h4,h⟩:=ai.1 h;cases h;have h5:(sub l 0 len).length=len:=(by simpa[aE]using hb (aE (sub l 0 len).length len) (by simp));have⟨h6,h7⟩:=jb h4;obtain⟨hf1,hf2⟩:=hbad kk (nf kk (by simp[bk]));simp only[den,Px];refine⟨hf1,hf2,bG (.en b l0),(sub l 0 len).map (CT.row X.toSE e),by simp[fw,h3],?_,by simpa using h5,?_⟩
   .simp only[bG,h7];simp[aI,sub,map_take,map_drop]
   .simpa[CT.row]using h1.symm
  .cases h
 .have⟨y,h3,h⟩:=ai.1 h;injection h with h;exact hbase y h3 (by rw[<- h])
theorem Lu(hbad:∀j,j∉bad->fk≠some j/\¬kept os' j):∀{ds:U (DV X)}{l:U (CT X.ι)}{h:HL X.toSE l×List Bool},wU get ds l=some h->(∀ b∈h.2,b=true)->l.all CT.one=true->(∀ j∈aR ds,j∉bad)->ll (fw get) fk os' (bQ ds) (HL.row X.toSE l h.1)
 |[],[],h,_,_,_,_=>trivial
 |d::ds,c::l,h,hr,hb,ha,nf=>by
  simp only[wU]at hr;have⟨x,h1,hr⟩:=ai.1 hr;have⟨g,h2,hr⟩:=ai.1 hr;cases hr;simp only[all_cons,aL]at ha;obtain⟨t,i1,i2⟩:=P6 hbad ha.1 h1 (λ b hb'=>hb b (by simp[hb'])) (λ j hj=>nf j (by simp[aR,hj]));have i3:=Lu hbad h2 (λ b hb'=>hb b (by simp[hb'])) ha.2 (λ j hj=>nf j (by simp[aR,hj]));obtain⟨t',j1,j2⟩:=row_one ha.1 x.1;rw[i1]at j2;cases j2;show ll (fw get) fk os' (den d::bQ ds) (CT.row X.toSE c x.1++HL.row X.toSE l g.1);rw[j1];exact⟨i2,i3⟩
 |[],_::_,_,hr,_,_,_=>by simp[wU]at hr
 |_::_,[],_,hr,_,_,_=>by simp[wU]at hr
theorem RS(hbad:∀j,j∉bad->fk≠some j/\¬kept os' j){row:U (DV X)}{c:CT X.ι}{x:CT.T X.toSE c×List Bool}(h:abK get row c=some x)(hb:∀b∈x.2,b=true)(nf:∀j∈aR row,j∉bad):ll (fw get) fk os' (bQ row) (CT.row X.toSE c x.1):=by
 cases c
 case st i=>
  replace h:(wU get row (X.cX i)).bind (λ h=>some (X.make i h.1,h.2))=some x:=h
  have⟨g,h1,h⟩:=ai.1 h;cases h;have:=Lu hbad h1 hb (X.flat i) nf;show ll (fw get) fk os' (bQ row) (X.row i (X.make i g.1));rw[X.gC];exact this
 all_goals
  match row,h,nf with
  |[d],h,nf=>
   obtain⟨t,i1,i2⟩:=P6 (fk:=fk) hbad rfl h hb (λ j hj=>nf j (by simp[aR,hj]));obtain⟨t',j1,j2⟩:=row_one rfl x.1;rw[i1]at j2;cases j2;rw[j1];exact⟨i2,trivial⟩
  |[],h,_=>cases h
  |_::_::_,h,_=>cases h
theorem Nk(hbad:∀j,j∉bad->fk≠some j/\¬kept os' j){c:CT X.ι}:∀{rows:U (List (DV X))}{x:U (CT.T X.toSE c)×List Bool},Ie get c rows=some x->(∀ b∈x.2,b=true)->(∀ j∈(rows.map aR).flatten,j∉bad)->eJ (fw get) fk os' (rows.map bQ) (x.1.map (CT.row X.toSE c))/\rows.length=List.length x.1
 |[],x,h,_,_=>by simp only[Ie,aA]at h;subst h;exact⟨trivial,rfl⟩
 |r::rs,x,h,hb,nf=>by
  simp only[Ie]at h;have⟨y,h1,h⟩:=ai.1 h;have⟨z,h2,h⟩:=ai.1 h;cases h;have i1:=RS hbad h1 (λ b hb'=>hb b (by simp[hb'])) (λ j hj=>nf j (by simp[hj]));obtain⟨i2,i3⟩:=Nk hbad h2 (λ b hb'=>hb b (by simp[hb'])) (λ j hj=>nf j (by simp only[aF,flatten_cons,aZ];exact .inr hj));exact⟨⟨i1,i2⟩,by simp[i3]⟩
theorem alA{x:AV}{t:Tree}(h:Px (fw get) fk os' x t):F1 (fw get) fk os' x (.d (.s t)):=by cases x<;>first |exact h |exact h.elim
theorem Eo(sz:CT X.ι)(l:U (CT.T X.toSE sz)):eJ (fw get) fk os' (aI (l.map (CT.row X.toSE sz))) (l.map (CT.row X.toSE sz)):=by
 generalize l.map (CT.row X.toSE sz)=rows
 induction rows with
 |nil=>trivial
 |cons r rs ih=>
  refine⟨?_,ih⟩;show ll (fw get) fk os' (r.map AV.t) r
  induction r with
  |nil=>trivial
  |cons y ys ih2=>exact⟨rfl,ih2⟩
theorem alB(hbad:∀j,j∉bad->fk≠some j/\¬kept os' j){c:CT X.ι}{d:DV X}{x:CT.T X.toSE c×List Bool}(h:FK get d c=some x)(nf:∀j∈bk d,j∉bad)(hb:∀b∈x.2,b=true):F1 (fw get) fk os' (den d) (.d (CT.tv X.toSE c x.1)):=by
 cases c
 case st i=>
  replace h:Z0 get d i=some x:=h
  cases d
  case agg cs=>
   simp only[Z0]at h;have⟨g,h1,h⟩:=ai.1 h;cases h;have:=Lu (fk:=fk) hbad h1 hb (X.flat i) (by simpa[bk]using nf);show ll (fw get) fk os' (bQ cs) (X.row i (X.make i g.1));rw[X.gC];exact this
  case c a y=>
   simp only[Z0]at h;have⟨z,h1,h⟩:=ai.1 h;cases h;rw[(oC h1).1];show ll (fw get) fk os' ((X.row i z).map AV.t) (X.row i z);generalize X.row i z=l
   induction l with
   |nil=>trivial
   |cons y ys ih=>exact⟨rfl,ih⟩
  all_goals cases h
 all_goals
  have⟨t,i1,i2⟩:=P6 (fk:=fk) hbad rfl h hb nf;rw[i1];exact alA i2
theorem WB{rk:U Nat}{wl:U (Nat×Nat)}{ns:U Nat}{n:Nat}(hbad:∀j,j∉bad->fk≠some j/\¬kept os' j)(q6:∀k,fk=some k->¬kept os' k)(hns:∀j eE,j∈rk->lk wl j=some eE->ns.getD j 0=eE)(hmu:∀j∈rk,kept os' j){q:RT X.ι}{ds:U (DV X)}{p:(RT.T X q×List Bool)×List (DV X)}(h:Ni get bad rk fk wl n q ds=some p)(hb:∀b∈p.1.2,b=true):
 (∀ cs,nq (fw get) fk os' (bQ p.2) cs->nq (fw get) fk os' (bQ ds) (VQ ns q p.1.1++cs))/\
 (∀ t,ql q p.1.1=[some t]->∃o,get n=some o/\(bG o).sz=t.1/\eJ (fw get) fk os' ((bG o).rows.take t.2.length) t.2)/\
 (∀ eE c,q= .mu c->lk wl n=some eE->YO q p.1.1=[eE]):=by
 cases q
 case d c=>
  cases ds with
  |nil=>simp[Ni]at h
  |cons d ds=>
   simp only[Ni]at h;split at h
   .rename_i hnb;rw[ai]at h;obtain⟨x,h1,h⟩:=h;cases h;exact⟨λ cs hcs=>⟨alB hbad h1 (En hnb) hb,hcs⟩,λt ht=>by simp[ql]at ht,λ_ _ h=>by cases h⟩
   .cases h
 case fresh e=>
  cases ds with
  |nil=>simp[Ni]at h
  |cons d ds=>
   refine⟨λ cs hcs=>?_,λt ht=>by simp[ql]at ht,λ_ _ h=>by cases h⟩;simp only[Ni]at h;split at h
   .cases h;exact⟨rfl,hcs⟩
   .rename_i k len;split at h
    .rename_i nf;rw[ai]at h;obtain⟨o,h1,h⟩:=h;split at h
     .rename_i b l0;rw[ai]at h;obtain⟨l,h2,h⟩:=h;cases h;have⟨h3,h4⟩:=jb h2;have h5:(sub l 0 len).length=len:=(by simpa[aE]using hb (aE (sub l 0 len).length len) (by simp));refine⟨⟨nf,q6 k nf,rfl,bG (.en b l0),by simp[fw,h1],by simp only[bG];exact h3,?_,by simpa using h5⟩,hcs⟩;have e1:(bG (.en b l0)).rows.take len=aI ((sub l 0 len).map (CT.row X.toSE e)):=by
       simp only[bG,h4];simp[aI,sub,map_take]
      rw[e1];exact Eo e _
     .rename_i sz rows;split at h
      .rename_i hc;rw[ai]at h;obtain⟨x,h2,h⟩:=h;cases h;obtain⟨i1,i2⟩:=Nk (fk:=fk) hbad h2 (λ b hb'=>hb b (by simp[hb'])) (En hc.2);have h5:len=List.length x.1:=(by simpa[aE]using hb (aE len (List.length x.1)) (by simp));refine⟨⟨nf,q6 k nf,rfl,bG (.cells sz rows),by simp[fw,h1],hc.1,?_,by simpa using h5.symm⟩,hcs⟩;simp only[bG];rw[List.take_of_length_le (by simp;omega)];exact i1
      .cases h
     .cases h
    .cases h
   .cases h
 case whole j=>
  cases ds with
  |nil=>simp[Ni]at h
  |cons d ds=>
   refine⟨λ cs hcs=>?_,λt ht=>by simp[ql]at ht,λ_ _ h=>by cases h⟩;simp only[Ni]at h;split at h
   .rename_i k len;split at h
    .rename_i hc;obtain⟨rfl,hm⟩:=hc;rw[ai]at h;obtain⟨eE,h1,h⟩:=h;cases h;have h5:len=eE:=(by simpa[aE]using hb (aE len eE) (by simp));have hm:k∈rk:=(by simpa using hm);refine⟨⟨rfl,rfl,?_,hmu k hm⟩,hcs⟩;rw[h5];exact hns k eE hm h1
    .cases h
   .cases h
 case mu c=>
  simp only[Ni]at h;rw[ai]at h;obtain⟨o,h1,h⟩:=h;split at h
  .rename_i b l0;rw[ai]at h;obtain⟨l,h2,h⟩:=h;have⟨h3,h4⟩:=jb h2;split at h
   .rename_i len hl;cases h;have h5:(sub l 0 len).length=len:=(by simpa[aE]using hb (aE (sub l 0 len).length len) (by simp));refine⟨λ cs hcs=>hcs,λt ht=>?_,λeE c' _ hl'=>?_⟩
    .simp only[ql,List.cons.injEq,aA,and_true]at ht;subst ht;refine⟨_,h1,by simp only[bG,rG];exact h3,?_⟩;have e1:(bG (.en b l0)).rows.take (rG c (sub l 0 len)).2.length=aI (rG c (sub l 0 len)).2:=by
      simp only[bG,h4,rG,length_map,h5];simp[aI,sub,map_take]
     rw[e1];exact Eo c _
    .rw[hl]at hl';injection hl' with hl';subst hl';simp only[YO,h5]
   .rename_i hl;cases h;refine⟨λ cs hcs=>hcs,λt ht=>?_,λeE c' _ hl'=>by rw[hl]at hl';cases hl'⟩;simp only[ql,List.cons.injEq,aA,and_true]at ht;subst ht;refine⟨_,h1,by simp only[bG,rG];exact h3,?_⟩;have e1:(bG (.en b l0)).rows.take (rG c l).2.length=aI (rG c l).2:=by
     simp only[bG,h4,rG];rw[List.take_of_length_le (by simp[aI])]
    rw[e1];exact Eo c _
  .cases h
 case mr c=>
  simp only[Ni]at h;rw[ai]at h;obtain⟨o,h1,h⟩:=h;split at h
  .rename_i sz row;split at h
   .rename_i hc;have⟨x,h2,h⟩:=ai.1 h;cases h;refine⟨λ cs hcs=>hcs,λt ht=>?_,λ_ _ h=>by cases h⟩;simp only[ql,List.cons.injEq,aA,and_true]at ht;subst ht;refine⟨_,h1,by simp only[bG,rG];exact hc.1,?_⟩;exact⟨RS hbad h2 hb (En hc.2),trivial⟩
   .cases h
  .cases h
 case mv=>
  simp only[Ni,aA]at h;subst h;exact⟨λ cs hcs=>hcs,λt ht=>by simp[ql]at ht,λ_ _ h=>by cases h⟩
theorem Ig{q:RT X.ι}{x:RT.T X q}:(ql q x).length=(if q.out then 1 else 0)/\(YO q x).length=(if q.out then 1 else 0):=by cases q<;>exact⟨rfl,rfl⟩
theorem Ih{n j:Nat}{q:RT X.ι}{l:U (RT X.ι)}:j∈sf n (q::l)->(j=n/\∃c,q= .mu c)\/j∈sf (if q.out then n+1 else n) l:=by
 cases q<;>simp only[sf,RT.out,if_true,Bool.false_eq_true,if_false,aO]
 case mu c=>exact λh=>h.imp (λ h=>⟨h,c,rfl⟩) id
 all_goals exact .inr
theorem agH{j:Nat}:∀{l:U (RT X.ι)}{n:Nat},j∈sf n l->n<=j
 |[],n,h=>by simp[sf]at h
 |q::l,n,h=>by
  rcases Ih h with ⟨rfl,_⟩ |h
  .exact aD _
  .have:=agH h;split at this<;>omega
theorem ad4:∀{l:U (RT X.ι)}{x:sM X l}{n j:Nat},j∈sf n l->∃p,(nV l x)[j -n]? =some (some p)
 |[],x,n,j,h=>by simp[sf]at h
 |[q],x,n,j,h=>by
  rcases Ih h with ⟨rfl,c,rfl⟩ |h
  .exact⟨_,by simp only[Nat.sub_self];rfl⟩
  .simp[sf]at h
 |q::q'::l,x,n,j,h=>by
  rcases Ih h with ⟨rfl,c,rfl⟩ |h
  .exact⟨_,by simp only[Nat.sub_self];rfl⟩
  .have⟨p,hp⟩:=ad4 (l:=q'::l) (x:=x.2) h;have hge:=agH h;refine⟨p,?_⟩;show(ql q x.1++nV (q'::l) x.2)[j -n]? =_;have hl:=(Ig (q:=q) (x:=x.1)).1;split at hl
   .rename_i e;rw[aX e]at hp hge;rw[jw (by omega),hl,show j -n -1=j -(n+1)by omega];exact hp
   .rename_i e;rw[aS e]at hp hge;rw[jw (by omega),hl,Nat.sub_zero];exact hp
theorem CQ:∀{l:U (RT X.ι)}{x:sM X l}{n j:Nat}{p:fu},(nV l x)[j]? =some (some p)->n+j∈wB n l
 |[],x,n,j,p,h=>by simp[nV]at h
 |[q],x,n,j,p,h=>by
  have h:(ql q x)[j]? =some (some p):=h;cases q<;>simp only[ql,List.getElem?_nil,reduceCtorEq]at h
  case mu c=>cases j<;>simp at h<;>simp[wB]
  case mr c=>cases j<;>simp at h<;>simp[wB]
  case mv=>cases j<;>simp at h
 |q::q'::l,x,n,j,p,h=>by
  have h:(ql q x.1++nV (q'::l) x.2)[j]? =some (some p):=h;cases q
  case mu c=>
   cases j with
   |zero=>simp[wB]
   |succ j=>
    have:=CQ (l:=q'::l) (x:=x.2) (n:=n+1) (by simpa[ql]using h);simp only[wB,aO];right;rw[show n+(j+1)=n+1+j by omega];exact this
  case mr c=>
   cases j with
   |zero=>simp[wB]
   |succ j=>
    have:=CQ (l:=q'::l) (x:=x.2) (n:=n+1) (by simpa[ql]using h);simp only[wB,aO];right;rw[show n+(j+1)=n+1+j by omega];exact this
  case mv=>
   cases j with
   |zero=>simp[ql]at h
   |succ j=>
    have:=CQ (l:=q'::l) (x:=x.2) (n:=n+1) (by simpa[ql]using h);simp only[wB];rw[show n+(j+1)=n+1+j by omega];exact this
  all_goals
   simp only[wB];exact CQ (l:=q'::l) (x:=x.2) (by simpa[ql]using h)
theorem ad5{rk:U Nat}{wl:U (Nat×Nat)}{n:Nat}{q:RT X.ι}{ds:U (DV X)}{p:(RT.T X q×List Bool)×List (DV X)}(h:Ni get bad rk fk wl n q ds=some p)(hb:∀b∈p.1.2,b=true):∀eE c,q= .mu c->lk wl n=some eE->YO q p.1.1=[eE]:=by
 rintro eE c rfl hl;simp only[Ni]at h;rw[ai]at h;obtain⟨o,h1,h⟩:=h;split at h
 .rename_i b l0;have⟨l,h2,h⟩:=ai.1 h;rw[hl]at h;cases h;have h5:(sub l 0 eE).length=eE:=by simpa[aE]using hb (aE (sub l 0 eE).length eE) (by simp)
  simp only[YO,h5]
 .cases h
theorem Lv{rk:U Nat}{wl:U (Nat×Nat)}:∀{n:Nat}{l:U (RT X.ι)}{ds:U (DV X)}{x:sM X l×List Bool},Nj get bad rk fk wl n l ds=some x->(∀ b∈x.2,b=true)->∀j eE,n+j∈sf n l->lk wl (n+j)=some eE->(yl l x.1).getD j 0=eE
 |n,[],ds,x,h,hb,j,eE,hm,_=>by simp[sf]at hm
 |n,[q],ds,x,h,hb,j,eE,hm,hl=>by
  simp only[Nj]at h;have⟨p,h1,h⟩:=ai.1 h;split at h
  .cases h;rcases Ih hm with ⟨e,c,rfl⟩ |hm
   .have e:j=0:=(by omega);subst e;have:=(ad5 h1 hb) eE c rfl hl;show(YO _ p.1.1).getD 0 0=eE;rw[this];rfl
   .simp[sf]at hm
  .cases h
 |n,q::q'::l,ds,x,h,hb,j,eE,hm,hl=>by
  simp only[Nj]at h;have⟨p,h1,h⟩:=ai.1 h;have⟨y,h2,h⟩:=ai.1 h;cases h;have hlen:=(Ig (q:=q) (x:=p.1.1)).2;rcases Ih hm with ⟨e,c,rfl⟩ |hm
  .have e:j=0:=(by omega);subst e;have:=(ad5 h1 (λ b hb'=>hb b (by simp[hb']))) eE c rfl hl;show(YO _ p.1.1++yl (q'::l) y.1).getD 0 0=eE;rw[this];rfl
  .have hge:=agH hm;show(YO _ p.1.1++yl (q'::l) y.1).getD j 0=eE;by_cases hq:q.out=true
   .rw[aX hq]at h2 hm hge hlen;have:=Lv h2 (λ b hb'=>hb b (by simp[hb'])) (j -1) eE (by rw[show n+1+(j -1)=n+j by omega];exact hm) (by rw[show n+1+(j -1)=n+j by omega];exact hl);rw[List.getD_eq_getElem?_getD,jw (by omega),hlen,<- List.getD_eq_getElem?_getD];exact this
   .rw[aS hq]at h2 hm hge hlen;have:=Lv h2 (λ b hb'=>hb b (by simp[hb'])) j eE hm hl;rw[List.getD_eq_getElem?_getD,jw (by omega),hlen,Nat.sub_zero,<- List.getD_eq_getElem?_getD];exact this
theorem aaq{rk:U Nat}{wl:U (Nat×Nat)}{ns:U Nat}(hbad:∀j,j∉bad->fk≠some j/\¬kept os' j)(q6:∀k,fk=some k->¬kept os' k)(hns:∀j eE,j∈rk->lk wl j=some eE->ns.getD j 0=eE)(hmu:∀j∈rk,kept os' j):∀{n:Nat}{l:U (RT X.ι)}{ds:U (DV X)}{x:sM X l×List Bool},Nj get bad rk fk wl n l ds=some x->(∀ b∈x.2,b=true)->
 nq (fw get) fk os' (bQ ds) (Bd ns l x.1)/\∀j t,(nV l x.1)[j]? =some (some t)->∃o,get (n+j)=some o/\(bG o).sz=t.1/\eJ (fw get) fk os' ((bG o).rows.take t.2.length) t.2
 |n,[],ds,x,h,_=>by
  simp only[Nj]at h;split at h
  .exact⟨trivial,λj t ht=>by simp[nV]at ht⟩
  .cases h
 |n,[q],ds,x,h,hb=>by
  simp only[Nj]at h;rw[ai]at h;obtain⟨p,h1,h⟩:=h;split at h
  .rename_i hp;cases h;have⟨i1,i2,_⟩:=WB (ns:=ns) hbad q6 hns hmu h1 hb;rw[hp]at i1;have:=i1 [] trivial;rw[append_nil]at this;refine⟨this,λj t ht=>?_⟩;have ht:(ql q p.1.1)[j]? =some (some t):=ht;have hl:=(Ig (q:=q) (x:=p.1.1)).1;have hj:=(dH.1 ht).1;have hj0:j=0:=(by split at hl<;>omega);subst hj0;refine i2 t ?_
   match ho:ql q p.1.1,ht,hl with
   |[z],ht,_=>simpa using ht
   |[],ht,_=>simp at ht
   |_::_::_,_,hl=>simp only[bC]at hl;split at hl<;>omega
  .cases h
 |n,q::q'::l,ds,x,h,hb=>by
  simp only[Nj]at h;have⟨p,h1,h⟩:=ai.1 h;have⟨y,h2,h⟩:=ai.1 h;cases h;obtain⟨i1,i2,_⟩:=WB (ns:=ns) hbad q6 hns hmu h1 (λ b hb'=>hb b (by simp[hb']));obtain⟨k1,k2⟩:=aaq (ns:=ns) hbad q6 hns hmu h2 (λ b hb'=>hb b (by simp[hb']));refine⟨i1 _ k1,λj t ht=>?_⟩;have ht:(ql q p.1.1++nV (q'::l) y.1)[j]? =some (some t):=ht;have hl:=(Ig (q:=q) (x:=p.1.1)).1;by_cases hq:q.out=true
  .rw[aX hq]at k2 hl;cases j with
   |zero=>
    refine i2 t ?_
    match ho:ql q p.1.1,ht,hl with
    |[z],ht,_=>simpa using ht
    |[],_,hl=>simp at hl
    |_::_::_,_,hl=>simp at hl
   |succ j=>
    rw[jw (by omega),hl,Nat.add_sub_cancel]at ht;rw[show n+(j+1)=n+1+j by omega];exact k2 j t ht
  .rw[aS hq]at k2 hl;rw[jw (by omega),hl,Nat.sub_zero]at ht;exact k2 j t ht
end
theorem nq.R{get:Nat->J aT}{fk:J Nat}{os':U (Option fu)}:∀{xs:U AV}{cs:U RC},nq get fk os' xs cs->F0 get fk os' xs (match cs with |[c]=> .one c |cs=> .eV cs)
 |[],[],_=>rfl
 |[_],[_],h=>h.1
 |_::_::_,_::_::_,h=>h
 |[],_::_,h=>h.elim
 |_::_,[],h=>h.elim
 |[_],_::_::_,h=>h.2.elim
 |_::_::_,[_],h=>h.2.elim
theorem alC{s:dE X}{rs:U ResultVar}{l:U (RT X.ι)}{r:sM X l}(h:(YT T s rs λds=>(PP s l ds).bind λx=>VB x.2 (some x.1))=some r):∃xs fk,nD T s.st rs=some xs/\F0 s.st.obj fk (nV l r) xs (sV l r)/\NB s.st.obj fk (nV l r):=by
 have⟨ds,h1,h⟩:=JO T h;rw[ai]at h;obtain⟨x,h2,h⟩:=h;have⟨h3,h⟩:=pR h;cases h;unfold PP at h2;split at h2
 .rename_i hnb;have hkn:∀j,kept (nV l x.1) j->j∈wB 0 l:=λj ⟨p,hp⟩=>by
   have:=CQ (n:=0) hp;simpa using this
  have hbad:∀j,j∉wB 0 l++(P5 l ds).toList->P5 l ds≠some j/\¬kept (nV l x.1) j:=by
   intro j hj;simp only[aZ,Option.mem_toList,not_or]at hj;exact⟨hj.2,λh=>hj.1 (hkn j h)⟩
  have q6:∀k,P5 l ds=some k->¬kept (nV l x.1) k:=λk hk hkk=>En hnb k (by simp[hk]) (hkn k hkk);have hmu:∀j∈sf 0 l,kept (nV l x.1) j:=λj hj=>by
   have⟨p,hp⟩:=ad4 (x:=x.1) hj;exact⟨p,by simpa using hp⟩
  obtain⟨i1,i2⟩:=aaq (ns:=yl l x.1) hbad q6 (λ j eE hj hl=>Lv h2 h3 j eE (by simpa using hj) (by simpa using hl)) hmu h2 h3;have hZ:s.st.obj=fw (ie s.obj):=rfl;refine⟨bQ ds,P5 l ds,PZ T h1,?_,λj p hp=>?_⟩
  .rw[hZ];exact i1.R
  .have⟨o,g1,g2,g3⟩:=i2 j p hp;rw[Nat.zero_add]at g1;exact⟨λ e=>q6 j e ⟨p,hp⟩,bG o,by rw[hZ];simp[fw,g1],g2,by rw[hZ];exact g3⟩
 .cases h2
variable {Γ:FuncId->Option (cp X)} {am:TypeId->Option (CT X.ι)} {P:Program}
theorem ap6(hT : fe P T)(hm : P.follows .mixedOrders = true)(hΓ : sC P Γ){f : FuncId}{fn : Func}{c : Code}(hfn : P.funcs[f]? = some fn)(hb : fn.body = some c)(hname : (fn.name == "runtime.NumGoroutine") = false)(sa : U (AT X.ι))(sr : U (RT X.ι))(hN : sa.length <= fn.ntmps /\ qm sa <= 1000 /\ (sr.filter RT.out).length = qm sa)
 (h:Hn X.ι) (n:Nat) {a:iD X sa} {r:sM X sr} (hr:run Γ T am fn.ntmps n c (sM X sr) h (xf sa a) (ap5 T fn.results.toList sr)=some r):qq P f (wm sa a) (qj sa a) (nV sr r) (sV sr r):=by
 have hl:(nV sr r).length=(qj sa a).length:=by
  rw[lg,<- hN.2.2];have:∀(sr:U (RT X.ι))(r:sM X sr),(nV sr r).length=(sr.filter RT.out).length:=by
   intro sr
   induction sr with
   |nil=>intro r;rfl
   |cons q l ih=>
    intro r;have hq:∀x:RT.T X q,(ql q x).length=(if q.out then 1 else 0):=λx=>Ig.1;cases l with
    |nil=>
     show(ql q r).length=_;rw[hq];by_cases e:q.out=true<;>simp[e]
    |cons q' l=>
     show(ql q r.1++nV (q'::l) r.2).length=_;rw[dM,hq,ih r.2];by_cases e:q.out=true<;>simp[List.filter_cons,e];omega
  exact this sr r
 refine ajm hT hfn hb hname (by rw[kZ];exact hN.1) (λ k hk=>?_) (by rw[lg];exact hN.2.1) hl ?_
 .rw[wm,<- rY,gX]at hk;have:=o8 0 sa a k hk;have:=hN.2.1;omega
 .rw[<- apr];refine(kL hT hm hΓ c _ h _ _ r (anT sa a hN.2.1) hr).mono ?_;rintro e σ ⟨s',_,_,rfl,g4⟩;cases e<;>first |exact alC g4 |cases g4
theorem nk{f : FuncId}{fn : Func}{c : Code}(hfn : P.funcs[f]? = some fn)(hb : fn.body = some c)(hname : (fn.name == "runtime.NumGoroutine") = false): eU P f := ⟨fn, hfn, by rw [hb]; rfl, hname⟩
abbrev AH(P:Program)(f:FuncId)(s:cp X):Prop:=eU P f/\(∀ a r,s.fn a=some r->qq P f (wm s.args a) (qj s.args a) (nV s.res r) (sV s.res r))/\∀g,s.gen=some g->FF P f g
theorem zz{P:Program}{f:FuncId}{s:cp X}(h:eU P f)(h1:∀a r,s.fn a=some r->qq P f (wm s.args a) (qj s.args a) (nV s.res r) (sV s.res r))(hg:s.gen=none):AH P f s:=⟨h,h1,λg e=>by rw[hg]at e;cases e⟩
theorem MY{P:Program}{f:FuncId}{g:df X}(h:eU P f)(hg:FF P f g):AH P f ⟨[],[.d .bool],λ_=>none,some g⟩:=⟨h,λ_ _ e=>(by cases e),λ_ e=>(by cases e;exact hg)⟩
def pd(s t:cp X):cp X:=⟨s.args,s.res,s.fn,t.gen⟩
def xr(l:U (FuncId×cp X)):FuncId->J (cp X):=λf=>lk l f
theorem aB:sC P (xr ([]:U (FuncId×cp X))):=λ_ _ h=>by cases h
theorem au{f:FuncId}{s:cp X}{l:U (FuncId×cp X)}(h:AH P f s)(hl:sC P (xr l)):sC P (xr ((f,s)::l)):=by
 intro g q hg;simp only[xr,lk]at hg;split at hg
 .rename_i e;cases hg;subst e;exact h
 .exact hl g q hg
end
section
variable {X:SX} {T:eo}
theorem Lx(ol:Nat->Nat):∀(ps:U (Pt X.ι))(L:U (DC X)),(ly ol ps L).1.length=ps.length
 |[],_=>rfl
 |p::ps,L=>by simp only[ly,bC,Lx ol ps]
def df.A1(g:df X):Bool:=
 decide (g.j0.map (·.1)=List.range g.j0.length)&&decide (g.j0.length<=1000)&&((Be g.pL).all λk=>Nat.blt k 1000)&&g.j0.all λq=>q.2.refs.all λk=>Nat.blt k 1000
def GB(g:df X)(v:VT (X:=X) (cW g.pL++cQ g.j0)):dE X:=⟨(List.range g.pL.length).zip (g.args v),LN g.pL g.j0 (vZ _ v),1000,[]⟩
theorem uX{ol:Nat->Nat}:∀(O:U (Nat×OP X.ι))(L:U (DC X)),dD ol O L=(dK (dD ol O L)).map λp=>(p.1,some p.2)
 |[],L=>rfl
 |(k,.l c)::O,L=>by
  match L with
  |[]=>rfl
  |⟨.sl c',x⟩::L=>simp only[dD,dK,aF];rw[<- uX O L]
  |⟨.int _,x⟩::L=>rfl
  |⟨.bool,x⟩::L=>rfl
  |⟨.str,x⟩::L=>rfl
  |⟨.any,x⟩::L=>rfl
  |⟨.st _,x⟩::L=>rfl
  |⟨.mp _ _,x⟩::L=>rfl
 |(k,.m kc vc)::O,L=>by
  match L with
  |[]=>rfl
  |⟨.mp _ _,x⟩::L=>simp only[dD,dK,aF];rw[<- uX O L]
  |⟨.sl _,x⟩::L=>rfl
  |⟨.int _,x⟩::L=>rfl
  |⟨.bool,x⟩::L=>rfl
  |⟨.str,x⟩::L=>rfl
  |⟨.any,x⟩::L=>rfl
  |⟨.st _,x⟩::L=>rfl
 |(k,.c sz rows)::O,L=>by simp only[dD,dK,aF];rw[<- uX O _]
theorem Ep{ol:Nat->Nat}:∀(O:U (Nat×OP X.ι))(L:U (DC X)),L.map (·.c)=cQ O->(dK (dD ol O L)).map (·.1)=O.map (·.1)
 |[],L,_=>rfl
 |(k,.l c)::O,L,h=>by
  match L,h with
  |⟨.sl c',x⟩::L,h=>
   simp only[aF,cQ,List.cons.injEq]at h;simp only[dD,dK,aF,Ep O L h.2]
  |[],h=>simp[cQ]at h
  |⟨.int _,x⟩::L,h=>simp[cQ]at h
  |⟨.bool,x⟩::L,h=>simp[cQ]at h
  |⟨.str,x⟩::L,h=>simp[cQ]at h
  |⟨.any,x⟩::L,h=>simp[cQ]at h
  |⟨.st _,x⟩::L,h=>simp[cQ]at h
  |⟨.mp _ _,x⟩::L,h=>simp[cQ]at h
 |(k,.m kc vc)::O,L,h=>by
  match L,h with
  |⟨.mp _ _,x⟩::L,h=>
   simp only[aF,cQ,List.cons.injEq]at h;simp only[dD,dK,aF,Ep O L h.2]
  |[],h=>simp[cQ]at h
  |⟨.sl _,x⟩::L,h=>simp[cQ]at h
  |⟨.int _,x⟩::L,h=>simp[cQ]at h
  |⟨.bool,x⟩::L,h=>simp[cQ]at h
  |⟨.str,x⟩::L,h=>simp[cQ]at h
  |⟨.any,x⟩::L,h=>simp[cQ]at h
  |⟨.st _,x⟩::L,h=>simp[cQ]at h
 |(k,.c sz rows)::O,L,h=>by
  simp only[cQ]at h;simp only[dD,dK,aF,Ep O _ (Lr (ol:=ol) rows L _ h).1]
theorem ajQ(g:df X)(v:VT (X:=X) (cW g.pL++cQ g.j0))(h:g.j0.map (·.1)=List.range g.j0.length):(g.cP v).map (·.1)=List.range (g.cP v).length:=by
 have e:(g.cP v).map (·.1)=g.j0.map (·.1):=Ep g.j0 _ (by rw[map_drop,agB,List.drop_left]);have l:=congrArg List.length e;rw[length_map,length_map]at l;rw[e,h,l]
theorem WC(k:Nat):∀l:U (Nat×bm X),ie (l.map λp=>(p.1,some p.2)) k=tz l k
 |[]=>rfl
 |p::l=>by
  simp only[aF,ie,lk,tz];split
  .rfl
  .exact WC k l
theorem alD(t:Nat):∀(ks:U Nat)(ds:U (DV X)),den (fi (ks.zip ds) t)=(lk (ks.zip (bQ ds)) t).getD .undef:=by
 intro ks
 induction ks with
 |nil=>intro ds;rfl
 |cons k ks ih=>
  intro ds;cases ds with
  |nil=>rfl
  |cons d ds=>
   simp only[List.zip_cons_cons,fi,lk,bQ];by_cases h:k=t
   .simp[h]
   .simp only[aS h];exact ih ds
theorem aar(t:Nat):∀(ks:U Nat)(ds:U (DV X)),∀j∈bk (fi (ks.zip ds) t),j∈aR ds:=by
 intro ks
 induction ks with
 |nil=>intro ds j hj;simp[fi,lk,bk]at hj
 |cons k ks ih=>
  intro ds j hj;cases ds with
  |nil=>simp[fi,lk,bk]at hj
  |cons d ds=>
   simp only[List.zip_cons_cons,fi,lk]at hj;simp only[aR,aZ];by_cases e:k=t
   .simp only[aX e,Option.getD_some]at hj;exact .inl hj
   .simp only[aS e]at hj;exact .inr (ih ds j hj)
def Er(O:U (Nat×OP X.ι)):U (Nat×Pt X.ι)->U (Nat×CT X.ι)
 |[]=>[]
 |(t,.o k)::r=>match lk O k with
  |some (.l c)=>(t,c)::Er O r
  |_=>Er O r
 |(t,.oz k)::r=>match lk O k with
  |some (.l c)=>(t+1099511627776,c)::Er O r
  |_=>Er O r
 |_::r=>Er O r
def WE(O:U (Nat×OP X.ι)):U (Nat×OP X.ι)->U (Nat×CT X.ι)
 |(q,.c _ [row])::r=>(Er O (lE (1000000+q*4096) row)).filter (λ p=>Nat.ble p.1 1000000000)++WE O r
 |_::r=>WE O r
 |[]=>[]
def Ae(g:df X):Sh X.ι:=⟨lE 0 g.ga,g.ju,[],[],1000000,Er g.ju (lE 0 g.ga)++WE g.ju g.ju⟩
def ao2(T:eo)(rs:U ResultVar)(g:df X):Exit->dE X->J (VT (X:=X) (Ae g).vars)
 | .normal,s=>YT T s rs λds=>bif decide (ds.length=g.ga.length)&&(aR ds).all (λ k=>Nat.blt k s.nx)then
  qo (Ae g) (List.range ds.length) ⟨(List.range ds.length).zip ds,s.obj,s.nx,s.log⟩ ⟨(List.range ds.length).zip ds,s.obj,s.nx,s.log⟩ some else none
 | .ret,s=>YT T s rs λds=>bif decide (ds.length=g.ga.length)&&(aR ds).all (λ k=>Nat.blt k s.nx)then
  qo (Ae g) (List.range ds.length) ⟨(List.range ds.length).zip ds,s.obj,s.nx,s.log⟩ ⟨(List.range ds.length).zip ds,s.obj,s.nx,s.log⟩ some else none
 |_,_=>none
theorem WG{ol:Nat->Nat}(t:Nat):∀(n:Nat)(ps:U (Pt X.ι))(L:U (DC X)),fi (Lp ol (lE n ps) L) (n+t)=((ly ol ps L).1[t]?).getD .undef
 |n,[],L=>by simp[lE,Lp,fi,lk,ly]
 |n,p::ps,L=>by
  simp only[lE,Lp,fi,lk,ly];cases t with
  |zero=>simp
  |succ t=>
   rw[aS (by omega)];have:=WG (ol:=ol) t (n+1) ps (eP ol p L).2;rw[show n+1+t=n+(t+1)by omega]at this;simpa[fi]using this
theorem ajR {P:Program} {g:df X} {s:dE X} {rs:U ResultVar} {r:VT (X:=X) (Ae g).vars} (hl:Low s) (h:(YT T s rs λds=>bif decide (ds.length=g.ga.length)&&(aR ds).all (λ k=>Nat.blt k s.nx)then
 qo (Ae g) (List.range ds.length) ⟨(List.range ds.length).zip ds,s.obj,s.nx,s.log⟩ ⟨(List.range ds.length).zip ds,s.obj,s.nx,s.log⟩ some else none)=some r):
 ∃xs,nD T s.st rs=some xs/\Nx P s.st.obj xs (sU (g.outs r)) (den (g.res r)):=by
 have⟨ds,h1,h⟩:=JO T h;have⟨h2,h⟩:=d9 h;simp only[aL,aV]at h2;obtain⟨h2,h3⟩:=h2;have hl':Low (⟨(List.range ds.length).zip ds,s.obj,s.nx,s.log⟩:dE X):=⟨hl.le,hl.ge,λt k hk=>by
  have:=all_eq_true.1 h3 k (aar t _ _ k hk);exact Nat.blt_eq.mp this,hl.obj⟩
 obtain⟨v,h4,_,_,hrel⟩:=kY hl' hl' (Ext.refl _ _) h;injection h4 with h4;subst h4;refine⟨bQ ds,PZ T h1,λw0 O0 β I w vs hM hv=>?_⟩;have hvl:=bj.length _ _ hv;simp only[Array.length_toList,kV]at hvl;have hR:Rel P w0 O0 vs.size β I (⟨(List.range ds.length).zip ds,s.obj,s.nx,s.log⟩:dE X).st { tmps:=vs,defers:=[] } w:=by
  refine⟨rfl,rfl,λt=>?_,hM⟩;show VR P β w I (den (fi ((List.range ds.length).zip ds) t)) (vs.getD t undef);rw[alD,show List.range ds.length=List.range (bQ ds).length by rw[kV],Bb];cases ht:(bQ ds)[t]? with
  |none=>simp[VR]
  |some x=>
   obtain⟨u,g1,g2⟩:=bj.get _ _ t _ hv ht;rw[Array.getElem?_toList]at g1;simp only[Option.getD_some,Array.getD_eq_getD_getElem?,g1];exact g2
 obtain⟨β',hR'⟩:=hrel P w0 O0 _ β I _ w hR;have hn:(ir (lE 0 g.ga)).length=(cW g.ga).length:=by rw[PN]
 refine⟨β',I,?_,λ_ h=>h,?_⟩
 .have:=hR'.mem;have e:(encS (Ae g) ⟨(List.range ds.length).zip ds,s.obj,s.nx,s.log⟩ v).st.obj=oc (sU (g.outs v)):=by
   funext k;simp only[dE.st,encS,Ae,map_nil,append_nil,PV,df.outs,LN];rw[uX,WC,<- hn];rfl
  rw[e]at this;exact this
 .obtain⟨pv,hpv⟩:∃pv,pv=VP g.ga g.ju (vZ (Ae g).vars v):=⟨_,rfl⟩;have hres:g.res v=yJ pv:=by rw[hpv];rfl
  have ra:∀t,VR P β' w I (den ((pv[t]?).getD .undef)) (vs.getD t undef):=by
   intro t;have:=hR'.env t;simp only[dE.st,fg,encS,Ae,map_nil,append_nil]at this;have e:=WG (ol:=Ee g.ju ((vZ (Ae g).vars v).drop (cW g.ga).length)) t 0 g.ga ((vZ (Ae g).vars v).take (cW g.ga).length);rw[Nat.zero_add]at e;rw[hpv];simp only[VP];rw[<- e,<- hn];exact this
  have hpl:pv.length=g.ga.length:=by rw[hpv];exact Lx _ _ _
  have hsz:vs.size=pv.length:=by rw[hpl,<- h2,hvl]
  rw[hres];have hall:bj P β' w I (bQ pv) vs.toList:=by
   have gen:∀(pv:U (DV X)) (us:U Value),us.length=pv.length->(∀ t,t<pv.length->VR P β' w I (den ((pv[t]?).getD .undef)) (us.getD t undef))->bj P β' w I (bQ pv) us:=by
    intro pv
    induction pv with
    |nil=>intro us hl _;cases us<;>simp_all [bQ,bj]
    |cons d pv ih=>
     intro us hl hh;cases us with
     |nil=>simp at hl
     |cons u us=>
      simp only[bQ,bj];refine⟨by simpa using hh 0 (by simp),ih us (by simpa using hl) λt ht=>by simpa using hh (t+1) (by simpa using ht)⟩
   refine gen pv vs.toList (by simpa using hsz) λt ht=>?_;have e:vs.toList.getD t undef=vs.getD t undef:=(by simp[List.getD_eq_getElem?_getD,Array.getD_eq_getD_getElem?]);rw[e];exact ra t
  match pv,hsz,hall with
  |[d],hsz,hall=>
   obtain⟨u,rfl⟩:=Array.size_eq_one_iff.1 (show vs.size=1 by simpa using hsz);simp only[bQ,bj]at hall;simpa[yJ]using hall.1
  |[],hsz,hall=>
   have h1:¬vs.size=1:=(by rw[hsz];simp);rw[dif_neg h1];simp only[yJ,den,VR];exact⟨vs,rfl,hall⟩
  |d::e::pv,hsz,hall=>
   have h1:¬vs.size=1:=(by rw[hsz];simp);rw[dif_neg h1];simp only[yJ,den,VR];exact⟨vs,rfl,hall⟩
variable {Γ:FuncId->Option (cp X)} {am:TypeId->Option (CT X.ι)} {P:Program}
theorem aps(hT : fe P T)(hm : P.follows .mixedOrders = true)(hΓ : sC P Γ){f : FuncId}{fn : Func}{c : Code}(hfn : P.funcs[f]? = some fn)(hb : fn.body = some c)(hname : (fn.name == "runtime.NumGoroutine") = false)(g : df X)(hN : g.pL.length <= fn.ntmps)(hin : g.A1 = true)
 (h:Hn X.ι) (n:Nat) (hr:∀v (r:VT (X:=X) (Ae g).vars),g.fn v=some r->run Γ T am fn.ntmps n c (VT (X:=X) (Ae g).vars) h (GB g v) (ao2 T fn.results.toList g)=some r):FF P f g:=by
 intro v r hv;have hrun:=hr v r hv;simp only[df.A1,aL,aV]at hin;obtain⟨⟨⟨i1,i2⟩,i3⟩,i4⟩:=hin;obtain⟨s1,s2,_⟩:=yM (ol:=Ee g.j0 ((vZ (cW g.pL++cQ g.j0) v).drop (cW g.pL).length)) g.j0 ((vZ _ v).drop (cW g.pL).length);have hargs:∀k∈aR (g.args v),k<1000:=λk hk=>Nat.blt_eq.mp (all_eq_true.1 i3 k (yL g.pL _ k hk));have tw:∀p∈g.cP v,p.1<1000/\∀j∈eh p.2,j<1000:=by
  intro p hp;have⟨op,g1,g2⟩:=s2 p hp;have hk:p.1∈g.j0.map (·.1):=mem_map.2 ⟨_,g1,rfl⟩;rw[i1]at hk;have:=List.mem_range.1 hk;exact⟨by omega,λj hj=>Nat.blt_eq.mp (all_eq_true.1 (all_eq_true.1 i4 _ g1) j (g2 j hj))⟩
 have hal:(g.args v).length=g.pL.length:=Lx _ _ _;have hkeys:(g.cP v).map (·.1)=List.range (g.cP v).length:=ajQ g v i1;have hZ:∀k,ie (GB g v).obj k=tz (g.cP v) k:=by
  intro k;show ie (dD _ g.j0 _) k=tz (dK (dD _ g.j0 _)) k;rw[uX,WC,<- uX]
 have S3:∀(l:U (Nat×bm X))(n:Nat),l.map (·.1)=(List.range l.length).map (n+ ·)->∀k,tz l (n+k)=(l[k]?).map (·.2):=by
  intro l
  induction l with
  |nil=>intro n _ k;rfl
  |cons p l ih=>
   intro n hn k;rw[bC,List.range_succ_eq_map,aF,aF,map_map]at hn;injection hn with e1 e2;simp only[tz];cases k with
   |zero=>rw[aX (by omega)];rfl
   |succ k=>
    rw[aS (by omega),show n+(k+1)=(n+1)+k by omega,ih (n+1) (by rw[e2];refine map_congr_left λa _=>?_;simp only[Function.comp_apply];omega) k];rfl
 have hlow:Low (GB g v):=by
  refine⟨by show 1000<=1000000;decide,aD _,λt k hk=>hargs k (aar t _ _ k hk),λk o ho=>?_⟩;rw[hZ]at ho;have hmem:∀(l:U (Nat×bm X)),tz l k=some o->(k,o)∈l:=by
   intro l
   induction l with
   |nil=>intro h;simp[tz]at h
   |cons p l ih=>
    intro h;simp only[tz]at h;split at h
    .rename_i e;cases h;subst e;exact List.mem_cons_self
    .exact eH _ (ih h)
  exact tw _ (hmem _ ho)
 refine ajn hT hfn hb hname (by rw[kV,hal];exact hN) (λ k hk=>hargs k (by rwa [gX]at hk)) (by rw[length_map,<- length_map (f:=Prod.fst),hkeys,List.length_range];have:=s1.length_le;rw[length_map,length_map]at this;exact Nat.le_trans this i2) ?_ ?_
 .intro o ho r' hr' x hx j hj;obtain⟨p,hp,rfl⟩:=mem_map.1 ho;exact(tw p hp).2 j (Wq hr' hx j hj)
 .have e:ry.st ⟨(List.range (bQ (g.args v)).length).zip (bQ (g.args v)),(List.range ((g.cP v).map λp=>bG p.2).length).zip ((g.cP v).map λp=>bG p.2)⟩=(GB g v).st:=by
   simp only[dE.st,ry.st,St.mk.injEq,and_true];refine⟨?_,?_⟩
   .funext t;simp only[GB];rw[alD,kV,hal]
   .funext k;rw[Bb,hZ,List.getElem?_map];have:=S3 (g.cP v) 0 (by rw[hkeys];simp) k;rw[Nat.zero_add]at this;rw[this,Option.map_map];rfl
  rw[e];refine(kL hT hm hΓ c _ h _ _ r hlow hrun).mono ?_;rintro e σ ⟨s',hl',_,rfl,g4⟩;cases e<;>first |exact ajR hl' g4 |cases g4
end
section
variable {P:Program} {f F:FuncId} {E:TypeId} {α:Type} {enc:α->Value} {d:α}
end
section
variable {X:SX}
end
section
variable {X:SX}
def FZ{α β:Type}(f:α->J β):U α->J (List β)
 |[]=>some []
 |x::xs=>(f x).bind λy=>(FZ f xs).bind λys=>some (y::ys)
def nb(dq:(i j:X.ι)->Decidable (i=j))(i:X.ι):CT X.ι->J CS
 | .int k=>some (.int k)
 | .bool=>some .bool
 | .str=>some .str
 | .sl (.st j)=>match dq j i with
  | .isTrue _=>some .back
  | .isFalse _=>none
 |_=>none
def ao3(dq:(i j:X.ι)->Decidable (i=j))(i:X.ι):Bool:=(X.cX i).any λc=>match c with
 | .sl (.st j)=>match dq j i with
  | .isTrue _=>true
  | .isFalse _=>false
 |_=>false
def ap7(dq:(i j:X.ι)->Decidable (i=j)):CT X.ι->J (List CS)
 | .st i=>bif ao3 dq i then FZ (nb dq i) (X.cX i)else none
 |_=>none
theorem apt(dq:(i j:X.ι)->Decidable (i=j)){i:X.ι}{row:U CS}(hm:FZ (nb dq i) (X.cX i)=some row){x:Tree}(h:G3 row x):∃l:U (CT.T X.toSE (.st i)),x= .sl (l.map (CT.row X.toSE (.st i))):=by
 refine G3.rec (row:=row) (motive_1:=λx _=>∃l:U (CT.T X.toSE (.st i)),x= .sl (l.map (CT.row X.toSE (.st i)))) (motive_2:=λrows _=>∃l:U (CT.T X.toSE (.st i)),rows=l.map (CT.row X.toSE (.st i)))
  (motive_3:=λcs r _=>∀codes:U (CT X.ι),FZ (nb dq i) codes=some cs->∃h:HL X.toSE codes,r=HL.row X.toSE codes h) ?_ ?_ ?_ ?_ ?_ ?_ h
 .rintro rows _ _ ⟨l,rfl⟩;exact⟨l,rfl⟩
 .exact⟨[],rfl⟩
 .rintro r rs _ _ h1 ⟨l,rfl⟩;obtain⟨q,rfl⟩:=h1 _ hm;exact⟨(X.make i q:X.T i)::l,by rw[aF];congr 1;exact(X.gC i q).symm⟩
 .intro codes hc;cases codes with
  |nil=>exact⟨(),rfl⟩
  |cons c codes=>
   simp only[FZ,ai]at hc;obtain⟨_,_,_,_,h⟩:=hc;cases h
 .intro cs x xs _ _ h1 h2 codes hc;obtain⟨l,rfl⟩:=h1;cases codes with
  |nil=>simp[FZ]at hc
  |cons c codes=>
   simp only[FZ,ai]at hc;obtain⟨c',g1,cs',g2,g3⟩:=hc;injection g3 with g3;injection g3 with g4 g5;subst g4 g5;obtain⟨q,rfl⟩:=h2 _ g2
   match c,g1 with
   | .sl (.st j),g1=>
    simp only[nb]at g1;split at g1
    .rename_i hj _;subst hj;exact⟨(l,q),rfl⟩
    .cases g1
   | .int _,g1=>simp[nb]at g1
   | .bool,g1=>simp[nb]at g1
   | .str,g1=>simp[nb]at g1
   | .any,g1=>simp[nb]at g1
   | .st _,g1=>simp[nb]at g1
   | .mp _ _,g1=>simp[nb]at g1
   | .sl (.int _),g1=>simp[nb]at g1
   | .sl .bool,g1=>simp[nb]at g1
   | .sl .str,g1=>simp[nb]at g1
   | .sl .any,g1=>simp[nb]at g1
   | .sl (.sl _),g1=>simp[nb]at g1
   | .sl (.mp _ _),g1=>simp[nb]at g1
 .intro c' cs x xs hf _ h2 codes hc;cases codes with
  |nil=>simp[FZ]at hc
  |cons c codes=>
   simp only[FZ,ai]at hc;obtain⟨c2,g1,cs',g2,g3⟩:=hc;injection g3 with g3;injection g3 with g4 g5;subst g4 g5;obtain⟨q,rfl⟩:=h2 _ g2
   match c,g1 with
   | .int k,g1=>
    cases g1;obtain⟨n,rfl,_⟩:=hf;exact⟨(n,q),rfl⟩
   | .bool,g1=>
    cases g1;obtain⟨n,rfl⟩:=hf;exact⟨(n,q),rfl⟩
   | .str,g1=>
    cases g1;obtain⟨n,rfl,_⟩:=hf;exact⟨(n,q),rfl⟩
   | .sl (.st j),g1=>
    simp only[nb]at g1;split at g1
    .cases g1;exact hf.elim
    .cases g1
   | .any,g1=>simp[nb]at g1
   | .st _,g1=>simp[nb]at g1
   | .mp _ _,g1=>simp[nb]at g1
   | .sl (.int _),g1=>simp[nb]at g1
   | .sl .bool,g1=>simp[nb]at g1
   | .sl .str,g1=>simp[nb]at g1
   | .sl .any,g1=>simp[nb]at g1
   | .sl (.sl _),g1=>simp[nb]at g1
   | .sl (.mp _ _),g1=>simp[nb]at g1
def t8:Nat->CT X.ι->J (List CS)
 | 0,_=>none
 |_+1,.int k=>some [.int k]
 |_+1,.bool=>some [.bool]
 |_+1,.str=>some [.str]
 |_+1,.any=>some [.any]
 |_+1,.mp _ _=>none
 |n+1,.sl e=>match ap7 X.dec e with
  |some row=>some [.mu row]
  |none=>(t8 n e).bind λr=>some [.sl r]
 |n+1,.st i=>(FZ (t8 n) (X.cX i)).bind λl=>some l.flatten
def Ha(n:Nat)(c:CT X.ι):J VS:=
 match c with
 | .st i=>(t8 n (.st i:CT X.ι)).map .agg
 |c=>(t8 n c).bind λl=>match l with
  |[x]=>some (.one x)
  |_=>none
theorem RU:∀(a b:U CS)(ys:U Tree),dC (a++b) ys->∃ya yb,ys=ya++yb/\dC a ya/\dC b yb
 |[],b,ys,h=>⟨[],ys,rfl,trivial,h⟩
 |c::a,b,y::ys,h=>by
  simp only[cons_append,dC]at h;obtain⟨ya,yb,rfl,h1,h2⟩:=RU a b ys h.2;exact⟨y::ya,yb,rfl,⟨h.1,h1⟩,h2⟩
 |_::_,_,[],h=>h.elim
theorem ad6{c:CT X.ι}{cs:U CS}(h:∀ys,dC cs ys->∃x:CT.T X.toSE c,ys=CT.row X.toSE c x):∀rows:U (List Tree),(∀ r∈rows,dC cs r)->∃l:U (CT.T X.toSE c),rows=l.map (CT.row X.toSE c)
 |[],_=>⟨[],rfl⟩
 |r::rows,hr=>by
  obtain⟨x,hx⟩:=h r (hr r (by simp));obtain⟨l,hl⟩:=ad6 h rows λq hq=>hr q (eH _ hq);exact⟨x::l,by rw[aF,<- hx,<- hl]⟩
theorem alE{f:CT X.ι->J (List CS)}(hf:∀c cs,f c=some cs->∀ys,dC cs ys->∃x:CT.T X.toSE c,ys=CT.row X.toSE c x):∀(l:U (CT X.ι))(css:U (List CS)),FZ f l=some css->∀ys,dC css.flatten ys->∃h:HL X.toSE l,ys=HL.row X.toSE l h
 |[],css,h,ys,hy=>by
  simp only[FZ,aA]at h;subst h;cases ys with
  |nil=>exact⟨(),rfl⟩
  |cons y ys=>exact hy.elim
 |c::l,css,h,ys,hy=>by
  simp only[FZ]at h;have⟨a,h1,h⟩:=ai.1 h;have⟨b,h2,h⟩:=ai.1 h;cases h;simp only[flatten_cons]at hy;obtain⟨ya,yb,rfl,g1,g2⟩:=RU _ _ _ hy;have⟨x,hx⟩:=hf c a h1 ya g1;have⟨q,hq⟩:=alE hf l b h2 yb g2;exact⟨(x,q),by rw[hx,hq];rfl⟩
theorem Uz:∀(n:Nat)(c:CT X.ι)(cs:U CS),t8 n c=some cs->∀ys,dC cs ys->∃x:CT.T X.toSE c,ys=CT.row X.toSE c x
 | 0,_,_,h,_,_=>by cases h
 |n+1,.mp _ _,cs,h,ys,hy=>by simp[t8]at h
 |n+1,.int k,cs,h,ys,hy=>by
  simp only[t8,aA]at h;subst h
  match ys,hy with
  |[y],hy=>
   simp only[dC,Fit,and_true]at hy;obtain⟨m,rfl,_⟩:=hy;exact⟨m,rfl⟩
  |[],hy=>exact hy.elim
  |_::_::_,hy=>exact hy.2.elim
 |n+1,.bool,cs,h,ys,hy=>by
  simp only[t8,aA]at h;subst h
  match ys,hy with
  |[y],hy=>
   simp only[dC,Fit,and_true]at hy;obtain⟨m,rfl⟩:=hy;exact⟨m,rfl⟩
  |[],hy=>exact hy.elim
  |_::_::_,hy=>exact hy.2.elim
 |n+1,.str,cs,h,ys,hy=>by
  simp only[t8,aA]at h;subst h
  match ys,hy with
  |[y],hy=>
   simp only[dC,Fit,and_true]at hy;obtain⟨m,rfl,_⟩:=hy;exact⟨m,rfl⟩
  |[],hy=>exact hy.elim
  |_::_::_,hy=>exact hy.2.elim
 |n+1,.any,cs,h,ys,hy=>by
  simp only[t8,aA]at h;subst h
  match ys,hy with
  |[y],hy=>exact⟨y,rfl⟩
  |[],hy=>exact hy.elim
  |_::_::_,hy=>exact hy.2.elim
 |n+1,.sl e,cs,h,ys,hy=>by
  simp only[t8]at h;split at h
  .rename_i row hm;cases h
   match ys,hy with
   |[y],hy=>
    simp only[dC,Fit,and_true]at hy;cases e with
    |st i=>
     simp only[ap7]at hm;cases hb:ao3 X.dec i with
     |false=>rw[hb]at hm;cases hm
     |true=>
      rw[hb]at hm;have⟨l,hl⟩:=apt X.dec hm hy;exact⟨l,by rw[hl];rfl⟩
    |_=>cases hm
   |[],hy=>exact hy.elim
   |_::_::_,hy=>exact hy.2.elim
  have⟨r,h1,h⟩:=ai.1 h;cases h
  match ys,hy with
  |[y],hy=>
   simp only[dC,Fit,and_true]at hy;obtain⟨rows,rfl,_,hr⟩:=hy;have⟨l,hl⟩:=ad6 (Uz n e r h1) rows hr;exact⟨l,by rw[hl];rfl⟩
  |[],hy=>exact hy.elim
  |_::_::_,hy=>exact hy.2.elim
 |n+1,.st i,cs,h,ys,hy=>by
  simp only[t8]at h;rw[ai]at h;obtain⟨css,h1,h⟩:=h;cases h;have⟨q,hq⟩:=alE (Uz n) (X.cX i) css h1 ys hy;exact⟨X.make i q,by rw[hq];exact(X.gC i q).symm⟩
theorem anV{n:Nat}{c:CT X.ι}{s:VS}(h:Ha n c=some s){x:TV}(hx:FG s x):∃y:CT.T X.toSE c,x=CT.tv X.toSE c y:=by
 have one:∀c:CT X.ι,c.one=true->((t8 n c).bind λl=>match l with
  |[x]=>some (VS.one x)
  |_=>none)=some s->∃y:CT.T X.toSE c,x=CT.tv X.toSE c y:=by
  intro c hc h;rw[ai]at h;obtain⟨l,h1,h⟩:=h;split at h
  .rename_i z;cases h;simp only[FG]at hx;obtain⟨t,rfl,ht⟩:=hx;obtain⟨y,hy⟩:=Uz n c _ h1 [t] ⟨ht,trivial⟩;obtain⟨t',e1,e2⟩:=row_one hc y;rw[e1]at hy;cases hy;exact⟨y,e2.symm⟩
  .cases h
 cases c
 case st i=>
  simp only[Ha,dN]at h;obtain⟨cs,h1,rfl⟩:=h;simp only[FG]at hx;obtain⟨ys,rfl,hy⟩:=hx;obtain⟨y,hy⟩:=Uz n (.st i) _ h1 ys hy;exact⟨y,by rw[hy];rfl⟩
 all_goals exact one _ rfl h
theorem ad7(n:Nat):∀(cs:U (CT X.ι))(ss:U VS),FZ (Ha n) cs=some ss->∀xs,Vx ss xs->∃h:HL X.toSE cs,xs=HL.nw X.toSE cs h
 |[],ss,h,xs,hx=>by
  simp only[FZ,aA]at h;subst h;cases xs with
  |nil=>exact⟨(),rfl⟩
  |cons x xs=>exact hx.elim
 |c::cs,ss,h,xs,hx=>by
  simp only[FZ]at h;have⟨a,h1,h⟩:=ai.1 h;have⟨b,h2,h⟩:=ai.1 h;cases h;cases xs with
  |nil=>exact hx.elim
  |cons x xs=>
   obtain⟨y,rfl⟩:=anV h1 hx.1;obtain⟨q,rfl⟩:=ad7 n cs b h2 xs hx.2;exact⟨(y,q),rfl⟩
theorem alF{P:Program}{f:FuncId}{n N:Nat}{cs:U (CT X.ι)}{ss:U VS}{fn:Nat->iD X (cs.map AT.d)->J Bool}(hc:∀k,AH P f ⟨cs.map AT.d,[.d .bool],fn k,none⟩)(hs:FZ (Ha n) cs=some ss)(hl:∀q:HL X.toSE cs,Vx ss (HL.nw X.toSE cs q)->yd (HL.nw X.toSE cs q)<=N->∃k,fn k (hlA cs q)=some true)(xs:U TV)(h:Vx ss xs)(hb:yd xs<=N):
 rh P f (xs.map TV.av) (.one (.d (.s (.sc (.bool true))))):=by
 obtain⟨q,rfl⟩:=ad7 n cs ss hs xs h;have⟨k,hk⟩:=hl q h hb;have h1:=(hc k).2.1 (hlA cs q) true hk;have h2:=h1;rw[wo (Uw cs)]at h2;have h3:qq P f (wm (cs.map AT.d) (hlA cs q)) [] [] (.one (.d (.s (.sc (.bool true))))):=h2;have h4:=MU h3;rw[wm,JI]at h4;exact h4
end
end Go.Gb
