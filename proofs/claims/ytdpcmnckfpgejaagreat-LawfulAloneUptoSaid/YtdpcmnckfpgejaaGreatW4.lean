import Derived.Test.YtdpcmnckfpgejaaGreatW3
open List (mem_map all_eq_true cons_append length_map append_nil map_map map_congr_left flatten_cons map_nil all_cons map_take map_drop map_append mem_append_right)
namespace Go.Gb
open Go.RowKit
section
variable {X:SX} {A:Type}
theorem T4:∀(l:List (CT X.ι))(v:VT (X:=X) l),(xh l v).map (·.c)=l
 |[],_=>rfl
 |[_],_=>rfl
 |c::c'::l,v=>by simp only[xh,aC,T4 (c'::l) v.2]
theorem Rk:∀{l:List Tree},(∀ t∈l,t.flat)->qb (l.map AV.t)
 |[],_=>trivial
 |t::l,h=>⟨h t (by simp),Rk (λ u hu=>h u (by simp[hu]))⟩
theorem ab5{c:CT X.ι}(h:yZ c=true)(x:CT.T X.toSE c):vN (CT.tv X.toSE c x).av:=by
 have hf:=vR h x;cases c
 case st i=>exact Rk hf
 all_goals first |exact hf _ (aZ.2 rfl) |cases h
section
variable {ol:Nat->Nat}
mutual
theorem al2:∀(p:Pt X.ι)(L:List (DC X))(cs:List (CT X.ι)),L.map (·.c)=p.vars++cs->p.vars.all yZ=true->vN (den (eP ol p L).1)/\(eP ol p L).2.map (·.c)=cs
 | .v c,L,cs,h,hs=>by
  match L,h with
  |d::r,h=>
   simp only[Pt.vars,aC,List.singleton_append,List.cons.injEq]at h;simp only[Pt.vars,all_cons,List.all_nil,Bool.and_true]at hs;exact⟨ab5 (h.1 ▸ hs) d.x,h.2⟩
  |[],h=>simp[Pt.vars]at h
 | .o k,L,cs,h,_=>⟨trivial,by simpa[Pt.vars,eP]using h⟩
 | .p k,L,cs,h,_=>⟨trivial,by simpa[Pt.vars,eP]using h⟩
 | .mp k,L,cs,h,_=>⟨trivial,by simpa[Pt.vars,eP]using h⟩
 | .oz k,L,cs,h,_=>⟨trivial,by simpa[Pt.vars,eP]using h⟩
 | .nil,L,cs,h,_=>⟨trivial,by simpa[Pt.vars,eP]using h⟩
 | .od k,L,cs,h,_=>by
  match L,h with
  |d::r,h=>
   simp only[Pt.vars,aC,List.singleton_append,List.cons.injEq]at h;exact⟨trivial,h.2⟩
  |[],h=>simp[Pt.vars]at h
 | .f F fs ps,L,cs,h,hs=>by
  simp only[Pt.vars,List.all_append,aJ]at hs;simp only[Pt.vars,aK]at h;obtain⟨a1,a2⟩:=Fa fs L _ h hs.1;obtain⟨b1,b2⟩:=Fa ps _ _ a2 hs.2;exact⟨⟨a1,b1⟩,b2⟩
 | .a ps,L,cs,h,hs=>by
  simp only[Pt.vars]at h hs;exact Fa ps L cs h hs
theorem Fa:∀(ps:List (Pt X.ι))(L:List (DC X))(cs:List (CT X.ι)),L.map (·.c)=cL ps++cs->(cL ps).all yZ=true->qb (bJ (lp ol ps L).1)/\(lp ol ps L).2.map (·.c)=cs
 |[],L,cs,h,_=>⟨trivial,by simpa[cL,lp]using h⟩
 |p::ps,L,cs,h,hs=>by
  simp only[cL,List.all_append,aJ]at hs;simp only[cL,aK]at h;obtain⟨a1,a2⟩:=al2 p L _ h hs.1;obtain⟨b1,b2⟩:=Fa ps _ _ a2 hs.2;exact⟨⟨a1,b1⟩,b2⟩
end
mutual
theorem al3:∀(p:Pt X.ι)(L:List (DC X)),∀j∈bo (eP ol p L).1,j∈p.refs
 | .v c,L,j,h=>by cases L<;>simp[eP,bo]at h
 | .o k,L,j,h=>by simpa[eP,bo,Pt.refs]using h
 | .p k,L,j,h=>by simpa[eP,bo,Pt.refs]using h
 | .mp k,L,j,h=>by simpa[eP,bo,Pt.refs]using h
 | .oz k,L,j,h=>by simpa[eP,bo,Pt.refs]using h
 | .nil,L,j,h=>by simp[eP,bo]at h
 | .od k,L,j,h=>by cases L<;>simp[eP,bo]at h<;>simp[Pt.refs,h]
 | .f F fs ps,L,j,h=>by
  simp only[eP,bo,aW]at h;simp only[Pt.refs,aW];exact h.imp (Ao fs _ j) (Ao ps _ j)
 | .a ps,L,j,h=>by
  simp only[eP,bo]at h;simp only[Pt.refs];exact Ao ps _ j h
theorem Ao:∀(ps:List (Pt X.ι))(L:List (DC X)),∀j∈aS (lp ol ps L).1,j∈Dr ps
 |[],L,j,h=>by simp[lp,aS]at h
 |p::ps,L,j,h=>by
  simp only[lp,aS,aW]at h;simp only[Dr,aW];exact h.imp (al3 p _ j) (Ao ps _ j)
end
theorem Nh:∀(rs:List (List (Pt X.ι)))(L:List (DC X))(cs:List (CT X.ι)),L.map (·.c)=xg rs++cs->(xk ol rs L).2.map (·.c)=cs/\((xg rs).all yZ=true->∀r∈(xk ol rs L).1,qb (bJ r))
 |[],L,cs,h=>⟨by simpa[xg,xk]using h,by simp[xk]⟩
 |r::rs,L,cs,h=>by
  simp only[xg,aK]at h;have step:(lp ol r L).2.map (·.c)=xg rs++cs:=tj r L _ h;obtain⟨b1,b2⟩:=Nh rs _ _ step;refine⟨b1,λhs q hq=>?_⟩;simp only[xg,List.all_append,aJ]at hs;simp only[xk,aM]at hq;rcases hq with rfl |hq
  ·exact(Fa r L _ h hs.1).1
  ·exact b2 hs.2 q hq
where
 tj (ps:List (Pt X.ι)) (L:List (DC X)) (cs:List (CT X.ι)) (h:L.map (·.c)=cL ps++cs):(lp ol ps L).2.map (·.c)=cs:=pc ps L cs h
 A5:∀(p:Pt X.ι)(L:List (DC X))(cs:List (CT X.ι)),L.map (·.c)=p.vars++cs->(eP ol p L).2.map (·.c)=cs
  | .v c,L,cs,h=>by
   match L,h with
   |d::r,h=>simp only[Pt.vars,aC,List.singleton_append,List.cons.injEq]at h;exact h.2
   |[],h=>simp[Pt.vars]at h
  | .o k,L,cs,h=>by simpa[Pt.vars,eP]using h
  | .p k,L,cs,h=>by simpa[Pt.vars,eP]using h
  | .mp k,L,cs,h=>by simpa[Pt.vars,eP]using h
  | .oz k,L,cs,h=>by simpa[Pt.vars,eP]using h
  | .nil,L,cs,h=>by simpa[Pt.vars,eP]using h
  | .od k,L,cs,h=>by
   match L,h with
   |d::r,h=>simp only[Pt.vars,aC,List.singleton_append,List.cons.injEq]at h;exact h.2
   |[],h=>simp[Pt.vars]at h
  | .f F fs ps,L,cs,h=>by
   simp only[Pt.vars,aK]at h;exact pc ps _ _ (pc fs L _ h)
  | .a ps,L,cs,h=>by
   simp only[Pt.vars]at h;exact pc ps L cs h
 pc:∀(ps:List (Pt X.ι))(L:List (DC X))(cs:List (CT X.ι)),L.map (·.c)=cL ps++cs->(lp ol ps L).2.map (·.c)=cs
  |[],L,cs,h=>by simpa[cL,lp]using h
  |p::ps,L,cs,h=>by
   simp only[cL,aK]at h;exact pc ps _ _ (A5 p L _ h)
theorem Xb:∀(rs:List (List (Pt X.ι)))(L:List (DC X)),∀j∈((xk ol rs L).1.map aS).flatten,j∈rs.flatMap Dr
 |[],L,j,h=>by simp[xk]at h
 |r::rs,L,j,h=>by
  simp only[xk,aC,flatten_cons,aW]at h;simp only[List.flatMap_cons,aW];exact h.imp (Ao r _ j) (Xb rs _ j)
theorem Ap:∀(O:List (Nat×OP X.ι))(L:List (DC X)),((cZ (bZ ol O L)).map (·.1)).Sublist (O.map (·.1))/\(∀ p∈cZ (bZ ol O L),∃op,(p.1,op)∈O/\∀j∈d5 p.2,j∈op.refs)/\
 (L.map (·.c)=cE O->(O.all λq=>match q.2 with | .l c=>yZ c | .m _ _=>false | .c _ rows=>(xg rows).all yZ)=true->∀p∈cZ (bZ ol O L),∀r∈(bF p.2).rows,qb r)
 |[],L=>⟨by simp[bZ,cZ],by simp[bZ,cZ],by simp[bZ,cZ]⟩
 |(k,.l c)::O,L=>by
  match L with
  |[]=>exact⟨by simp[bZ,cZ],by simp[bZ,cZ],by simp[bZ,cZ]⟩
  |⟨.sl c',x⟩::L=>
   have⟨h1,h2,h3⟩:=Ap O L;refine⟨?_,?_,?_⟩
   ·simp only[bZ,cZ,aC];exact h1.cons_cons _
   ·intro p hp;simp only[bZ,cZ,aM]at hp;rcases hp with rfl |hp
    ·exact⟨.l c,by simp,by simp[d5]⟩
    ·have⟨op,g1,g2⟩:=h2 p hp;exact⟨op,dR _ g1,g2⟩
   ·intro hL hs p hp r hr;simp only[aC,cE,List.cons.injEq]at hL;simp only[all_cons,aJ]at hs;simp only[bZ,cZ,aM]at hp;rcases hp with rfl |hp
    ·obtain⟨e,_⟩:=hL;injection e with e;simp only[bF,aL,mem_map]at hr;obtain⟨q,⟨y,hy,rfl⟩,rfl⟩:=hr;exact Rk (vR (e ▸ hs.1) y)
    ·exact h3 hL.2 hs.2 p hp r hr
  |⟨.int _,x⟩::L=>exact⟨by simp[bZ,cZ],by simp[bZ,cZ],by simp[bZ,cZ]⟩
  |⟨.bool,x⟩::L=>exact⟨by simp[bZ,cZ],by simp[bZ,cZ],by simp[bZ,cZ]⟩
  |⟨.str,x⟩::L=>exact⟨by simp[bZ,cZ],by simp[bZ,cZ],by simp[bZ,cZ]⟩
  |⟨.any,x⟩::L=>exact⟨by simp[bZ,cZ],by simp[bZ,cZ],by simp[bZ,cZ]⟩
  |⟨.mp _ _,x⟩::L=>exact⟨by simp[bZ,cZ],by simp[bZ,cZ],by simp[bZ,cZ]⟩
  |⟨.st _,x⟩::L=>exact⟨by simp[bZ,cZ],by simp[bZ,cZ],by simp[bZ,cZ]⟩
 |(k,.m kc vc)::O,L=>by
  match L with
  |[]=>exact⟨by simp[bZ,cZ],by simp[bZ,cZ],by simp[bZ,cZ]⟩
  |⟨.mp tg ta,x⟩::L=>
   have⟨h1,h2,h3⟩:=Ap O L;refine⟨?_,?_,?_⟩
   ·simp only[bZ,cZ,aC];exact h1.cons_cons _
   ·intro p hp;simp only[bZ,cZ,aM]at hp;rcases hp with rfl |hp
    ·exact⟨.m kc vc,by simp,by simp[d5]⟩
    ·have⟨op,g1,g2⟩:=h2 p hp;exact⟨op,dR _ g1,g2⟩
   ·intro hL hs;simp at hs
  |⟨.sl _,x⟩::L=>exact⟨by simp[bZ,cZ],by simp[bZ,cZ],by simp[bZ,cZ]⟩
  |⟨.int _,x⟩::L=>exact⟨by simp[bZ,cZ],by simp[bZ,cZ],by simp[bZ,cZ]⟩
  |⟨.bool,x⟩::L=>exact⟨by simp[bZ,cZ],by simp[bZ,cZ],by simp[bZ,cZ]⟩
  |⟨.str,x⟩::L=>exact⟨by simp[bZ,cZ],by simp[bZ,cZ],by simp[bZ,cZ]⟩
  |⟨.any,x⟩::L=>exact⟨by simp[bZ,cZ],by simp[bZ,cZ],by simp[bZ,cZ]⟩
  |⟨.st _,x⟩::L=>exact⟨by simp[bZ,cZ],by simp[bZ,cZ],by simp[bZ,cZ]⟩
 |(k,.c sz rows)::O,L=>by
  have⟨h1,h2,h3⟩:=Ap O (xk ol rows L).2;refine⟨?_,?_,?_⟩
  ·simp only[bZ,cZ,aC];exact h1.cons_cons _
  ·intro p hp;simp only[bZ,cZ,aM]at hp;rcases hp with rfl |hp
   ·exact⟨.c sz rows,by simp,λj hj=>Xb rows L j hj⟩
   ·have⟨op,g1,g2⟩:=h2 p hp;exact⟨op,dR _ g1,g2⟩
  ·intro hL hs p hp r hr;simp only[cE]at hL;simp only[all_cons,aJ]at hs;obtain⟨e1,e2⟩:=Nh (ol:=ol) rows L _ hL;simp only[bZ,cZ,aM]at hp;rcases hp with rfl |hp
   ·simp only[bF,mem_map]at hr;obtain⟨q,hq,rfl⟩:=hr;exact e2 hs.1 q hq
   ·exact h3 e1 hs.2 p hp r hr
end
theorem Rl(k:Nat):∀os:List (Nat×bu X),pm (ul os) k=(s6 os k).map bF
 |[]=>rfl
 |(j,o)::r=>by
  simp only[ul,aC,pm,s6];split
  ·rfl
  ·exact Rl k r
theorem Xc(f:Nat->Nat)(c:CT X.ι)(x:CT.T X.toSE c):eV f (CT.tv X.toSE c x).av=(CT.tv X.toSE c x).av:=(Ct f (.c c x)).symm
theorem adW(f:Nat->Nat)(o:bu X):bF (oy f o)=L9 f (bF o):=by
 cases o with
 |cells sz rows=>simp only[oy,bF,L9,map_map];congr 1;exact map_congr_left λr _=>E8 f r
 |de c l=>simp only[oy,bF,L9,aL,map_map];congr 1;exact map_congr_left λr _=>(T6 f _).symm
 |map kc vc l=>simp only[oy,bF,L9,map_map];congr 1;exact map_congr_left λr _=>by simp only[Function.comp_apply,y8,Xc]
theorem aiN(i:Nat)(ae:List Nat)(os:List (Nat×bu X)):gG (KB i ae os)=wa i ae (ul os):=by
 simp only[KB,wa,tF];congr 1
 ·simp only[gG,map_map];refine map_congr_left λp _=>?_;simp only[Function.comp_apply,Rl,Option.map_map];congr 1;cases s6 os p.2<;>simp[adW]
 ·simp only[gG,ul,List.filter_map,map_map];refine map_congr_left λq _=>?_;simp[adW]
theorem Xd{ds:List (DV X)}:(∀ j∈refs (den (Aj ds)),j∈aS ds)/\(qb (bJ ds)->vN (den (Aj ds))):=by
 match ds with
 |[]=>exact⟨λ j hj=>by simp[Aj,den,bJ,refs,eG]at hj,λ_=>by simp only[Aj,den,vN];exact trivial⟩
 |[d]=>exact⟨λ j hj=>by simp only[Aj,iU]at hj;simpa[aS]using hj,λh=>h.1⟩
 |d::e::r=>exact⟨λ j hj=>by simp only[Aj,den,refs,iy]at hj;exact hj,λh=>h⟩
theorem aaL:∀xs:List (Nat×bu X),cZ (xs.map λp=>(p.1,some p.2))=xs
 |[]=>rfl
 |p::xs=>by simp only[aC,cZ,aaL xs]
theorem ahU:∀l:List Tree,eG (l.map AV.t)=[]
 |[]=>rfl
 |_::l=>by simp only[aC,eG,refs,ahU l,bO]
theorem ab6{P:Program}{g:cT X}{F:FuncId}(hg:HJ P F g){i:Nat}{first args caps:List (DV X)}{get:Nat->Option (bu X)}{k:KK X A}{r:A}(h:T5 g i (first++args++caps) get k=some r):
 ∃cw rd wr dv upd ab,kz P i (den (.fn F first caps)) (bJ args) cw (dF rd (fC get))=some ab/\jZ ab.obs/\ab.v=den dv/\ab.upd=gG upd/\(∀ p∈upd,p.1=cA i\/p.1∈wr)/\k dv upd rd wr=some r:=by
 unfold T5 at h;rw[ai]at h;obtain⟨m1,h1,h⟩:=h;rw[ai]at h;obtain⟨m,h2,h⟩:=h;have⟨h3,h⟩:=dD h;rw[ai]at h;obtain⟨v,h4,h⟩:=h;have⟨h5,h⟩:=qc h;rw[ai]at h;obtain⟨rr,h6,h⟩:=h;simp only[aJ]at h3;obtain⟨hok,yW⟩:=h3;simp only at h;generalize kf:(List.range g.iz.length).map (p5 m)=ae at h yW;simp only[cT.ok,aJ,aT]at hok;obtain⟨⟨⟨⟨n1,n2⟩,n3⟩,n4⟩,n5⟩:=hok;simp only[Zs,aJ,aT]at yW;obtain⟨⟨hnd,hnm⟩,yr⟩:=yW;have hlen:ae.length=g.iz.length:=by rw[<- kf];simp
 have hi:∀q∈m.nm,ae[q.2]? =some q.1:=by
  intro q hq;have:=all_eq_true.1 hnm q hq;split at this
  ·rename_i k' e;rw[e,Nat.eq_of_beq_eq_true this]
  ·cases this
 have hv:∀k∈m.vr,k∉ae:=λk hk=>by
  have:=all_eq_true.1 yr k hk;simpa using this
 have hrd:∀k,(∃ q,(k,q)∈m.nm)\/k∈m.vr->k∈ae++m.vr:=by
  rintro k (⟨q,hq⟩ |hk)
  ·exact List.mem_append_left _ (cu (hi _ hq))
  ·exact mem_append_right _ hk
 have hm2:=(mH _ _ _ h2).1;have t6:=WS h4;obtain⟨_,nA,dA,lA⟩:=xq _ _ _ _ h1;simp only[bO]at dA;obtain⟨nB,dB,lB⟩:=Gz (NM:=m.nm) _ _ _ h2 (λ q hq=>hq);have hL:m.ev=nA++nB:=by rw[dB,dA]
 have hdrop:(xh _ v).drop (cL g.pn).length=nB:=by rw[t6,hL,<- lA,List.drop_left]
 have htake:(xh _ v).take (cL g.pn).length=nA:=by rw[t6,hL,<- lA,List.take_left]
 have ho:∀q∈m.nm,∀c l,get q.1=some (.de c l)->Dp g.iz nB q.2=l.length:=by
  rintro⟨p,q⟩ hq c l hl;have hq2:=hi _ hq;have hqn:q<g.iz.length:=by rw[<- hlen];exact(cO.1 hq2).1
  obtain⟨p',o,g1,g2,g3⟩:=lB [] q (by rw[n1];exact List.mem_range.2 hqn);have:p'=p:=by
   have e1:=hi _ g1;rw[hq2]at e1;injection e1 with e1;exact e1.symm
  subst this;simp only at hl;rw[hl]at g2;injection g2 with g2;have h3:=g3 c l g2.symm;rw[append_nil]at h3;have hk:=(GA g.iz nB).nodup (by rw[n1];exact List.nodup_range);simp only[Dp,vP hk h3,Option.getD_some]
 obtain⟨N6,Hv,ds',eA,⟨hs,obs,pA,qA⟩,rA⟩:=zV (P:=P) (ae:=ae) (rd:=ae++m.vr) (NM:=m.nm) (py:=m.vr) (dt:=Dp g.iz nB) hi hv hrd ho _ _ _ _ h1 (λ q hq=>hm2.1 q hq) (λ c hc=>h5 c (hm2.2.1 c hc)) (λ q hq=>hm2.2.2 q hq);obtain⟨N5,Sp,xs,eB,bs,mo,pB,qB,rB⟩:=Cu (P:=P) (ae:=ae) (rd:=ae++m.vr) (NM:=m.nm) (py:=m.vr) (dt:=Dp g.iz nB) hi hv hrd ho _ _ _ h2 (λ q hq=>hq) h5 (λ q hq=>hq);have Se:N6=nA:=by simp only[bO]at Hv;rw[<- Hv,dA]
 have Sa:N5=nB:=List.append_cancel_left (Sp.symm.trans dB);subst Se Sa;have Hp:=eA [];have Hm:=eB [];rw[append_nil]at Hp Hm;have hargs:g.args v=ds':=by simp only[cT.args,WU,hdrop,htake,Hp]
 have sY:g.cI v=xs:=by simp only[cT.cI,H2,hdrop,Hm,aaL]
 have PP:(g.iz.map λp=>(ae[p.1]?).getD 0)=ae:=by
  have:(g.iz.map λp=>(ae[p.1]?).getD 0)=(g.iz.map (·.1)).map λj=>(ae[j]?).getD 0:=by rw[map_map];rfl
  rw[this,n1];refine List.ext_getElem (by simp[hlen]) λj a b=>?_;simp[dI b]
 rw[PP]at qB rB;have Ys:=qA [];rw[append_nil,iF,iF]at Ys;have hcon:=hg v rr h6;rw[hargs,sY]at hcon;obtain⟨s1,s2,s3⟩:=Ap (ol:=Dp g.ix ((xh (ie (lr 0 g.fy)++cE g.ix) rr).drop (cL g.fy).length)) g.ix ((xh _ rr).drop (cL g.fy).length);have yi:∀k,FA g.iz.length k=true->xp ae.length k:=by
  intro k hk;simp only[FA,Bool.or_eq_true,aJ,Nat.blt_eq,Nat.ble_eq]at hk;simp only[xp,hlen];exact hk
 have good:DO ae.length (ul (g.outs rr)) (den (g.res rr)):=by
  refine⟨?_,?_,?_,?_⟩
  ·intro q hq;simp only[ul,mem_map]at hq;obtain⟨p,hp,rfl⟩:=hq;have⟨op,g1,_⟩:=s2 p hp;have:=all_eq_true.1 n3 _ g1;simp only[aJ]at this;exact yi _ this.1
  ·have:(ul (g.outs rr)).map (·.1)=(g.outs rr).map (·.1):=(by simp[ul]);rw[this];exact s1.nodup n4
  ·intro q hq r' hr' j hj;simp only[ul,mem_map]at hq;obtain⟨p,hp,rfl⟩:=hq;have⟨op,g1,g2⟩:=s2 p hp;have:=all_eq_true.1 n3 _ g1;simp only[aJ]at this;refine yi _ (all_eq_true.1 this.2 j (g2 j ?_));obtain⟨pk,po⟩:=p;cases po with
   |cells sz rows=>exact OQ (List.mem_flatMap.2 ⟨r',hr',hj⟩)
   |de c l=>
    simp only[bF,aL,mem_map]at hr';obtain⟨z,_,rfl⟩:=hr';rw[ahU]at hj;simp at hj
   |map kc vc l=>
    simp only[bF,mem_map]at hr';obtain⟨z,_,rfl⟩:=hr';simp only[eG,Gv,append_nil]at hj;simp at hj
  ·intro j hj;have:=(Xd (ds:=WU g.fy g.ix (xh _ rr))).1 j hj;exact yi _ (all_eq_true.1 n5 j (Ao g.fy _ j this))
 have flat:g.flat=true->m5 (ul (g.outs rr)) (den (g.res rr)):=by
  intro hf;simp only[cT.flat,aJ]at hf;have hc:(xh (ie (lr 0 g.fy)++cE g.ix) rr).map (·.c)=cL g.fy++cE g.ix:=(T4 _ rr).trans (by rw[Rf]);refine⟨(Xd (ds:=WU g.fy g.ix (xh _ rr))).2 ?_,?_⟩
  ·refine(Fa (ol:=_) g.fy _ [] ?_ hf.1).1;rw[append_nil,map_take,hc,List.take_left]
  ·intro q hq r' hr';simp only[ul,mem_map]at hq;obtain⟨p,hp,rfl⟩:=hq;exact s3 (by rw[map_drop,hc,List.drop_left]) hf.2 p hp r' hr'
 have cM:Wn (dF (ae++m.vr) (fC get)) (bJ first++bJ args++bJ caps) ae m.vr bs:=by
  refine⟨hv,λj hj hn=>?_,λj hs' q o e1 e2 e3 z hz hn=>?_⟩
  ·rw[<- iF,<- iF,iy]at hj;rcases rA j hj with ⟨q,hq⟩ |hj
   ·exact absurd (cu (hi _ hq)) hn
   ·exact hj
  ·rcases rB j hs' q o e1 e2 e3 z hz with ⟨q',hq⟩ |hz
   ·exact absurd (cu (hi _ hq)) hn
   ·exact hz
 refine⟨.s9 ae m.vr bs hs (ul (g.outs rr)) (den (g.res rr)) g.flat,ae++m.vr,_,_,_,
  ⟨eV (cn i ae) (den (g.res rr)),wa i ae (ul (g.outs rr))++(if g.flat then []else m.vr.map λk=>(k,none)),obs++mo++[CA P F (bJ ds') (xs.map λp=>bF p.2) (ul (g.outs rr)) (den (g.res rr)),DO ae.length (ul (g.outs rr)) (den (g.res rr)),Wn (dF (ae++m.vr) (fC get)) (bJ first++bJ args++bJ caps) ae m.vr bs]++(if g.flat then [m5 (ul (g.outs rr)) (den (g.res rr))]else [])⟩,?_,?_,(Ct _ _).symm,?_,?_,h⟩
 ·simp only[den,kz,Ou,qB,Ys,ah];rw[aO ⟨hnd,by omega⟩]
 ·refine rU _ (gU (gU (gU pA pB) ?_) ?_)
  ·intro z hz;simp only[aM,jA,or_false]at hz;rcases hz with rfl |rfl |rfl
   ·exact hcon
   ·exact good
   ·exact cM
  ·intro z hz;cases hf:g.flat with
   |true=>rw[hf]at hz;simp only[if_true,aZ]at hz;subst hz;exact flat hf
   |false=>rw[hf]at hz;simp at hz
 ·simp only[tF,aiN];congr 1;cases g.flat with
  |true=>rfl
  |false=>exact(EX m.vr).symm
 ·intro p hp;refine .inr ?_;rcases aW.1 hp with hp |hp
  ·exact List.mem_append_left _ (mem_append_right _ (mem_map.2 ⟨p,hp,rfl⟩))
  ·cases hf:g.flat with
   |true=>rw[hf]at hp;simp at hp
   |false=>
    rw[hf]at hp;simp only[Bool.false_eq_true,if_false,mem_map]at hp;obtain⟨z,hz,rfl⟩:=hp;exact mem_append_right _ hz
end
section
variable {X:SX} {A:Type}
def Xe:RT X.ι->Bool
 | .d c=>yZ c
 | .fresh e=>yZ e
 | .whole _=>true
 | .mu c=>yZ c
 | .mr c=>yZ c
 | .mv=>true
theorem adX{c:CT X.ι}(h:yZ c=true)(x:CT.T X.toSE c):(CT.tv X.toSE c x).flat:=by
 cases c
 case st i=>exact vR h x
 all_goals first |exact trivial |cases h
theorem Xf{ns:List Nat}{q:RT X.ι}{x:RT.T X q}(h:Xe q=true):∀c∈WV ns q x,c.flat:=by
 intro c hc;cases q<;>simp only[WV,aZ,jA]at hc
 case d c=>subst hc;exact adX h x
 case fresh e=>
  subst hc;intro row hr;obtain⟨y,_,rfl⟩:=mem_map.1 hr;exact vR h y
 case whole j=>subst hc;exact trivial
theorem Tv{ns:List Nat}:∀{l:List (RT X.ι)}{x:uh X l},l.all Xe=true->∀c∈Dq ns l x,c.flat
 |[],x,_,c,hc=>by simp[Dq]at hc
 |[q],x,h,c,hc=>Xf (by simpa using h) c hc
 |q::q'::l,x,h,c,hc=>by
  simp only[all_cons,aJ]at h;simp only[Dq,aW]at hc;rcases hc with hc |hc
  ·exact Xf h.1 c hc
  ·exact Tv (by simp only[all_cons,aJ];exact h.2) c hc
theorem Xg{l:List (RT X.ι)}(x:uh X l)(h:l.all Xe=true):(um l x).flat:=by
 have:=Tv (ns:=wd l x) (x:=x) h;unfold um;split
 ·rename_i c hc;exact this c (by rw[hc];simp)
 ·exact this
theorem aaM{q:RT X.ι}{x:RT.T X q}(h:Xe q=true):V4 (qM q x):=by
 intro p hp;cases q<;>simp only[qM,aZ,jA,aA,reduceCtorEq]at hp
 case mu c=>
  subst hp;intro r hr;obtain⟨y,_,rfl⟩:=mem_map.1 hr;exact vR h y
 case mr c=>
  subst hp;intro r hr;obtain⟨y,_,rfl⟩:=mem_map.1 hr;exact vR h y
theorem aaN:∀{l:List (RT X.ι)}{x:uh X l},l.all Xe=true->V4 (ow l x)
 |[],x,_=>λp hp=>by simp[ow]at hp
 |[q],x,h=>aaM (q:=q) (by simpa using h)
 |q::q'::l,x,h=>by
  simp only[all_cons,aJ]at h;intro p hp;rcases aW.1 (show some p∈qM q x.1++ow (q'::l) x.2 from hp)with hp |hp
  ·exact aaM h.1 p hp
  ·exact aaN (l:=q'::l) (by simp only[all_cons,aJ];exact h.2) p hp
def J7(i:Nat)(ae ns:List Nat):(q:RT X.ι)->RT.T X q->List (DV X)×List (Nat×Option (bu X))
 | .d c,x=>([.c c x],[])
 | .fresh e,l=>([.own (cA i) 0 l.length],[(cA i,some (.de e l))])
 | .whole j,_=>([match ae[j]? with |some k=> .own k 0 (ns.getD j 0) |none=> .undef],[])
 |_,_=>([],[])
def MV(i:Nat)(ae ns:List Nat):(l:List (RT X.ι))->uh X l->Option (List (DV X)×List (Nat×Option (bu X)))
 |[],_=>some ([],[])
 |[q],x=>some (J7 i ae ns q x)
 |q::q'::l,x=>(MV i ae ns (q'::l) x.2).bind λp=>if (J7 i ae ns q x.1).2.isEmpty || p.2.isEmpty then some ((J7 i ae ns q x.1).1++p.1,(J7 i ae ns q x.1).2++p.2)else none
def an0:List (DV X)->DV X
 |[d]=>d
 |ds=> .fh ds
def Do(i:Nat)(ae:List Nat)(l:List (RT X.ι))(x:uh X l):Option (DV X×List (Nat×Option (bu X))):=
 (MV i ae (wd l x) l x).bind λp=>some (an0 p.1,p.2)
theorem ab7(u:List (Nat×Option (bu X))):(gG u).isEmpty=u.isEmpty:=by cases u<;>rfl
theorem aaO(i:Nat)(ae ns:List Nat)(q:RT X.ι)(x:RT.T X q):(∃ c,WV ns q x=[c]/\∃d,(J7 i ae ns q x).1=[d]/\L6 i ae c=(den d,gG (J7 i ae ns q x).2))\/(WV ns q x=[]/\J7 i ae ns q x=([],[])):=by
 cases q
 case d c=>exact .inl ⟨_,rfl,_,rfl,rfl⟩
 case fresh e=>exact .inl ⟨_,rfl,_,rfl,by simp[L6,J7,den,gG,bF,aL]⟩
 case whole j=>
  refine .inl ⟨_,rfl,_,rfl,?_⟩;simp only[L6,gG,J7,map_nil,Prod.mk.injEq,and_true];cases ae[j]?<;>rfl
 all_goals exact .inr ⟨rfl,rfl⟩
theorem adY(i:Nat)(ae:List Nat)(c:RC):Oi i ae [c]=some ([(L6 i ae c).1],(L6 i ae c).2):=by simp[Oi]
theorem aaP(i:Nat)(ae ns:List Nat):∀(l:List (RT X.ι))(x:uh X l)(p:List (DV X)×List (Nat×Option (bu X))),MV i ae ns l x=some p->Oi i ae (Dq ns l x)=some (bJ p.1,gG p.2)
 |[],_,p,h=>by simp only[MV,aA]at h;subst h;rfl
 |[q],x,p,h=>by
  simp only[MV,aA]at h;subst h;simp only[Dq];rcases aaO i ae ns q x with ⟨c,h1,d,h2,h3⟩ |⟨h1,h2⟩
  ·rw[h1,adY,h2,h3];simp[bJ]
  ·rw[h1,h2];rfl
 |q::q'::l,x,p,h=>by
  simp only[MV]at h;rw[ai]at h;obtain⟨p',h1,h⟩:=h;have ih:=aaP i ae ns (q'::l) x.2 p' h1;split at h
  ·rename_i hc;cases h;simp only[Dq];rcases aaO i ae ns q x.1 with ⟨c,h1,d,h2,h3⟩ |⟨h1,h2⟩
   ·rw[h1];simp only[List.singleton_append,Oi,ih,ah,h3,ab7];rw[aO hc,h2];simp[bJ,gG]
   ·rw[h1,h2];simp only[bO];exact ih
  ·cases h
theorem adZ{i:Nat}{ae:List Nat}{l:List (RT X.ι)}{x:uh X l}{p:DV X×List (Nat×Option (bu X))}(h:Do i ae l x=some p):imp i ae (um l x)=some (den p.1,gG p.2):=by
 unfold Do at h;rw[ai]at h;obtain⟨p',h1,h⟩:=h;cases h;have ih:=aaP i ae _ l x p' h1;unfold um;split
 ·rename_i c hc;rw[hc,adY]at ih;simp only[aA,Prod.mk.injEq]at ih;obtain⟨ds,u⟩:=p'
  match ds,ih with
  |[d],ih=>
   simp only[bJ,List.cons.injEq,and_true]at ih;simp only[imp,an0,<- ih.1,<- ih.2]
  |[],ih=>simp[bJ]at ih
  |_::_::_,ih=>simp[bJ]at ih
 ·rename_i hne;simp only[imp,ih,ah];obtain⟨ds,u⟩:=p'
  match ds,ih with
  |[],_=>rfl
  |_::_::_,_=>rfl
  |[d],ih=>
   exfalso;generalize hcs:Dq (wd l x) l x=cs at ih hne
   match cs,ih,hne with
   |[],ih,_=>simp[Oi,bJ]at ih
   |[c],_,hne=>exact hne c rfl
   |c::c'::cs,ih,_=>
    simp only[Oi]at ih;cases h3:Oi i ae cs with
    |none=>rw[h3]at ih;simp at ih
    |some q=>
     rw[h3]at ih;simp only[ah]at ih;split at ih
     ·simp only[ah]at ih;split at ih
      ·simp[bJ]at ih
      ·cases ih
     ·simp at ih
def JT:(q:RT X.ι)->RT.T X q->List (Option (bu X))
 | .mu c,x=>[some (.de c x)]
 | .mr c,x=>[some (.cells (CT.sz X c) [vQ c x])]
 | .mv,_=>[none]
 |_,_=>[]
def Xh:(l:List (RT X.ι))->uh X l->List (Option (bu X))
 |[],_=>[]
 |[q],x=>JT q x
 |q::q'::l,x=>JT q x.1++Xh (q'::l) x.2
def J8:List Nat->List (Option (bu X))->List (Nat×Option (bu X))
 |k::ae,p::os=>(k,p)::J8 ae os
 |_,_=>[]
theorem ad1(q:RT X.ι)(x:RT.T X q):(JT q x).map (·.map bF)=(qM q x).map (·.map ia):=by
 cases q<;>try rfl
 case mr c=>simp only[JT,qM,aC,map_nil,Option.map_some,bF,ia,sK,aL,nR]
theorem Rm:∀(l:List (RT X.ι))(x:uh X l),(Xh l x).map (·.map bF)=(ow l x).map (·.map ia)
 |[],_=>rfl
 |[q],x=>ad1 q x
 |q::q'::l,x=>by simp only[Xh,ow,map_append,ad1,Rm (q'::l) x.2]
theorem aaQ:∀(ae:List Nat)(os:List (Option (bu X)))(os':List (Option fe)),os.map (·.map bF)=os'.map (·.map ia)->gG (J8 ae os)=Dh ae os'
 |[],_,_,_=>by simp[J8,Dh,gG]
 |_::_,[],[],_=>rfl
 |k::ae,p::os,p'::os',h=>by
  simp only[aC,List.cons.injEq]at h;have:=aaQ ae os os' h.2;simp only[gG]at this;simp only[J8,Dh,gG,aC,h.1,this]
 |_::_,[],_::_,h=>by simp at h
 |_::_,_::_,[],h=>by simp at h
theorem Ni:∀{ae:List Nat}{os:List (Option (bu X))}{p:Nat×Option (bu X)},p∈J8 ae os->p.1∈ae
 |[],_,_,h=>by simp[J8]at h
 |_::_,[],_,h=>by simp[J8]at h
 |k::ae,q::os,p,h=>by
  simp only[J8,aM]at h;rcases h with rfl |h
  ·simp
  ·exact dR _ (Ni h)
def WP(get:Nat->Option (bu X))(d:DV X)(c:CT X.ι):Option (List (CT.T X.toSE c)×Nat×List Bool):=
 match d with
 | .own k 0 len=>(get k).bind λo=>match o with
  | .de b l=>(gB (.sl b) (.sl c) l).bind λ(l:List (CT.T X.toSE c))=>some (l,k,[bm len (List.length l)])
  |_=>none
 |_=>none
def Xi(get:Nat->Option (bu X))(d:DV X)(c:CT X.ι):Option (CT.T X.toSE c×Nat):=
 match d with
 | .ptr k 0 0=>(get k).bind λo=>match o with
  | .cells sz [row]=>if sz=CT.sz X c then(OE c row).bind λx=>some (x,k)else none
  |_=>none
 |_=>none
def pM(Γ:FuncId->Option (b9 X))(get:Nat->Option (bu X)):List (DV X)->(l:List (AT X.ι))->Option (jf X l×List Nat×List Bool)
 |[],[]=>some ((),[],[])
 |d::ds,.mut c::l=>(WP get d c).bind λx=>(pM Γ get ds l).bind λh=>some ((x.1,h.1),x.2.1::h.2.1,x.2.2++h.2.2)
 |d::ds,.fm c::l=>(Xi get d c).bind λx=>(pM Γ get ds l).bind λh=>some ((x.1,h.1),x.2::h.2.1,h.2.2)
 |d::ds,.d c::l=>(Tp Γ get 3 [d] [.d c]).bind λx=>(pM Γ get ds l).bind λh=>some ((x.1.1,h.1),h.2.1,x.2++h.2.2)
 |d::ds,.ref c::l=>(Tp Γ get 3 [d] [.ref c]).bind λx=>(pM Γ get ds l).bind λh=>some ((x.1.1,h.1),h.2.1,x.2++h.2.2)
 |d::ds,.cV as r::l=>(Tp Γ get 3 [d] [.cV as r]).bind λx=>(pM Γ get ds l).bind λh=>some ((x.1.1,h.1),h.2.1,x.2++h.2.2)
 |d::ds,.nil::l=>match d with
  | .nil=>(pM Γ get ds l).bind λh=>some (((),h.1),h.2.1,h.2.2)
  |_=>none
 |_,_=>none
def Lu:List (DV X)->List (AT X.ι)->List Nat
 |d::ds,a::l=>(if a.im then []else bo d)++Lu ds l
 |_,_=>[]
def Rn(get:Nat->Option (bu X)):List (DV X)->(l:List (CT X.ι))->Option (HL X.toSE l×List Bool)
 |[],[]=>some ((),[])
 |d::ds,c::l=>(Iu get d c).bind λx=>(Rn get ds l).bind λh=>some ((x.1,h.1),x.2++h.2)
 |_,_=>none
variable (Γ:FuncId->Option (b9 X))
def Ts(i:Nat)(f:DV X)(args:List (DV X))(get:Nat->Option (bu X))(k:KK X A):Option A:=
 match f with
 | .fn F first caps=>(Γ F).bind λs=>match s.gen.filter λg=>(rj get g.pn (first++args++caps) ⟨[],[],[],[]⟩).isSome with
  |some g=>T5 g i (first++args++caps) get k
  |none=>if (s.args.all (λ q=>q.pl)&&s.res.all (λ q=>!q.out))=true then(Tp Γ get 3 (first++args++caps) s.args).bind λa=>WH a.2 ((s.fn a.1).bind λx=>(Do i [] s.res x).bind λp=>
   if s.res.all Xe then k p.1 p.2 (aS (first++args++caps)) []
   else k p.1 (p.2++OM (aS (first++args++caps))) (aS (first++args++caps)) (aS (first++args++caps)))
  else(pM Γ get (first++args++caps) s.args).bind λa=>WH a.2.2 ((s.fn a.1).bind λx=>(Do i a.2.1 s.res x).bind λp=>
   if (decide a.2.1.Nodup&&(Lu (first++args++caps) s.args).all (λ j=>!a.2.1.contains j)&&decide ((Xh s.res x).length=a.2.1.length))=true then
    if s.res.all Xe then k p.1 (p.2++J8 a.2.1 (Xh s.res x)) (aS (first++args++caps)) a.2.1
    else k p.1 (p.2++(J8 a.2.1 (Xh s.res x)++OM ((aS (first++args++caps)).filter λj=>!a.2.1.contains j))) (aS (first++args++caps)) (a.2.1++(aS (first++args++caps)).filter λj=>!a.2.1.contains j)
   else none)
 | .cV as q φ=>(Rn get args as).bind λh=>WH h.2 ((φ h.1).bind λy=>
  if yZ q then k (.c q y) [] (aS args) []else k (.c q y) (OM (aS args)) (aS args) (aS args))
 |_=>none
def BE(fz:List Nat)(T:dC)(ao:TypeId->Option (CT X.ι))(i:Nat)(o:Op)(ρ:Operand->DV X)(get:Nat->Option (bu X))(k:KK X A):Option A:=
 match o with
 | .call { callee:= .value f,args:=args,argTypes:=_ }=>Ts Γ i (ρ f) (args.toList.map ρ) get k
 |o=>if anW o ρ then SP T ao i o ρ get k else if anX o ρ || fz.contains i then SO T ao i o ρ get k else if anZ o ρ then SJ T i o ρ get k else if anY T o ρ then SM T ao o ρ get k else Iv T ao i o ρ get k
variable {Γ}
theorem OT{P:Program}{get:Nat->Option (bu X)}{rd:List Nat}:∀{ds:List (DV X)}{l:List (CT X.ι)}{h:HL X.toSE l×List Bool},Rn get ds l=some h->(∀ b∈h.2,b=true)->(∀ j∈aS ds,j∈rd)->
 ∃hs obs,(∀ p∈obs,p)/\∀ag,nK P (dF rd (fC get)) (bJ ds) (hs++ag)=some ((HL.nq X.toSE l h.1).map TV.av,ag,obs)
 |[],[],h,_,_,_=>⟨[],[],by simp,λag=>rfl⟩
 |d::ds,c::l,h,hr,hc,hrd=>by
  simp only[Rn]at hr;have⟨x,h1,hr⟩:=ai.1 hr;have⟨g,h2,hr⟩:=ai.1 hr;cases hr;obtain⟨hs1,o1,p1,q1⟩:=Cs (P:=P) (rd:=rd) h1 (λ b hb=>hc b (by simp[hb])) (λ j hj=>hrd j (by simp[aS,hj]));obtain⟨hs2,o2,p2,q2⟩:=OT (P:=P) (rd:=rd) h2 (λ b hb=>hc b (by simp[hb])) (λ j hj=>hrd j (by simp[aS,hj]));refine⟨hs1++hs2,o1++o2,gU p1 p2,λag=>?_⟩;simp only[bJ,nK,aK,q1,ah,q2];rfl
 |[],_::_,_,hr,_,_=>by simp[Rn]at hr
 |_::_,[],_,hr,_,_=>by simp[Rn]at hr
theorem Xj{i:Nat}{ae ns:List Nat}{q:RT X.ι}{x:RT.T X q}:∀p∈(J7 i ae ns q x).2,p.1=cA i:=by cases q<;>simp[J7]
theorem Xk{i:Nat}{ae ns:List Nat}:∀{l:List (RT X.ι)}{x:uh X l}{p:List (DV X)×List (Nat×Option (bu X))},MV i ae ns l x=some p->∀q∈p.2,q.1=cA i
 |[],_,p,h=>by simp only[MV,aA]at h;subst h;simp
 |[q],x,p,h=>by simp only[MV,aA]at h;subst h;exact Xj
 |q::q'::l,x,p,h=>by
  simp only[MV]at h;have⟨p',h1,h⟩:=ai.1 h;split at h
  ·cases h;intro z hz;rcases aW.1 hz with hz |hz
   ·exact Xj z hz
   ·exact Xk h1 z hz
  ·cases h
theorem aaR{i:Nat}{ae:List Nat}{l:List (RT X.ι)}{x:uh X l}{p:DV X×List (Nat×Option (bu X))}(h:Do i ae l x=some p):∀q∈p.2,q.1=cA i:=by
 unfold Do at h;have⟨p',h1,h⟩:=ai.1 h;cases h;exact Xk h1
theorem J9{P:Program}{get:Nat->Option aU}{x:AV}{hs ag:List LH}{y:AV}{o:List Prop}(h:nK P get [x] hs=some ([y],ag,o)):pG P get x hs=some (y,ag,o):=by
 simp only[nK,ah,append_nil,ai,aA,Prod.mk.injEq,List.cons.injEq,and_true]at h;obtain⟨q,h1,h2,h3,h4⟩:=h;rw[h1,<- h2,<- h3,<- h4]
theorem lU{d:DV X}{ds:List (DV X)}{a:AT X.ι}{l:List (AT X.ι)}{P:Nat->Prop}(h:∀j∈Lu (d::ds) (a::l),P j):(a.im=false->∀j∈bo d,P j)/\∀j∈Lu ds l,P j:=by
 simp only[Lu,aW]at h;exact⟨λ e j hj=>h j (.inl (by rw[e];simpa using hj)),λj hj=>h j (.inr hj)⟩
theorem anm{c:CT X.ι}{l:List (CT.T X.toSE c)}:dV ((aL (l.map (CT.row X.toSE c))).take (l.map (CT.row X.toSE c)).length)=aL (l.map (CT.row X.toSE c)):=by
 rw[List.take_of_length_le (by simp[aL])];simp only[dV,aL,map_map];exact map_congr_left λy _=>by
  simp only[Function.comp,map_map];exact map_congr_left λz _=>rfl
theorem ZF{get:Nat->Option (bu X)}{d:DV X}{c:CT X.ι}{x:List (CT.T X.toSE c)×Nat×List Bool}(h:WP get d c=some x)(hc:∀b∈x.2.2,b=true):
 d= .own x.2.1 0 (List.length x.1)/\∃o,get x.2.1=some o/\(bF o).sz=(sK c x.1).1/\dV ((bF o).rows.take (sK c x.1).2.length)=aL (sK c x.1).2:=by
 unfold WP at h;split at h
 ·rename_i k len;rw[ai]at h;obtain⟨o,h1,h⟩:=h;split at h
  ·rename_i b l;rw[ai]at h;obtain⟨l',h2,h⟩:=h;cases h;have⟨h3,h4⟩:=jm h2;have h5:len=List.length l':=(by simpa[bm]using hc (bm len (List.length l')) (by simp));refine⟨by rw[h5],.de b l,h1,by simp only[bF,sK];exact h3,?_⟩;simp only[bF,sK,h4];exact anm
  ·cases h
 ·cases h
theorem Xl{get:Nat->Option (bu X)}{d:DV X}{c:CT X.ι}{x:CT.T X.toSE c×Nat}(h:Xi get d c=some x):
 d= .ptr x.2 0 0/\∃o,get x.2=some o/\(bF o).sz=(sK c [x.1]).1/\dV ((bF o).rows.take (sK c [x.1]).2.length)=aL (sK c [x.1]).2:=by
 unfold Xi at h;split at h
 ·rename_i k;rw[ai]at h;obtain⟨o,h1,h⟩:=h;split at h
  ·rename_i sz row;split at h
   ·rename_i hsz;have⟨y,h2,h⟩:=ai.1 h;cases h;refine⟨rfl,_,h1,by simp only[bF,sK];exact hsz,?_⟩;simp only[bF,sK,aC,map_nil,List.length_singleton,List.take_succ_cons,List.take_zero,dV,aL];rw[zR h2]
   ·cases h
  ·cases h
 ·cases h
theorem nS{P:Program}{Γ:FuncId->Option (b9 X)}(hΓ:rI P Γ){get:Nat->Option (bu X)}{rd ae:List Nat}:∀{n:Nat}{ds:List (DV X)}{l:List (AT X.ι)}{a:jf X l×List Nat×List Bool},pM Γ get ds l=some a->(∀ b∈a.2.2,b=true)->(∀ j∈aS ds,j∈rd)->(∀ j∈Lu ds l,j∉ae)->ae.drop n=a.2.1->
 (∃ hs obs,(∀ p∈obs,p)/\∀ag,nC P (dF rd (fC get)) ae (bJ ds) (hs++ag)=some (dP n l a.1,ag,obs))/\∃mo,Dg (dF rd (fC get)) a.2.1 (qL l a.1)=some mo/\∀p∈mo,p
 |n,[],[],a,h,_,_,_,_=>by
  simp only[pM,aA]at h;subst h;exact⟨⟨[],[],by simp,λag=>rfl⟩,[],rfl,by simp⟩
 |n,d::ds,.mut c::l,a,h,hc,hrd,hnr,hid=>by
  simp only[pM]at h;have⟨x,h1,h⟩:=ai.1 h;have⟨q,h2,h⟩:=ai.1 h;cases h;obtain⟨rfl,o,g1,g2,g3⟩:=ZF h1 (λ b hb=>hc b (by simp[hb]));have zr:ae[n]? =some x.2.1:=by rw[<- List.head?_drop,hid];rfl
  have zt:ae.drop (n+1)=q.2.1:=by rw[<- List.tail_drop,hid];rfl
  obtain⟨⟨hs,obs,p1,p2⟩,mo,m1,m2⟩:=nS hΓ (n:=n+1) h2 (λ b hb=>hc b (by simp[hb])) (λ j hj=>hrd j (by simp[aS,hj])) (lU hnr).2 zt;refine⟨⟨.mut n::hs,obs,p1,λag=>?_⟩,((bF o).sz=(sK c x.1).1/\dV ((bF o).rows.take (sK c x.1).2.length)=aL (sK c x.1).2)::mo,?_,?_⟩
  ·simp only[bJ,den,nC,cons_append,sI,zr,if_true,ah,p2,dP,bO]
  ·simp only[qL,Dg,dO (hrd x.2.1 (by simp[aS,bo])) g1,ah,m1]
  ·intro p hp;rcases aM.1 hp with rfl |hp
   ·exact⟨g2,g3⟩
   ·exact m2 p hp
 |n,d::ds,.fm c::l,a,h,hc,hrd,hnr,hid=>by
  simp only[pM]at h;have⟨x,h1,h⟩:=ai.1 h;have⟨q,h2,h⟩:=ai.1 h;cases h;obtain⟨rfl,o,g1,g2,g3⟩:=Xl h1;have zr:ae[n]? =some x.2:=by rw[<- List.head?_drop,hid];rfl
  have zt:ae.drop (n+1)=q.2.1:=by rw[<- List.tail_drop,hid];rfl
  obtain⟨⟨hs,obs,p1,p2⟩,mo,m1,m2⟩:=nS hΓ (n:=n+1) h2 (λ b hb=>hc b (by simp[hb])) (λ j hj=>hrd j (by simp[aS,hj])) (lU hnr).2 zt;refine⟨⟨.mut n::hs,obs,p1,λag=>?_⟩,((bF o).sz=(sK c [x.1]).1/\dV ((bF o).rows.take (sK c [x.1]).2.length)=aL (sK c [x.1]).2)::mo,?_,?_⟩
  ·simp only[bJ,den,nC,cons_append,sI,zr,if_true,ah,p2,dP,bO]
  ·simp only[qL,Dg,dO (hrd x.2 (by simp[aS,bo])) g1,ah,m1]
  ·intro p hp;rcases aM.1 hp with rfl |hp
   ·exact⟨g2,g3⟩
   ·exact m2 p hp
 |n,d::ds,.d c::l,a,h,hc,hrd,hnr,hid=>by
  simp only[pM]at h;have⟨x,h1,h⟩:=ai.1 h;have⟨q,h2,h⟩:=ai.1 h;cases h;obtain⟨hs1,o1,p1,q1⟩:=tC (P:=P) hΓ 3 (n:=n) h1 (λ b hb=>hc b (by simp[hb])) (rd:=rd) (λ j hj=>hrd j (by simp only[aS,append_nil]at hj;simp[aS,hj]));obtain⟨⟨hs,obs,p2,q2⟩,mo,m1,m2⟩:=nS hΓ (n:=n) h2 (λ b hb=>hc b (by simp[hb])) (λ j hj=>hrd j (by simp[aS,hj])) (lU hnr).2 hid;refine⟨⟨ZE (den d) hs1++hs,o1++obs,gU p1 p2,λag=>?_⟩,mo,m1,m2⟩;have:=zT (J9 (q1 (hs++ag))) (λ k hk=>(lU hnr).1 rfl k (by rwa [iU]at hk));rw[OO]at this;simp only[bJ,nC,aK,this,ah,q2,dP]
 |n,d::ds,.ref c::l,a,h,hc,hrd,hnr,hid=>by
  simp only[pM]at h;have⟨x,h1,h⟩:=ai.1 h;have⟨q,h2,h⟩:=ai.1 h;cases h;obtain⟨hs1,o1,p1,q1⟩:=tC (P:=P) hΓ 3 (n:=n) h1 (λ b hb=>hc b (by simp[hb])) (rd:=rd) (λ j hj=>hrd j (by simp only[aS,append_nil]at hj;simp[aS,hj]));obtain⟨⟨hs,obs,p2,q2⟩,mo,m1,m2⟩:=nS hΓ (n:=n) h2 (λ b hb=>hc b (by simp[hb])) (λ j hj=>hrd j (by simp[aS,hj])) (lU hnr).2 hid;refine⟨⟨ZE (den d) hs1++hs,o1++obs,gU p1 p2,λag=>?_⟩,mo,m1,m2⟩;have:=zT (J9 (q1 (hs++ag))) (λ k hk=>(lU hnr).1 rfl k (by rwa [iU]at hk));rw[OO]at this;simp only[bJ,nC,aK,this,ah,q2,dP]
 |n,d::ds,.cV as r::l,a,h,hc,hrd,hnr,hid=>by
  simp only[pM]at h;have⟨x,h1,h⟩:=ai.1 h;have⟨q,h2,h⟩:=ai.1 h;cases h;obtain⟨hs1,o1,p1,q1⟩:=tC (P:=P) hΓ 3 (n:=n) h1 (λ b hb=>hc b (by simp[hb])) (rd:=rd) (λ j hj=>hrd j (by simp only[aS,append_nil]at hj;simp[aS,hj]));obtain⟨⟨hs,obs,p2,q2⟩,mo,m1,m2⟩:=nS hΓ (n:=n) h2 (λ b hb=>hc b (by simp[hb])) (λ j hj=>hrd j (by simp[aS,hj])) (lU hnr).2 hid;refine⟨⟨ZE (den d) hs1++hs,o1++obs,gU p1 p2,λag=>?_⟩,mo,m1,m2⟩;have:=zT (J9 (q1 (hs++ag))) (λ k hk=>(lU hnr).1 rfl k (by rwa [iU]at hk));rw[OO]at this;simp only[bJ,nC,aK,this,ah,q2,dP]
 |n,d::ds,.nil::l,a,h,hc,hrd,hnr,hid=>by
  simp only[pM]at h;split at h
  ·have⟨q,h2,h⟩:=ai.1 h;cases h;obtain⟨⟨hs,obs,p2,q2⟩,mo,m1,m2⟩:=nS hΓ (n:=n) h2 hc (λ j hj=>hrd j (by simp[aS,hj])) (lU hnr).2 hid;refine⟨⟨.nil::hs,obs,p2,λag=>?_⟩,mo,m1,m2⟩;have:=zT (P:=P) (get':=dF rd (fC get)) (ae:=ae) (x:= .cN) (hs:= .nil::(hs++ag)) (p:=(.cN,hs++ag,[])) rfl (λ k hk=>by simp[refs]at hk);simp only[ZE]at this;simp only[bJ,den,nC,cons_append,this,ah,q2,dP,bO]
  ·cases h
 |_,[],_::_,_,h,_,_,_,_=>by simp[pM]at h
 |_,_::_,[],_,h,_,_,_,_=>by simp[pM]at h
theorem ad2{P:Program}(hΓ:rI P Γ){i:Nat}{f:DV X}{args:List (DV X)}{get:Nat->Option (bu X)}{k:KK X A}{r:A}(h:Ts Γ i f args get k=some r):
 ∃cw rd wr dv upd ab,kz P i (den f) (bJ args) cw (dF rd (fC get))=some ab/\jZ ab.obs/\ab.v=den dv/\ab.upd=gG upd/\(∀ p∈upd,p.1=cA i\/p.1∈wr)/\k dv upd rd wr=some r:=by
 unfold Ts at h;split at h
 ·rename_i F first caps
  rw[ai]at h;obtain⟨s,h1,h⟩:=h;split at h
  ·rename_i g hgen;exact ab6 ((hΓ F s h1).2.2 g (Option.filter_eq_some_iff.1 hgen).1) h
  split at h
  ·rename_i hpure;rw[ai]at h;obtain⟨⟨a,cs⟩,h2,h⟩:=h;have⟨hcs,h⟩:=qc h;rw[ai]at h;obtain⟨x,h3,h⟩:=h;rw[ai]at h;obtain⟨p,h4,h⟩:=h;have hf0:=(hΓ F s h1).2.1 a x h3;simp only[aJ]at hpure;rw[Al (anT hpure.1),adM hpure.2]at hf0;have hf:=Wy hf0;have hi:=adZ h4;have hk:=aaR h4;obtain⟨hs,obs,g1,g2⟩:=tC (P:=P) hΓ 3 h2 hcs (rd:=aS (first++args++caps)) (λ j hj=>hj);have g3:=g2 [];rw[append_nil,iF,iF]at g3;have hrefs:eG (bJ first++bJ args++bJ caps)=aS (first++args++caps):=(by rw[<- iF,<- iF,iy]);split at h
   ·rename_i hfl;refine⟨.call hs (um s.res x) true,_,[],p.1,p.2,⟨den p.1,gG p.2,obs++[sA P F (Ak s.args a) (um s.res x),(um s.res x).flat]⟩,?_,?_,rfl,rfl,λq hq=> .inl (hk q hq),h⟩
    ·simp only[den,kz,pK,y7,hi,ah,g3];rfl
    ·exact rU _ (gU g1 (by
      intro q hq;simp only[aM,jA,or_false]at hq;rcases hq with rfl |rfl
      ·exact hf
      ·exact Xg x hfl))
   ·refine⟨.call hs (um s.res x) false,_,_,p.1,_,⟨den p.1,gG p.2++(aS (first++args++caps)).map (λ k=>(k,none)),obs++[sA P F (Ak s.args a) (um s.res x)]⟩,?_,?_,rfl,?_,?_,h⟩
    ·simp only[den,kz,pK,y7,hi,ah,g3,hrefs];rfl
    ·exact rU _ (gU g1 (by
      intro q hq;simp only[aZ]at hq;subst hq;exact hf))
    ·simp only[tF,EX]
    ·intro q hq;rcases aW.1 hq with hq |hq
     ·exact .inl (hk q hq)
     ·exact .inr (Lp hq)
  ·rename_i hpure;rw[ai]at h;obtain⟨⟨a,ae,cs⟩,h2,h⟩:=h;have⟨hcs,h⟩:=qc h;rw[ai]at h;obtain⟨x,h3,h⟩:=h;rw[ai]at h;obtain⟨p,h4,h⟩:=h;split at h
   ·rename_i hc;simp only[aJ,aT]at hc;obtain⟨⟨hnd,hnr⟩,hlen⟩:=hc;have hf:=(hΓ F s h1).2.1 a x h3;have hi:=adZ h4;have hk:=aaR h4;obtain⟨⟨hs,obs,g1,g2⟩,mo,m1,m2⟩:=nS (P:=P) hΓ (rd:=aS (first++args++caps)) (ae:=ae) (n:=0) h2 hcs (λ j hj=>hj) (λ j hj=>by simpa using all_eq_true.1 hnr j hj) rfl;have g3:=g2 [];rw[append_nil,iF,iF]at g3;have hrefs:eG (bJ first++bJ args++bJ caps)=aS (first++args++caps):=(by rw[<- iF,<- iF,iy]);have hlen':(ow s.res x).length=ae.length:=by
     rw[<- hlen];simpa using (congrArg List.length (Rm s.res x)).symm
    have hout:gG (J8 ae (Xh s.res x))=Dh ae (ow s.res x):=aaQ _ _ _ (Rm s.res x);split at h
    ·rename_i hfl;refine⟨.s8 ae (qL s.args a) (ow s.res x) hs (um s.res x) true,_,ae,p.1,_,⟨den p.1,gG p.2++Dh ae (ow s.res x),obs++mo++[rK P F (Ak s.args a) (qL s.args a) (ow s.res x) (um s.res x),(um s.res x).flat,V4 (ow s.res x)]⟩,?_,?_,rfl,?_,?_,h⟩
     ·simp only[den,kz,pK,JQ,hi,ah,m1,g3];rw[aO ⟨hnd,hlen'⟩];rfl
     ·refine rU _ (gU (gU g1 m2) ?_);intro q hq;simp only[aM,jA,or_false]at hq;rcases hq with rfl |rfl |rfl
      ·exact hf
      ·exact Xg x hfl
      ·exact aaN hfl
     ·simp only[tF,hout]
     ·intro q hq;rcases aW.1 hq with hq |hq
      ·exact .inl (hk q hq)
      ·exact .inr (Ni hq)
    ·refine⟨.s8 ae (qL s.args a) (ow s.res x) hs (um s.res x) false,_,_,p.1,_,⟨den p.1,gG p.2++(Dh ae (ow s.res x)++((aS (first++args++caps)).filter λj=>!ae.contains j).map (λ k=>(k,none))),obs++mo++[rK P F (Ak s.args a) (qL s.args a) (ow s.res x) (um s.res x)]⟩,?_,?_,rfl,?_,?_,h⟩
     ·simp only[den,kz,pK,JQ,hi,ah,m1,g3,JP,hrefs];rw[aO ⟨hnd,hlen'⟩];rfl
     ·refine rU _ (gU (gU g1 m2) ?_);intro q hq;simp only[aZ]at hq;subst hq;exact hf
     ·simp only[tF,hout,EX]
     ·intro q hq;rcases aW.1 hq with hq |hq
      ·exact .inl (hk q hq)
      ·rcases aW.1 hq with hq |hq
       ·exact .inr (List.mem_append_left _ (Ni hq))
       ·exact .inr (mem_append_right _ (Lp hq))
   ·cases h
 ·rename_i as q φ;rw[ai]at h;obtain⟨⟨hh,cs⟩,h1,h⟩:=h;have⟨hcs,h⟩:=qc h;rw[ai]at h;obtain⟨y,h2,h⟩:=h;obtain⟨hs,obs,g1,g2⟩:=OT (P:=P) h1 hcs (rd:=aS args) (λ j hj=>hj);have g3:=g2 [];rw[append_nil]at g3;have hφ:∃h' x',φ h'=some x'/\HL.nq X.toSE as hh=HL.nq X.toSE as h'/\CT.tv X.toSE q y=CT.tv X.toSE q x':=⟨hh,y,h2,rfl,rfl⟩;split at h
  ·rename_i hfl;refine⟨.A6 hs (HL.nq X.toSE as hh) (CT.tv X.toSE q y) true,_,[],.c q y,[],⟨(CT.tv X.toSE q y).av,[],obs++[(HL.nq X.toSE as hh).map TV.av=(HL.nq X.toSE as hh).map TV.av,(∃ h' x',φ h'=some x'/\HL.nq X.toSE as hh=HL.nq X.toSE as h'/\CT.tv X.toSE q y=CT.tv X.toSE q x'),(CT.tv X.toSE q y).flat]⟩,?_,?_,rfl,rfl,by simp,h⟩
   ·simp only[den,kz,pK,y7,g3,ah];rfl
   ·exact rU _ (gU g1 (by
     intro z hz;simp only[aM,jA,or_false]at hz;rcases hz with rfl |rfl |rfl
     ·trivial
     ·exact hφ
     ·exact adX hfl y))
  ·refine⟨.A6 hs (HL.nq X.toSE as hh) (CT.tv X.toSE q y) false,_,_,.c q y,_,⟨(CT.tv X.toSE q y).av,(aS args).map (λ k=>(k,none)),obs++[(HL.nq X.toSE as hh).map TV.av=(HL.nq X.toSE as hh).map TV.av,(∃ h' x',φ h'=some x'/\HL.nq X.toSE as hh=HL.nq X.toSE as h'/\CT.tv X.toSE q y=CT.tv X.toSE q x')]⟩,?_,?_,rfl,(EX _).symm,λz hz=> .inr (Lp hz),h⟩
   ·simp only[den,kz,pK,y7,g3,ah,iy];rfl
   ·exact rU _ (gU g1 (by
     intro z hz;simp only[aM,jA,or_false]at hz;rcases hz with rfl |rfl
     ·trivial
     ·exact hφ))
 ·cases h
theorem agp{P:Program}(hΓ:rI P Γ){fz:List Nat}{T:dC}{ao:TypeId->Option (CT X.ι)}{i:Nat}{o:Oper}{ρ:Operand->DV X}{get:Nat->Option (bu X)}{k:KK X A}{r:A}(h:BE Γ fz T ao i o.op ρ get k=some r):cP P T i o ρ get k r:=by
 obtain⟨dst,op,ty,aw,after,guard⟩:=o;unfold BE at h;simp only at h;split at h
 ·rename_i f args cW;have:=ad2 hΓ h;simp only[<- Vl]at this;obtain⟨cw,rd,wr,dv,upd,ab,g1,g2⟩:=this;exact .call g1 g2
 ·split at h
  ·exact agf (o:=⟨dst,op,ty,aw,after,guard⟩) h
  ·split at h
   ·exact agh (o:=⟨dst,op,ty,aw,after,guard⟩) h
   ·split at h
    ·exact agj (o:=⟨dst,op,ty,aw,after,guard⟩) h
    split at h
    ·exact agi (o:=⟨dst,op,ty,aw,after,guard⟩) h
    ·rename_i hne _ _ _ _;have⟨cw,rd,wr,dv,upd,ab,g1,g2⟩:=aaE (o:=⟨dst,op,ty,aw,after,guard⟩) h;exact cP.op (λ f args cW e=>hne f args cW e) g1 g2
end
def k7(x y:AV):Prop:=∀P β w I v,VR P β w I x v->VR P β w I y v
theorem k7.refl(x:AV):k7 x x:=λ_ _ _ _ _ h=>h
theorem k7.undef(x:AV):k7 x .undef:=λ_ _ _ _ _ _=>by simp[VR]
theorem k7.wk(x:AV):k7 x (wk x):=λ_ _ _ _ _ h=>h.wk
section
variable {P:Program} {w0:World} {O0:j0} {N:Nat} {β:Nat->Option cH} {I:Nat->Prop} {a:Act} {w:World} {f g:Nat->Nat} {D:Nat->Prop}
mutual
theorem VR.rn(hgf:∀k,D k->g (f k)=k):∀(x:AV)(v:Value),(∀ k∈refs x,D k)->VR P β w I x v->VR P (λ j=>β (g j)) w I (eV f x) v
 | .own k aa len,v,hd,h=>by simp only[eV,VR,hgf k (hd k (by simp[refs]))]at h ⊢;exact h
 | .ptr k row aa,v,hd,h=>by simp only[eV,VR,hgf k (hd k (by simp[refs]))]at h ⊢;exact h
 | .agg cs,v,hd,h=>by
  simp only[eV,VR]at h ⊢;obtain⟨vs,h1,h2⟩:=h;exact⟨vs,h1,bk.rn hgf cs _ (by simpa[refs]using hd) h2⟩
 | .fh cs,v,hd,h=>by
  simp only[eV,VR]at h ⊢;obtain⟨vs,h1,h2⟩:=h;exact⟨vs,h1,bk.rn hgf cs _ (by simpa[refs]using hd) h2⟩
 | .fn F first caps,v,hd,h=>by
  simp only[eV,VR]at h ⊢;obtain⟨fs,cs,h1,h2,h3⟩:=h;exact⟨fs,cs,h1,bk.rn hgf first _ (λ k hk=>hd k (by simp[refs,hk])) h2,bk.rn hgf caps _ (λ k hk=>hd k (by simp[refs,hk])) h3⟩
 | .t x,v,_,h=>by simpa[eV,VR]using h
 | .eo r o,v,_,h=>by simpa[eV,VR]using h
 | .cV φ,v,_,h=>by simpa[eV,VR]using h
 | .mp k,v,hd,h=>by simp only[eV,VR,hgf k (hd k (by simp[refs]))]at h ⊢;exact h
 | .oz k len,v,hd,h=>by simp only[eV,VR,hgf k (hd k (by simp[refs]))]at h ⊢;exact h
 | .cN,v,_,h=>by simpa[eV,VR]using h
 | .ub,v,_,h=>by simpa[eV,VR]using h
 | .undef,v,_,h=>by simp[eV,VR]
theorem bk.rn(hgf:∀k,D k->g (f k)=k):∀(xs:List AV)(vs:List Value),(∀ k∈eG xs,D k)->bk P β w I xs vs->bk P (λ j=>β (g j)) w I (y8 f xs) vs
 |[],[],_,_=>by simp[y8,bk]
 |x::xs,v::vs,hd,h=>by
  simp only[bk]at h;simp only[y8,bk];exact⟨VR.rn hgf x v (λ k hk=>hd k (by simp[eG,hk])) h.1,bk.rn hgf xs vs (λ k hk=>hd k (by simp[eG,hk])) h.2⟩
 |[],_::_,_,h=>by simp[bk]at h
 |_::_,[],_,h=>by simp[bk]at h
end
def mz(D:Nat->Prop)(f:Nat->Nat):List AV->List AV->Prop
 |[],[]=>True
 |x::xs,y::ys=>((∀ k∈refs x,D k)/\k7 (eV f x) y)/\mz D f xs ys
 |_,_=>False
def gO(D:Nat->Prop)(f:Nat->Nat):List (List AV)->List (List AV)->Prop
 |[],[]=>True
 |r::rs,q::qs=>mz D f r q/\gO D f rs qs
 |_,_=>False
theorem mz.length:∀{r q:List AV},mz D f r q->q.length=r.length
 |[],[],_=>rfl
 |_::xs,_::ys,h=>by simp[mz.length h.2]
 |[],_::_,h=>h.elim
 |_::_,[],h=>h.elim
theorem cQ.re(hgf:∀k,D k->g (f k)=k):∀{r q:List AV}{c:Array Value}{aa:Nat},mz D f r q->cQ P β w I r c aa->cQ P (λ j=>β (g j)) w I q c aa
 |[],[],_,_,_,_=>trivial
 |x::xs,y::ys,c,aa,hr,⟨⟨v,h1,h2,h3⟩,h4⟩=>⟨⟨v,h1,hr.1.2 _ _ _ _ _ (VR.rn hgf x v hr.1.1 h2),h3⟩,cQ.re hgf hr.2 h4⟩
 |[],_::_,_,_,h,_=>h.elim
 |_::_,[],_,_,h,_=>h.elim
theorem br.re(hgf:∀k,D k->g (f k)=k):∀{rs qs:List (List AV)}{c:Array Value}{aa sz:Nat},gO D f rs qs->br P β w I rs c aa sz->br P (λ j=>β (g j)) w I qs c aa sz
 |[],[],_,_,_,_,_=>trivial
 |r::rs,q::qs,c,aa,sz,hr,⟨h1,h2,h3⟩=>⟨by rw[hr.1.length];exact h1,cQ.re hgf hr.1 h2,br.re hgf hr.2 h3⟩
 |[],_::_,_,_,_,h,_=>h.elim
 |_::_,[],_,_,_,h,_=>h.elim
theorem bk.re(hgf:∀k,D k->g (f k)=k):∀{r q:List AV}{vs:List Value},mz D f r q->bk P β w I r vs->bk P (λ j=>β (g j)) w I q vs
 |[],[],[],_,_=>by simp[bk]
 |x::xs,y::ys,v::vs,hr,h=>by
  simp only[bk]at h ⊢;exact⟨hr.1.2 _ _ _ _ _ (VR.rn hgf x v hr.1.1 h.1),bk.re hgf hr.2 h.2⟩
 |[],_::_,_,h,_=>h.elim
 |_::_,[],_,h,_=>h.elim
 |[],[],_::_,_,h=>by simp[bk]at h
 |_::_,_::_,[],_,h=>by simp[bk]at h
theorem cC.re(hgf:∀k,D k->g (f k)=k):∀{rs qs:List (List AV)}{es:List MapEntry},gO D f rs qs->cC P β w I rs es->cC P (λ j=>β (g j)) w I qs es
 |[],[],[],_,_=>trivial
 |r::rs,q::qs,_::es,hr,⟨h1,h2⟩=>⟨bk.re hgf hr.1 h1,cC.re hgf hr.2 h2⟩
 |[],_::_,_,h,_=>h.elim
 |_::_,[],_,h,_=>h.elim
 |[],[],_::_,_,h=>h.elim
 |_::_,_::_,[],_,h=>h.elim
theorem gO.length:∀{rs qs:List (List AV)},gO D f rs qs->qs.length=rs.length
 |[],[],_=>rfl
 |_::xs,_::ys,h=>by simp[gO.length h.2]
 |[],_::_,h=>h.elim
 |_::_,[],h=>h.elim
theorem Rel.re{s s':St}(hgf:∀k,D k->g (f k)=k)(hg:∀j,j<1000->g j=j)(hr:Rel P w0 O0 N β I s a w)(hok:∀t,s.ok t=none\/s'.env t= .undef)(hok':∀t,s'.ok t=none)
 (hE:∀t,s'.env t= .undef\/((∀ k∈refs (s.env t),D k)/\k7 (eV f (s.env t)) (s'.env t)))
 (hO:∀j o',s'.obj j=some o'->∃k o,s.obj k=some o/\D k/\f k=j/\o'.sz=o.sz/\gO D f o.rows o'.rows):Rel P w0 O0 N (λ j=>β (g j)) I s' a w:=by
 refine⟨hr.defers,hr.size,λt=>?_,?_⟩
 ·have h1:=hr.env t;rw[hok' t];rcases hok t with hk |h
  rotate_left
  ·rw[h];simp[eK,VR]
  rw[hk]at h1;rcases hE t with h |⟨h2,h3⟩
  ·rw[h];simp[eK,VR]
  ·exact h3 _ _ _ _ _ (VR.rn hgf _ _ h2 h1)
 ·have hm:=hr.mem;constructor
  ·intro j o' hj;obtain⟨k,o,h1,h2,rfl,h4,h5⟩:=hO j o' hj;have⟨B,hB,rx⟩:=hm.cI k o h1;refine⟨B,by simp only[hgf k h2];exact hB,?_⟩;cases B with
   |none=>
    simp only[OR]at rx ⊢;rw[rx]at h5;cases ho:o'.rows with
    |nil=>rfl
    |cons=>rw[ho]at h5;exact h5.elim
   | «at» b sz n=>
    obtain⟨g1,c,e,g2,g3,g4⟩:=rx;exact⟨by rw[g1,h4],c,e,g2,g3,br.re hgf h5 g4⟩
   |mp b=>
    obtain⟨es,cl,g1,gl,g2,g3⟩:=rx;have hl:=h5.length;exact⟨es,cl,g1,by omega,λe=>cC.re hgf h5 (g2 (by omega)),g3⟩
  ·intro j j' o o' B B' b h1 h2 h3 h4 h5 h6;obtain⟨k,q,i1,i2,rfl,_⟩:=hO j o h1;obtain⟨k',q',i1',i2',rfl,_⟩:=hO j' o' h2;simp only[hgf k i2,hgf k' i2']at h3 h4;rw[hm.gA k k' q q' B B' b i1 i1' h3 h4 h5 h6]
  ·intro j o B b h1 h2;obtain⟨k,q,i1,i2,rfl,_⟩:=hO j o h1;simp only[hgf k i2]at h2;exact hm.ownB k q B b i1 h2
  ·exact hm.lt
  ·exact hm.up
  ·exact hm.keep
  ·exact hm.le
  ·exact hm.os
  ·exact hm.tape
  ·exact hm.output
  ·intro j B hj;show β (g j)=some B;rw[hg j (O0.lt j B hj)];exact hm.anch j B hj
  ·exact hm.vars
end
section
variable {X:SX}
theorem ad3{D:Nat->Prop}(f:Nat->Nat):∀r:List (DV X),(∀ k∈aS r,D k)->mz D f (bJ r) (bJ (Mc f r))
 |[],_=>trivial
 |x::xs,h=>⟨⟨λ k hk=>h k (by rw[iU]at hk;simp[aS,hk]),by rw[Ct];exact k7.refl _⟩,ad3 f xs λk hk=>h k (by simp[aS,hk])⟩
theorem Lv{D:Nat->Prop}(f:Nat->Nat)(o:bu X)(h:∀k∈d5 o,D k):(bF (oy f o)).sz=(bF o).sz/\gO D f (bF o).rows (bF (oy f o)).rows:=by
 cases o with
 |cells sz rows=>
  refine⟨rfl,?_⟩;simp only[bF,oy,map_map];simp only[d5]at h
  induction rows with
  |nil=>trivial
  |cons r rs ih=>
   refine⟨ad3 f r λk hk=>h k (by simp[hk]),ih λk hk=>h k ?_⟩;simp only[aC,flatten_cons,aW];exact .inr hk
 |de c l=>
  refine⟨rfl,?_⟩;simp only[bF,oy];generalize l.map (CT.row X.toSE c)=rows;have hrow:∀r:List Tree,mz D f (r.map AV.t) (r.map AV.t):=by
   intro r
   induction r with
   |nil=>trivial
   |cons y ys ih=>exact⟨⟨by simp[refs],k7.refl _⟩,ih⟩
  induction rows with
  |nil=>trivial
  |cons r rs ih=>exact⟨hrow r,ih⟩
 |map kc vc l=>
  refine⟨rfl,?_⟩;simp only[bF,oy];clear h
  induction l with
  |nil=>trivial
  |cons p ps ih=>exact⟨⟨⟨by simp[Gv],by rw[Xc];exact k7.refl _⟩,⟨by simp[Gv],by rw[Xc];exact k7.refl _⟩,trivial⟩,ih⟩
structure Low(s:dc X):Prop where
 le:s.nx<=1000000
 ge:1000<=s.nx
 env:∀t,∀k∈bo (eC s.env t),k<s.nx
 obj:∀k o,fY s.obj k=some o->k<s.nx/\∀j∈d5 o,j<s.nx
theorem Xm{o:bu X}{r:List AV}{x:AV}(hr:r∈(bF o).rows)(hx:x∈r):∀j∈refs x,j∈d5 o:=by
 intro j hj;cases o with
 |cells sz rows=>
  simp only[bF,mem_map]at hr;obtain⟨q,hq,rfl⟩:=hr;rw[ou,mem_map]at hx;obtain⟨d,hd,rfl⟩:=hx;simp only[d5,List.mem_flatten,mem_map];refine⟨_,⟨q,hq,rfl⟩,?_⟩;have:∀l:List (DV X),d∈l->j∈aS l:=by
   intro l
   induction l with
   |nil=>intro h;simp at h
   |cons y ys ih=>intro h;rcases aM.1 h with rfl |h
                  ·simp only[aS,aW];left;rwa [iU]at hj
                  ·simp only[aS,aW];exact .inr (ih h)
  exact this q hd
 |de c l=>
  simp only[bF,aL,mem_map]at hr;obtain⟨q,_,rfl⟩:=hr;simp only[mem_map]at hx;obtain⟨t,_,rfl⟩:=hx;simp[refs]at hj
 |map kc vc l=>
  simp only[bF,mem_map]at hr;obtain⟨q,_,rfl⟩:=hr;simp only[aM,jA,or_false]at hx;rcases hx with rfl |rfl<;>simp[Gv]at hj
theorem Low.old{s:dc X}(h:Low s):sx s.st:=by
 have hle:=h.le;constructor
 ·intro t k hk;have:=h.env t k (by rw[<- iU];exact hk);omega
 ·intro k o hk;simp only[dc.st,eU]at hk;obtain⟨o',h1,rfl⟩:=hk;have⟨h2,h3⟩:=h.obj k o' h1;refine⟨by omega,λr hr x hx j hj=>?_⟩;have:=h3 j (Xm hr hx j hj);omega
end
section
variable {X:SX} {A:Type}
def oT(e b:List (Nat×DV X))(t:Nat):DV X:=match lk e t with |some x=>x |none=>eC b t
def vi(o b:List (Nat×Option (bu X)))(k:Nat):Option (bu X):=match lk o k with |some x=>x |none=>fY b k
def BA(dst:Option Tmp)(dv:DV X)(e:List (Nat×DV X)):List (Nat×DV X):=match dst with |some t=>(t,dv)::e |none=>e
def Xn:DV X->DV X
 | .skip=> .undef
 |x=>x
def MW(e:List (Nat×DV X)):Operand->Bool
 | .tmp t=>match lk e t with |some .skip=>false |_=>true
 |_=>true
def Tw(e b:List (Nat×DV X))(o:Op):Bool:=
 match o with
 | .pick c x y=>MW e c&&((MW e x&&MW e y) || match Zw (oT e b) c with | .c .bool t=>bif t then MW e x else MW e y |_=>false)
 |o=>o.operands.toList.all (MW e)
abbrev Cp:=List (Nat×List Nat×List Nat)
section
variable (Γ:FuncId->Option (b9 X)) (fz:List Nat) (T:dC) (ao:TypeId->Option (CT X.ι)) (am:Array Oper) (b:dc X)
def Aq(k:List (Nat×DV X)->List (Nat×Option (bu X))->Cp->Option A):List Nat->List (Nat×DV X)->List (Nat×Option (bu X))->Cp->Option A
 |[],e,o,nj=>k e o nj
 |i::r,e,o,nj=>(am[i]?).bind λop=>match op.guard with
  |none=>bif Tw e b.env op.op then BE Γ fz T ao i op.op (Zw (oT e b.env)) (vi o b.obj) λdv upd rd wr=>Aq k r (BA op.dst (Xn dv) e) (upd++o) ((i,rd,wr)::nj)else none
  |some (j,p)=>((am[j]?).bind (·.dst)).bind λt=>match oT e b.env t with
   | .c .bool v=>
    bif v then(bif p then(bif Tw ((t,.c .bool true)::e) b.env op.op then BE Γ fz T ao i op.op (Zw (oT ((t,.c .bool true)::e) b.env)) (vi o b.obj) λdv upd rd wr=>Aq k r (BA op.dst (Xn dv) ((t,.c .bool true)::e)) (upd++o) ((i,rd,wr)::nj)else none)
     else Aq k r (BA op.dst .skip ((t,.c .bool true)::e)) o ((i,[],[])::nj))
    else(bif p then Aq k r (BA op.dst .skip ((t,.c .bool false)::e)) o ((i,[],[])::nj)
     else(bif Tw ((t,.c .bool false)::e) b.env op.op then BE Γ fz T ao i op.op (Zw (oT ((t,.c .bool false)::e) b.env)) (vi o b.obj) λdv upd rd wr=>Aq k r (BA op.dst (Xn dv) ((t,.c .bool false)::e)) (upd++o) ((i,rd,wr)::nj)else none))
   | .skip=>bif(lk e t).isSome then Aq k r (BA op.dst .skip e) o ((i,[],[])::nj)else none
   |_=>none
end
def iE(b:dc X)(e:List (Nat×DV X))(o:List (Nat×Option (bu X))):St:=⟨λ t=>den (oT e b.env t),λk=>(vi o b.obj k).map bF,λt=>match lk e t with |some .skip=>some false |_=>none⟩
theorem aiP(x:DV X):den (Xn x)=den x:=by cases x<;>rfl
theorem akp(b:dc X)(e:List (Nat×DV X))(o:List (Nat×Option (bu X)))(dst:Option Tmp)(dv:DV X)(upd:List (Nat×Option (bu X)))(obs:List Prop):
 (iE b e o).app dst (⟨den dv,gG upd,obs⟩,none)=iE b (BA dst (Xn dv) e) (upd++o):=by
 simp only[iE,St.app,St.mk.injEq];refine⟨?_,?_,?_⟩
 ·funext t;cases dst with
  |none=>simp[Di,BA]
  |some d=>
   simp only[Di,BA,oT,lk,aA];by_cases h:d=t<;>simp[h,aiP]
 ·funext j
  induction upd with
  |nil=>rfl
  |cons p u ih=>
   obtain⟨q,x⟩:=p;simp only[gG,aC,bT,cons_append,vi,lk]at ih ⊢;by_cases h:j=q
   ·simp[h]
   ·rw[aN h,aN (Ne.symm h)];exact ih
 ·funext t;cases dst with
  |none=>simp[Di,BA]
  |some d=>
   simp only[Di,BA,lk,aA];by_cases h:d=t
   ·simp only[h,if_true];cases dv<;>rfl
   ·simp only[aN h]
theorem aiQ(b:dc X)(e:List (Nat×DV X))(o:List (Nat×Option (bu X)))(dst:Option Tmp):(iE b e o).app dst (⟨.undef,[],[]⟩,some false)=iE b (BA dst .skip e) o:=by
 simp only[iE,St.app,St.mk.injEq];refine⟨?_,rfl,?_⟩
 ·funext t;cases dst with
  |none=>simp[Di,BA]
  |some d=>
   simp only[Di,BA,oT,lk,aA];by_cases h:d=t<;>simp[h,den]
 ·funext t;cases dst with
  |none=>simp[Di,BA]
  |some d=>
   simp only[Di,BA,lk,aA];by_cases h:d=t<;>simp[h]
theorem ad4(b:dc X)(e:List (Nat×DV X))(o:List (Nat×Option (bu X))):lw (iE b e o).env=λx=>den (Zw (oT e b.env) x):=by funext x;exact(WC _ x).symm
theorem Fb{b:dc X}{e:List (Nat×DV X)}{o:List (Nat×Option (bu X))}{x:Operand}(h:MW e x=true):yY (iE b e o).ok x=[]:=by
 cases x with
 |tmp t=>
  simp only[MW]at h;simp only[yY,iE];cases ht:lk e t with
  |none=>rfl
  |some d=>rw[ht]at h;cases d<;>first |rfl |cases h
 |_=>rfl
theorem aiR{b:dc X}{e:List (Nat×DV X)}{o:List (Nat×Option (bu X))}{P:Program}{T:dC}{i:Nat}{op:Oper}{cw:i6}{get:Nat->Option aU}{ab:Out}(hok:Tw e b.env op.op=true)
 (h:jI P T i op cw (lw (iE b e o).env) get=some ab):∀p∈needs (iE b e o).env (iE b e o).ok op.op,p:=by
 obtain⟨dst,op,ty,aw,after,guard⟩:=op;unfold needs;split
 ·rename_i c x y heq;simp only at heq;subst heq;simp only[Tw,aJ,Bool.or_eq_true]at hok;obtain⟨hc,hxy⟩:=hok;have hb:∃t,lw (iE b e o).env c= .t (.sc (.bool t)):=by
   have h0:(∃ n,cw= .ext n)\/(∃ ae fr q,cw= .vu ae fr q)\/qG T i ⟨dst,.pick c x y,ty,aw,after,guard⟩ cw (lw (iE b e o).env) get=some ab:=(by cases cw<;>first |exact .inl ⟨_,rfl⟩ |exact .inr (.inl ⟨_,_,_,rfl⟩) |exact .inr (.inr h));rcases h0 with ⟨n,rfl⟩ |⟨ae,fr,q,rfl⟩ |h0
   ·simp[jI,qa,C7,oW,lN]at h
   ·simp[jI,JR,Vc]at h
   ·simp only[qG]at h0;split at h0
    ·rename_i t ht;exact⟨t,ht⟩
    ·cases h0
  obtain⟨t,ht⟩:=hb;rw[ht];simp only[Fb hc,bO];rcases hxy with ⟨hx,hy⟩ |hxy
  ·simp[Fb hx,Fb hy]
  ·split at hxy
   ·rename_i t' ht';have e1:lw (iE b e o).env c= .t (.sc (.bool t')):=(by rw[ad4];simp only[ht'];rfl);rw[e1]at ht;injection ht with ht;injection ht with ht;injection ht with ht;subst ht;cases t' with
    |true=>
     simp only[aj]at hxy;simp[Fb hxy]
    |false=>
     simp only[ak]at hxy;simp[Fb hxy]
   ·cases hxy
 ·rename_i o' hne;intro p hp;have hall:∀x∈op.operands.toList,MW e x=true:=by
   have:Tw e b.env op=op.operands.toList.all (MW e):=(by cases op<;>first |rfl |exact(hne _ _ _ rfl).elim);rw[this]at hok;exact all_eq_true.1 hok
  simp only[List.mem_flatMap]at hp;obtain⟨x,hx,hp⟩:=hp;rw[Fb (hall x hx)]at hp;simp at hp
theorem akq{a b:List Prop}(h:∀p∈a,p)(h':jZ b):jZ (a++b):=rU _ (gU h (Ox b h'))
variable {Γ:FuncId->Option (b9 X)} {fz:List Nat} {T:dC} {ao:TypeId->Option (CT X.ι)} {am:Array Oper} {b:dc X} {P:Program}
theorem aiS(hΓ:rI P Γ){i:Nat}{op:Oper}{e:List (Nat×DV X)}{o:List (Nat×Option (bu X))}{k:KK X A}{r:A}(hop:am[i]? =some op)(hw:want am op (iE b e o).env (iE b e o).ok=some true)(hok:Tw e b.env op.op=true)
 (h:BE Γ fz T ao i op.op (Zw (oT e b.env)) (vi o b.obj) k=some r):
 ∃(a:mj)(dv:DV X)(upd:List (Nat×Option (bu X))),a.sym=false/\k dv upd a.rd a.wr=some r/\∀(cR:Nat->mj)(K:St->Prop),cR i=a->K (iE b (BA op.dst (Xn dv) e) (upd++o))->vx P T am cR i K (iE b e o):=by
 have⟨cw,rd,wr,dv,upd,ab,h1,h2,h3,h4,h5,h6⟩:=agp hΓ h;refine⟨⟨cw,rd,wr,false⟩,dv,upd,rfl,h6,λcR K ha hK=>?_⟩;have h1':jI P T i op cw (lw (iE b e o).env) (dF rd (iE b e o).obj)=some ab:=by rw[ad4];exact h1
 refine⟨op,(⟨ab.v,ab.upd,needs (iE b e o).env (iE b e o).ok op.op++ab.obs⟩,none),hop,?_,?_,?_⟩
 ·unfold opAt;simp only[hop,ah,hw,ha,h1'];rw[aO];rw[all_eq_true];intro p hp;rw[h4]at hp;simp only[gG,mem_map]at hp;obtain⟨q,hq,rfl⟩:=hp;rcases h5 q hq with h |h
  ·simp[h,Wl.2 (.inl rfl:ip (cA i) (cA i))]
  ·simp[h]
 ·exact akq (aiR hok h1') h2
 ·rw[h3,h4,akp];exact hK
theorem step_skip{i:Nat}{op:Oper}{e:List (Nat×DV X)}{o:List (Nat×Option (bu X))}(hop:am[i]? =some op)(hw:want am op (iE b e o).env (iE b e o).ok=some false)
 (cR:Nat->mj) (K:St->Prop) (ha:cR i=⟨.none,[],[],false⟩) (hK:K (iE b (BA op.dst .skip e) o)):vx P T am cR i K (iE b e o):=by
 refine⟨op,(⟨.undef,[],[]⟩,some false),hop,?_,trivial,?_⟩
 ·unfold opAt;simp only[hop,ah,hw,ha]
 ·rw[aiQ];exact hK
theorem agq{e:List (Nat×DV X)}{o:List (Nat×Option (bu X))}{t:Nat}{v:Bool}(h:oT e b.env t= .c .bool v):iE b ((t,.c .bool v)::e) o=iE b e o:=by
 simp only[iE,St.mk.injEq,true_and];refine⟨?_,?_⟩
 ·funext s;by_cases hs:t=s
  ·subst hs;rw[h];simp[oT,lk]
  ·simp[oT,lk,hs]
 ·funext s;by_cases hs:t=s
  ·subst hs;simp only[lk,if_true];unfold oT at h;cases ht:lk e t with
   |none=>rfl
   |some d=>rw[ht]at h;simp only at h;subst h;rfl
  ·simp[lk,hs]
def Md(tr:List (Nat×mj)):Cp:=tr.map λp=>(p.1,p.2.rd,p.2.wr)
def Tx(am:Array Oper)(t:Nat):Prop:=∃(j:Nat)(op:Oper),am[j]? =some op/\op.dst=some t
theorem ad5{dst:Option Tmp}{dv:DV X}{e:List (Nat×DV X)}{p:Nat×DV X}(h:p∈BA dst dv e):p∈e\/dst=some p.1:=by
 cases dst with
 |none=>exact .inl h
 |some t=>
  simp only[BA,aM]at h;rcases h with rfl |h
  ·exact .inr rfl
  ·exact .inl h
theorem GD(hΓ:rI P Γ){k:List (Nat×DV X)->List (Nat×Option (bu X))->Cp->Option A}{r:A}:∀(l:List Nat)(e:List (Nat×DV X))(o:List (Nat×Option (bu X)))(nj:Cp),Aq Γ fz T ao am b k l e o nj=some r->
 ∃(tr:List (Nat×mj))(e':List (Nat×DV X))(o':List (Nat×Option (bu X))),tr.map (·.1)=l/\k e' o' ((Md tr).reverse++nj)=some r/\(∀ p∈e',p∈e\/Tx am p.1)/\
  ∀cR:Nat->mj,(∀ p∈tr,cR p.1=p.2)->Ui P T am cR (λ σ=>σ=iE b e' o') l (iE b e o)
 |[],e,o,nj,h=>⟨[],e,o,rfl,h,λ_ hp=> .inl hp,λ_ _=>rfl⟩
 |i::l,e,o,nj,h=>by
  simp only[Aq]at h;have⟨op,hop,h⟩:=ai.1 h
  have exec:∀e:List (Nat×DV X),want am op (iE b e o).env (iE b e o).ok=some true->
   (bif Tw e b.env op.op then BE Γ fz T ao i op.op (Zw (oT e b.env)) (vi o b.obj) λdv upd rd wr=>Aq Γ fz T ao am b k l (BA op.dst (Xn dv) e) (upd++o) ((i,rd,wr)::nj)else none)=some r->
   ∃(tr:List (Nat×mj)) (e':List (Nat×DV X)) (o':List (Nat×Option (bu X))),tr.map (·.1)=i::l/\k e' o' ((Md tr).reverse++nj)=some r/\(∀ p∈e',p∈e\/Tx am p.1)/\
    ∀cR:Nat->mj,(∀ p∈tr,cR p.1=p.2)->Ui P T am cR (λ σ=>σ=iE b e' o') (i::l) (iE b e o):=by
   intro e hw h;have⟨hok,h⟩:=dD h;have⟨a,dv,upd,_,h1,h2⟩:=aiS hΓ hop hw hok h;obtain⟨tr,e',o',g1,g2,g4,g3⟩:=GD hΓ l _ _ _ h1;refine⟨(i,a)::tr,e',o',by simp[g1],?_,λp hp=>(g4 p hp).elim (λ hp=>(ad5 hp).elim .inl λhd=> .inr ⟨i,op,hop,hd⟩) .inr,λcR ha=>?_⟩
   ·simpa[Md]using g2
   ·exact h2 cR _ (ha (i,a) (by simp)) (g3 cR λp hp=>ha p (by simp[hp]))
  have skip:∀e:List (Nat×DV X),want am op (iE b e o).env (iE b e o).ok=some false->Aq Γ fz T ao am b k l (BA op.dst .skip e) o ((i,[],[])::nj)=some r->
   ∃(tr:List (Nat×mj)) (e':List (Nat×DV X)) (o':List (Nat×Option (bu X))),tr.map (·.1)=i::l/\k e' o' ((Md tr).reverse++nj)=some r/\(∀ p∈e',p∈e\/Tx am p.1)/\
    ∀cR:Nat->mj,(∀ p∈tr,cR p.1=p.2)->Ui P T am cR (λ σ=>σ=iE b e' o') (i::l) (iE b e o):=by
   intro e hw h;obtain⟨tr,e',o',g1,g2,g4,g3⟩:=GD hΓ l _ _ _ h;refine⟨(i,⟨.none,[],[],false⟩)::tr,e',o',by simp[g1],?_,λp hp=>(g4 p hp).elim (λ hp=>(ad5 hp).elim .inl λhd=> .inr ⟨i,op,hop,hd⟩) .inr,λcR ha=>?_⟩
   ·simpa[Md]using g2
   ·exact step_skip hop hw cR _ (ha (i,_) (by simp)) (g3 cR λp hp=>ha p (by simp[hp]))
  split at h
  ·rename_i hg;exact exec e (by simp[want,hg]) h
  ·rename_i j p hg;rw[ai]at h;obtain⟨t,ht,h⟩:=h;split at h
   ·rename_i v hv;have hw:∀e:List (Nat×DV X),oT e b.env t= .c .bool v->want am op (iE b e o).env (iE b e o).ok=some (v==p):=by
     intro e he;simp only[want,hg,ht];have h0:(iE b e o).ok t=none:=by
      simp only[iE];unfold oT at he;cases hq:lk e t with
      |none=>rfl
      |some d=>rw[hq]at he;simp only at he;subst he;rfl
     have h1:(iE b e o).env t= .t (.sc (.bool v)):=(by simp only[iE,he];rfl);rw[h0,h1]
    have hk:=agq (b:=b) (o:=o) hv;have hv':oT ((t,.c .bool v)::e) b.env t= .c .bool v:=(by simp[oT,lk]);have htd:Tx am t:=by
     have⟨oj,h1,h2⟩:=ai.1 ht;exact⟨j,oj,h1,h2⟩
    have wide:(∃ (tr:List (Nat×mj)) (e':List (Nat×DV X)) (o':List (Nat×Option (bu X))),tr.map (·.1)=i::l/\k e' o' ((Md tr).reverse++nj)=some r/\(∀ p∈e',p∈((t,.c .bool v)::e:List (Nat×DV X))\/Tx am p.1)/\
     ∀cR:Nat->mj,(∀ p∈tr,cR p.1=p.2)->Ui P T am cR (λ σ=>σ=iE b e' o') (i::l) (iE b ((t,.c .bool v)::e) o))->
     ∃(tr:List (Nat×mj)) (e':List (Nat×DV X)) (o':List (Nat×Option (bu X))),tr.map (·.1)=i::l/\k e' o' ((Md tr).reverse++nj)=some r/\(∀ p∈e',p∈e\/Tx am p.1)/\
     ∀cR:Nat->mj,(∀ p∈tr,cR p.1=p.2)->Ui P T am cR (λ σ=>σ=iE b e' o') (i::l) (iE b e o):=by
     rintro⟨tr,e',o',g1,g2,g4,g3⟩;refine⟨tr,e',o',g1,g2,λq hq=>?_,hk ▸ g3⟩;rcases g4 q hq with h |h
     ·rcases aM.1 h with rfl |h
      ·exact .inr htd
      ·exact .inl h
     ·exact .inr h
    apply wide;cases v with
    |true=>
     simp only[aj]at h;cases p with
     |true=>exact exec _ (hw _ hv') h
     |false=>exact skip _ (hw _ hv') h
    |false=>
     simp only[ak]at h;cases p with
     |true=>exact skip _ (hw _ hv') h
     |false=>exact exec _ (hw _ hv') h
   ·rename_i hv;have⟨hsome,h⟩:=dD h;refine skip e ?_ h;simp only[want,hg,ht];have h1:(iE b e o).env t= .undef:=(by simp only[iE,hv];rfl);cases hq:lk e t with
    |some d=>
     have h0:(iE b e o).ok t=some false:=by
      unfold oT at hv;rw[hq]at hv;simp only at hv;subst hv;simp only[iE,hq]
     rw[h0,h1]
    |none=>rw[hq]at hsome;cases hsome
   ·cases h
end
section
variable {X:SX} {A:Type}
def fN(nx k:Nat):Nat:=if k<1000000 then k else nx+(k -1000000)
def gN(nx j:Nat):Nat:=if j<nx then j else 1000000+(j -nx)
def Fl(nx sz k:Nat):Bool:=decide (k<nx) || (decide (1000000<=k)&&decide (k<1000000+sz))
def okE(nx sz:Nat)(e:List (Nat×DV X)):Bool:=e.all λp=>(bo p.2).all (Fl nx sz)
def okO(nx sz:Nat)(o:List (Nat×Option (bu X))):Bool:=o.all λp=>Fl nx sz p.1&&match p.2 with |some x=>(d5 x).all (Fl nx sz) |none=>true
def Jx(nj:Cp):Nat->mj:=λi=>match lk nj i with |some p=>⟨.none,p.1,p.2,false⟩ |none=>⟨.none,[],[],false⟩
def De(tr:List (Nat×mj)):Nat->mj:=λi=>match lk tr i with |some a=>a |none=>⟨.none,[],[],false⟩
def HH:DV X->DV X
 | .skip=> .undef
 |x=>x
theorem aks(x:DV X):den (HH x)=den x:=by cases x<;>rfl
theorem aaS(x:DV X):bo (HH x)=bo x:=by cases x<;>rfl
def fin(s:dc X)(e:List (Nat×DV X))(o:List (Nat×Option (bu X)))(sz:Nat):dc X:=
 ⟨e.map (λ p=>(p.1,HH (nb (fN s.nx) p.2)))++s.env,o.map (λ p=>(fN s.nx p.1,p.2.map (oy (fN s.nx))))++s.obj,s.nx+sz,o.map (λ p=>fN s.nx p.1)++s.log⟩
def akt(N:Nat)(am:Array Oper)(d:Bool)(nx:Nat)(e:List (Nat×DV X))(o:List (Nat×Option (bu X)))(nj:Cp):Bool:=
 My N am&&(!d || Lq am (Jx nj))&&okE nx (64*am.size) e&&okO nx (64*am.size) o&&decide (nx+64*am.size<=1000000)
def T3(Γ:FuncId->Option (b9 X))(fz:List Nat)(T:dC)(ao:TypeId->Option (CT X.ι))(N:Nat)(am:Array Oper)(d:Bool)(s:dc X)(k:dc X->Option A):Option A:=
 Aq Γ fz T ao am s (λ e o nj=>bif akt N am d s.nx e o nj then k (fin s e o (64*am.size))else none) (List.range am.size) [] [] []
theorem ad6{am:Array Oper}{cR tt:Nat->mj}(h:∀i,(cR i).rd=(tt i).rd/\(cR i).wr=(tt i).wr):Lq am cR=Lq am tt:=by
 have h1:y9 cR=y9 tt:=by
  funext i j;simp only[y9,(h i).1,(h i).2,(h j).1,(h j).2]
 have h2:∀md,QZ md am cR=QZ md am tt:=by
  intro md;funext listed i;simp only[QZ,h1]
 have h3:∀(md:Region.Mode)(n k:Nat)(listed:Array Bool),lexFrom' md am cR n k listed=lexFrom' md am tt n k listed:=by
  intro md n
  induction n with
  |zero=>intro k listed;rfl
  |succ n ih=>intro k listed;simp only[lexFrom',h2,ih]
 exact h3 _ _ _ _
theorem Fe{α:Type}:∀(a b:List (Nat×α))(k:Nat),lk (a++b) k=match lk a k with |some x=>some x |none=>lk b k
 |[],_,_=>rfl
 |(j,x)::a,b,k=>by
  simp only[cons_append,lk];by_cases h:j=k
  ·simp[h]
  ·simp only[aN h,Fe a b k]
theorem ahV{α:Type}:∀{l:List (Nat×α)}{k:Nat},lk l k=none->∀x,(k,x)∉l
 |(j,y)::r,k,h,x=>by
  simp only[lk]at h;split at h
  ·cases h
  ·rename_i hn;simp only[aM,Prod.mk.injEq,not_or];exact⟨λ e=>hn e.1.symm,ahV h x⟩
 |[],_,_,_=>by simp
theorem ano{tr:List (Nat×mj)}(hn:(tr.map (·.1)).Nodup)(i:Nat):(Jx (Md tr).reverse i).rd=(De tr i).rd/\(Jx (Md tr).reverse i).wr=(De tr i).wr:=by
 have hn':((Md tr).reverse.map (·.1)).Nodup:=by
  rw[List.map_reverse];have h1:((Md tr).map (·.1)).Nodup:=by simpa[Md,Function.comp_def]using hn
  exact List.pairwise_reverse.2 (h1.imp λh=>Ne.symm h)
 unfold Jx De;cases h:lk tr i with
 |none=>
  cases h':lk (Md tr).reverse i with
  |none=>exact⟨rfl,rfl⟩
  |some p=>
   have:=sJ h';simp only[Md,List.mem_reverse,mem_map]at this;obtain⟨q,hq,he⟩:=this;injection he with e1 e2;subst e1;exact(ahV h q.2 hq).elim
 |some a=>
  have h1:=sJ h;have h2:(i,a.rd,a.wr)∈(Md tr).reverse:=by
   simp only[Md,List.mem_reverse,mem_map];exact⟨(i,a),h1,rfl⟩
  rw[vP hn' h2];exact⟨rfl,rfl⟩
theorem aku{tr:List (Nat×mj)}(hn:(tr.map (·.1)).Nodup):∀p∈tr,De tr p.1=p.2:=by
 rintro⟨i,a⟩ hp;unfold De;rw[vP hn hp]
theorem Xo{nx sz k:Nat}(h:Fl nx sz k=true):k<nx\/(1000000<=k/\k<1000000+sz):=by simpa[Fl]using h
theorem RM{nx sz k:Nat}(hle:nx+sz<=1000000)(h:k<nx\/(1000000<=k/\k<1000000+sz)):gN nx (fN nx k)=k:=by
 unfold gN fN;rcases h with h |⟨h1,h2⟩
 ·rw[aO (show k<1000000 by omega),aO h]
 ·rw[aN (show ¬k<1000000 by omega),aN (by omega)];omega
theorem DS{nx sz k:Nat}(hle:nx+sz<=1000000)(h:k<nx\/(1000000<=k/\k<1000000+sz)):fN nx k<nx+sz:=by
 unfold fN;rcases h with h |⟨h1,h2⟩
 ·rw[aO (show k<1000000 by omega)];omega
 ·rw[aN (show ¬k<1000000 by omega)];omega
theorem Kx{nx k:Nat}(hle:nx<=1000000)(h:k<nx):fN nx k=k:=aO (by omega)
mutual
theorem Xp{f:Nat->Nat}:∀x:DV X,(∀ k∈bo x,f k=k)->nb f x=x
 | .own k _ _,h=>by simp only[nb,h k (by simp[bo])]
 | .ptr k _ _,h=>by simp only[nb,h k (by simp[bo])]
 | .p0 k _ _,h=>by simp only[nb,h k (by simp[bo])]
 | .mp k,h=>by simp only[nb,h k (by simp[bo])]
 | .oz k _,h=>by simp only[nb,h k (by simp[bo])]
 | .rm k _ _ _ _,h=>by simp only[nb,h k (by simp[bo])]
 | .agg cs,h=>by simp only[nb,Cv cs (by simpa[bo]using h)]
 | .fh cs,h=>by simp only[nb,Cv cs (by simpa[bo]using h)]
 | .fn F first caps,h=>by simp only[nb,Cv first (λ k hk=>h k (by simp[bo,hk])),Cv caps (λ k hk=>h k (by simp[bo,hk]))]
 | .c _ _,_=>rfl
 | .rp _ _ _,_=>rfl
 | .vd _ _ _ _ _,_=>rfl
 | .cV _ _ _,_=>rfl
 | .raw _,_=>rfl
 | .nil,_=>rfl
 | .ub,_=>rfl
 | .skip,_=>rfl
 | .undef,_=>rfl
theorem Cv{f:Nat->Nat}:∀l:List (DV X),(∀ k∈aS l,f k=k)->Mc f l=l
 |[],_=>rfl
 |x::xs,h=>by simp only[Mc,Xp x (λ k hk=>h k (by simp[aS,hk])),Cv xs (λ k hk=>h k (by simp[aS,hk]))]
end
mutual
theorem Xq(f:Nat->Nat):∀x:DV X,bo (nb f x)=(bo x).map f
 | .own _ _ _=>rfl
 | .ptr _ _ _=>rfl
 | .p0 _ _ _=>rfl
 | .mp _=>rfl
 | .oz _ _=>rfl
 | .rm _ _ _ _ _=>rfl
 | .agg cs=>by simp only[nb,bo,zW f cs]
 | .fh cs=>by simp only[nb,bo,zW f cs]
 | .fn F first caps=>by simp only[nb,bo,zW f first,zW f caps,map_append]
 | .c _ _=>rfl
 | .rp _ _ _=>rfl
 | .vd _ _ _ _ _=>rfl
 | .cV _ _ _=>rfl
 | .raw _=>rfl
 | .nil=>rfl
 | .ub=>rfl
 | .skip=>rfl
 | .undef=>rfl
theorem zW(f:Nat->Nat):∀l:List (DV X),aS (Mc f l)=(aS l).map f
 |[]=>rfl
 |x::xs=>by simp only[Mc,aS,Xq f x,zW f xs,map_append]
end
theorem ad7(f:Nat->Nat)(o:bu X):d5 (oy f o)=(d5 o).map f:=by
 cases o with
 |cells sz rows=>simp only[oy,d5,map_map,List.map_flatten];congr 1;exact map_congr_left λr _=>zW f r
 |de c l=>rfl
 |map kc vc l=>rfl
theorem akv{α β:Type}(f:α->β):∀(l:List (Nat×α))(k:Nat),lk (l.map λp=>(p.1,f p.2)) k=(lk l k).map f
 |[],_=>rfl
 |(j,x)::r,k=>by
  simp only[aC,lk];by_cases h:j=k
  ·simp[h]
  ·simp only[aN h,akv f r k]
theorem ahX{α β:Type}(f:α->β)(g:Nat->Nat):∀(l:List (Nat×α))(j:Nat),(∀ p∈l,∀q∈l,g p.1=g q.1->p.1=q.1)->
 (∀ y,lk (l.map λp=>(g p.1,f p.2)) j=some y->∃k x,lk l k=some x/\g k=j/\y=f x)/\(lk (l.map λp=>(g p.1,f p.2)) j=none->∀p∈l,g p.1≠j)
 |[],_,_=>⟨λ _ h=>by simp[lk]at h,λ_=>by simp⟩
 |(k0,x0)::r,j,hi=>by
  obtain⟨i1,i2⟩:=ahX f g r j (λ p hp q hq=>hi p (by simp[hp]) q (by simp[hq]));simp only[aC,lk];by_cases h:g k0=j
  ·rw[aO h];exact⟨λ y hy=>by injection hy with hy;exact⟨k0,x0,by simp,h,hy.symm⟩,λhn=>by cases hn⟩
  ·rw[aN h];refine⟨λ y hy=>?_,λhn p hp=>?_⟩
   ·have⟨k,x,h1,h2,h3⟩:=i1 y hy;refine⟨k,x,?_,h2,h3⟩;have hne:k0≠k:=λe=>h (by rw[e];exact h2);rw[aN hne];exact h1
   ·rcases aM.1 hp with rfl |hp
    ·exact h
    ·exact i2 hn p hp
structure Ext(ds:Nat->Prop)(s s':dc X):Prop where
 env:∀t,¬ds t->eC s'.env t=eC s.env t\/eC s'.env t= .undef
 obj:∃d,s'.log=d++s.log/\∀k,k<s.nx->k∉d->fY s'.obj k=fY s.obj k\/fY s'.obj k=none
 nx:s.nx<=s'.nx
variable {Γ:FuncId->Option (b9 X)} {fz:List Nat} {T:dC} {ao:TypeId->Option (CT X.ι)} {P:Program} {N:Nat}
theorem OU(s:dc X)(e:List (Nat×DV X))(o:List (Nat×Option (bu X)))(sz t:Nat):eC (fin s e o sz).env t=match lk e t with |some d=>HH (nb (fN s.nx) d) |none=>eC s.env t:=by
 simp only[fin,eC,Fe,akv (λ d=>HH (nb (fN s.nx) d))];cases lk e t<;>rfl
theorem ab9(hT:eZ P T)(hm:P.follows .mixedOrders=true)(hΓ:rI P Γ){id:Nat}{am:Array Oper}{d:Bool}{s:dc X}{k:dc X->Option A}{r:A}(hl:Low s)(h:T3 Γ fz T ao N am d s k=some r):
 ∃s':dc X,k s'=some r/\Low s'/\Ext (Tx am) s s'/\Ev P N (.region id am d) (λ e σ=>e= .normal/\σ=s'.st) s.st:=by
 unfold T3 at h;obtain⟨tr,e,o,h1,h2,h3,h4⟩:=GD hΓ _ _ _ _ h;have⟨h5,h6⟩:=dD h2;simp only[akt,aJ,append_nil]at h5;obtain⟨⟨⟨⟨hd,hlex⟩,hE⟩,hO⟩,hnx⟩:=h5;have hle:s.nx+64*am.size<=1000000:=of_decide_eq_true hnx;have GF:(tr.map (·.1)).Nodup:=by rw[h1];exact List.nodup_range
 have Q4:∀t x,lk e t=some x->∀j∈bo x,j<s.nx\/(1000000<=j/\j<1000000+64*am.size):=by
  intro t x hx j hj;have:=all_eq_true.1 hE _ (sJ hx);exact Xo (all_eq_true.1 this j hj)
 have G0:∀p∈o,(p.1<s.nx\/(1000000<=p.1/\p.1<1000000+64*am.size))/\∀x,p.2=some x->∀j∈d5 x,j<s.nx\/(1000000<=j/\j<1000000+64*am.size):=by
  intro p hp;have:=all_eq_true.1 hO _ hp;simp only[aJ]at this;refine⟨Xo this.1,λx hx j hj=>?_⟩;have h2:=this.2;rw[hx]at h2;exact Xo (all_eq_true.1 h2 j hj)
 have hinj:∀p∈o,∀q∈o,fN s.nx p.1=fN s.nx q.1->p.1=q.1:=by
  intro p hp q hq he;have:=congrArg (gN s.nx) he
  rwa [RM hle (G0 p hp).1,RM hle (G0 q hq).1]at this
 have vm:∀j,(∃ q x,lk o q=some x/\fN s.nx q=j/\fY (fin s e o (64*am.size)).obj j=x.map (oy (fN s.nx)))\/(fY (fin s e o (64*am.size)).obj j=fY s.obj j/\∀p∈o,fN s.nx p.1≠j):=by
  intro j;obtain⟨i1,i2⟩:=ahX (λ x:Option (bu X)=>x.map (oy (fN s.nx))) (fN s.nx) o j hinj;simp only[fin,fY,Fe];cases hj:lk (o.map λp=>(fN s.nx p.1,p.2.map (oy (fN s.nx)))) j with
  |none=>exact .inr ⟨rfl,i2 hj⟩
  |some y=>
   have⟨q,x,g1,g2,g3⟩:=i1 y hj;exact .inl ⟨q,x,g1,g2,by rw[g3];rfl⟩
 refine⟨fin s e o (64*am.size),h6,?_,?_,?_⟩
 ·constructor
  ·exact hle
  ·have:=hl.ge;show 1000<=s.nx+64*am.size;omega
  ·intro t j hj;rw[OU]at hj;cases ht:lk e t with
   |none=>rw[ht]at hj;have:=hl.env t j hj;show j<s.nx+64*am.size;omega
   |some x=>
    rw[ht,aaS,Xq]at hj;obtain⟨q,hq,rfl⟩:=mem_map.1 hj;exact DS hle (Q4 t x ht q hq)
  ·intro j x hx;rcases vm j with ⟨q,y,g1,rfl,g3⟩ |⟨g1,_⟩
   ·rw[g3]at hx;rw[eU]at hx;obtain⟨z,rfl,rfl⟩:=hx;obtain⟨k1,k2⟩:=G0 _ (sJ g1);refine⟨DS hle k1,λi hi=>?_⟩;rw[ad7]at hi;obtain⟨i',hi',rfl⟩:=mem_map.1 hi;exact DS hle (k2 z rfl i' hi')
   ·rw[g1]at hx;have⟨k1,k2⟩:=hl.obj j x hx;refine⟨show j<s.nx+64*am.size by omega,λi hi=>?_⟩;have:=k2 i hi;show i<s.nx+64*am.size;omega
 ·refine⟨λ t ht=> .inl ?_,⟨o.map (λ p=>fN s.nx p.1),rfl,λj hj hn=>?_⟩,by show s.nx<=s.nx+64*am.size;omega⟩
  ·rw[OU];cases hx:lk e t with
   |none=>rfl
   |some x=>
    rcases h3 _ (sJ hx)with h |h
    ·simp at h
    ·exact(ht h).elim
  ·rcases vm j with ⟨q,y,g1,g2,g3⟩ |⟨g1,_⟩
   ·exact(hn (mem_map.2 ⟨(q,y),sJ g1,g2⟩)).elim
   ·exact .inl g1
 ·have hst:iE s [] []=s.st:=rfl;have hex:=h4 (De tr) (aku GF);rw[hst]at hex;intro w0 O0 β I a w hr ho;have done:∀(e':Exit)(a':Act)(w':World),(∃ β' I' σ1,Rel P w0 O0 N β' I' σ1 a' w'/\e'= .normal/\σ1=iE s e o)->∃ β' I' σ1,Rel P w0 O0 N β' I' σ1 a' w'/\sx σ1/\e'= .normal/\σ1=(fin s e o (64*am.size)).st:=by
   rintro e' a' w' ⟨β',I',σ1,g1,rfl,rfl⟩;refine⟨_,I',(fin s e o (64*am.size)).st,Rel.re (f:=fN s.nx) (g:=gN s.nx) (D:=λk=>k<s.nx\/(1000000<=k/\k<1000000+64*am.size)) (λ k hk=>RM hle hk) (λ j hj=>by have:=hl.ge;unfold gN;rw[aO (by omega)]) g1 (λ t=>?_) (λ _=>rfl) (λ t=> .inr ?_) (λ j o' hj=>?_),?_,rfl,rfl⟩
   ·show(match lk e t with |some .skip=>some false |_=>none)=none\/den (eC (fin s e o (64*am.size)).env t)= .undef;rw[OU];cases ht:lk e t with
    |none=>exact .inl rfl
    |some d=>cases d<;>first |exact .inl rfl |exact .inr rfl
   ·show(∀ k∈refs (den (oT e s.env t)),_)/\k7 (eV (fN s.nx) (den (oT e s.env t))) (den (eC (fin s e o (64*am.size)).env t));rw[OU,iU,<- Ct];unfold oT;cases ht:lk e t with
    |none=>
     refine⟨λ q hq=> .inl (hl.env t q hq),?_⟩;rw[Xp _ (λ q hq=>Kx (by omega) (hl.env t q hq))];exact k7.refl _
    |some x=>exact⟨Q4 t x ht,by simp only[aks];exact k7.refl _⟩
   ·simp only[dc.st,eU]at hj;obtain⟨x,hx,rfl⟩:=hj;rcases vm j with ⟨q,y,i1,rfl,i3⟩ |⟨i1,i2⟩
    ·rw[i3,eU]at hx;obtain⟨z,rfl,rfl⟩:=hx;obtain⟨k1,k2⟩:=G0 _ (sJ i1);obtain⟨r1,r2⟩:=Lv (D:=λk=>k<s.nx\/(1000000<=k/\k<1000000+64*am.size)) (fN s.nx) z (λ i hi=>k2 z rfl i hi);refine⟨q,bF z,?_,k1,rfl,r1,r2⟩;simp only[iE,vi,i1,Option.map_some]
    ·rw[i1]at hx;have⟨k1,k2⟩:=hl.obj j x hx;have hid:oy (fN s.nx) x=x:=by
      cases x with
      |de c l=>rfl
      |map kc vc l=>rfl
      |cells sz rows=>
       simp only[oy];congr 1;have:∀q∈rows,Mc (fN s.nx) q=q:=λq hq=>Cv q λi hi=>Kx (by omega) (k2 i (by
        simp only[d5,List.mem_flatten,mem_map];exact⟨_,⟨q,hq,rfl⟩,hi⟩))
       rw[map_congr_left this];simp
     obtain⟨r1,r2⟩:=Lv (D:=λk=>k<s.nx\/(1000000<=k/\k<1000000+64*am.size)) (fN s.nx) x (λ i hi=> .inl (k2 i hi));rw[hid]at r1 r2;refine⟨j,bF x,?_,.inl k1,Kx (by omega) k1,r1,r2⟩;simp only[iE,vi];cases hlo:lk o j with
     |none=>simp[hx]
     |some y=>exact(i2 _ (sJ hlo) (Kx (by omega) k1)).elim
   ·have hL:Low (fin s e o (64*am.size)):=by
     constructor
     ·exact hle
     ·have:=hl.ge;show 1000<=s.nx+64*am.size;omega
     ·intro t j hj;rw[OU]at hj;cases ht:lk e t with
      |none=>rw[ht]at hj;have:=hl.env t j hj;show j<s.nx+64*am.size;omega
      |some x=>
       rw[ht,aaS,Xq]at hj;obtain⟨q,hq,rfl⟩:=mem_map.1 hj;exact DS hle (Q4 t x ht q hq)
     ·intro j x hx;rcases vm j with ⟨q,y,g1,rfl,g3⟩ |⟨g1,_⟩
      ·rw[g3]at hx;rw[eU]at hx;obtain⟨z,rfl,rfl⟩:=hx;obtain⟨k1,k2⟩:=G0 _ (sJ g1);refine⟨DS hle k1,λi hi=>?_⟩;rw[ad7]at hi;obtain⟨i',hi',rfl⟩:=mem_map.1 hi;exact DS hle (k2 z rfl i' hi')
      ·rw[g1]at hx;have⟨k1,k2⟩:=hl.obj j x hx;refine⟨show j<s.nx+64*am.size by omega,λi hi=>?_⟩;have:=k2 i hi;show i<s.nx+64*am.size;omega
    exact hL.old
  cases d with
  |false=>exact wp_mono (aiu hT hd ho hex hr) done
  |true=>
   refine wp_mono (Wu hT hm hd ?_ ho hex hr) done;rw[<- ad6 (ano GF)];simpa using hlex
end
end Go.Gb
namespace Go.Gb
open Go.RowKit
structure Sh(ι:Type) where
 slots:List (Nat×Pt ι)
 cI:List (Nat×OP ι)
 keep:List Nat
 cX:List Nat
 nx:Nat
 ym:List (Nat×CT ι)
def Sh.vars{ι:Type}(s:Sh ι):List (CT ι):=ie s.slots++cE s.cI
section
variable {X:SX}
def nz(z:Bool)(k:Nat):DV X:=bif z then .oz k 0 else .own k 0 0
def xy(z:Bool)(s:dc X)(t:Nat)(c:CT X.ι):dc X:=
 match eC s.env t with
 | .nil=>if s.nx<1000000 then⟨(t,nz z s.nx)::s.env,(s.nx,some (.de c []))::s.obj,s.nx+1,s.nx::s.log⟩else s
 |_=>s
def Dd(s:dc X)(q j:Nat)(c:CT X.ι):dc X:=
 match fY s.obj q with
 |some (.cells sz [row])=>match row[j]? with
  |some .nil=>if s.nx<1000000 then⟨s.env,(q,some (.cells sz [row.set j (.own s.nx 0 0)]))::(s.nx,some (.de c []))::s.obj,s.nx+1,q::s.nx::s.log⟩else s
  |_=>s
 |_=>s
def Ro:List (Nat×CT X.ι)->dc X->dc X
 |[],s=>s
 |(t,c)::r,s=>Ro r (bif Nat.ble 1000000 t then bif Nat.ble 1099511627776 t then xy true s (t -1099511627776) c else Dd s ((t -1000000)/4096) ((t -1000000)%4096) c else xy false s t c)
def ZZ:DV X->Bool
 | .undef | .skip=>true
 |_=>false
def encS(sh:Sh X.ι)(s0:dc X)(v:VT (X:=X) sh.vars):dc X:=
 let L:=xh sh.vars v
 let n:=(ie sh.slots).length
 let ol:=λk=>(lk (lens sh.cI (L.drop n)) k).getD 0
 ⟨Nf ol sh.slots (L.take n)++sh.keep.map (λ t=>(t,eC s0.env t)),bZ ol sh.cI (L.drop n)++sh.cX.map (λ k=>(k,fY s0.obj k)),sh.nx,
  (List.range s0.nx).filter (λ k=>!sh.cX.contains k)++s0.log⟩
def YY(sh:Sh X.ι)(ds:List Nat)(s0 s':dc X)(m:MA X):Bool:=
 decide (m.nm.map (·.1)++sh.cX).Nodup&&decide (m.nm.map (·.2)++sh.cX).Nodup&&decide (sh.cI.map (·.1)).Nodup&&m.nm.all (λ q=>(sh.cI.map (·.1)).contains q.2&&decide (q.2<sh.nx)&&(decide (q.1=q.2) || decide (1000<=q.2)))&&
  sh.slots.all (λ p=>ds.contains p.1)&&sh.keep.all (λ t=>!ds.contains t&&!ZZ (eC s'.env t)&&(bo (eC s0.env t)).all λj=>sh.cX.contains j || m.nm.contains (j,j))&&
  sh.cX.all (λ k=>decide (k<s0.nx)&&!(s'.log.take (s'.log.length -s0.log.length)).contains k&&(fY s'.obj k).isSome&&match fY s0.obj k with |some o=>(d5 o).all λj=>sh.cX.contains j || m.nm.contains (j,j) |none=>false)&&
  decide (s0.nx<=sh.nx)&&decide (sh.nx<=1000000)
def L4{A:Type}(sh:Sh X.ι)(ds:List Nat)(s0 s':dc X)(k:VT (X:=X) sh.vars->Option A):Option A:=
 (J6 (fY s'.obj) (eC s'.env) sh.slots ⟨[],[],[]⟩).bind λm=>(EZ (fY s'.obj) sh.cI m).bind λm=>bif YY sh ds s0 s' m then(Zz sh.vars m.ev).bind λv=>WH m.ir (k v)else none
def qO{A:Type}(sh:Sh X.ι)(ds:List Nat)(s0 s':dc X)(k:VT (X:=X) sh.vars->Option A):Option A:=
 bif sh.ym.all (λ p=>bif Nat.ble 1000000 p.1 then !Nat.ble 1099511627776 p.1 || ds.contains (p.1 -1099511627776)else ds.contains p.1)then L4 sh ds s0 (Ro sh.ym s') k else none
end
section
variable {X:SX}
theorem aaU{d:DV X}{c:CT X.ι}{x:CT.T X.toSE c}(h:Ma d c=some x):bo d=[]:=by
 cases d
 case c=>rfl
 case nil=>rfl
 all_goals cases c<;>cases h
theorem Ty:∀{ds:List (DV X)}{l:List (CT X.ι)}{h:HL X.toSE l},Ah ds l=some h->aS ds=[]
 |[],[],_,_=>rfl
 |d::ds,c::l,h,hr=>by
  simp only[Ah]at hr;have⟨x,h1,hr⟩:=ai.1 hr;have⟨g,h2,hr⟩:=ai.1 hr;simp only[aS,aaU h1,Ty h2,append_nil]
 |[],_::_,_,hr=>by simp[Ah]at hr
 |_::_,[],_,hr=>by simp[Ah]at hr
theorem al6{d:DV X}{c:CT X.ι}{x:CT.T X.toSE c}(h:dat d c=some x):k7 (den d) (den (.c c x:DV X))/\bo d=[]:=by
 cases c
 case st i=>
  replace h:B6 d i=some x:=h
  cases d
  case agg cs=>
   simp only[B6]at h;have⟨g,h1,h⟩:=ai.1 h;cases h;refine⟨λ P β w I v hv=>?_,by simp only[bo,Ty h1]⟩;have h2:=(Ai h1 (X.flat i)).1;simp only[den,VR]at hv;obtain⟨vs,rfl,hv⟩:=hv;show VR P β w I (.agg ((X.row i (X.make i g)).map AV.t)) _;have h3:(X.row i (X.make i g)).map AV.t=(bJ cs).map Gb.wk:=(by rw[h2];exact congrArg _ (X.gh i g));rw[h3];simp only[VR];exact⟨vs,rfl,bk.wk _ _ hv⟩
  case c a y=>
   replace h:gB a (.st i) y=some x:=h
   rw[(iT h).1];exact⟨k7.refl _,rfl⟩
  all_goals cases h
 all_goals
  have h1:=wY h;refine⟨λ P β w I v hv=>?_,aaU h⟩;simp only[den];rw[<- h1];exact hv.wk
def gj(m m':MA X):Prop:=(∀ q∈m.nm,q∈m'.nm)/\(∀ c∈m.ir,c∈m'.ir)
theorem gj.refl(m:MA X):gj m m:=⟨λ _ h=>h,λ_ h=>h⟩
theorem gj.trans{a b c:MA X}(h:gj a b)(h':gj b c):gj a c:=⟨λ q hq=>h'.1 q (h.1 q hq),λq hq=>h'.2 q (h.2 q hq)⟩
theorem fA(m:MA X)(k' k:Nat):(addN m k' k).ev=m.ev/\(addN m k' k).ir=m.ir:=by unfold addN;split<;>exact⟨rfl,rfl⟩
theorem oC(m:MA X)(k' k:Nat):(k',k)∈(addN m k' k).nm:=by
 unfold addN;split
 ·rename_i h;simpa using h
 ·simp
theorem qd(m:MA X)(k' k:Nat):gj m (addN m k' k):=by
 unfold addN;split
 ·exact gj.refl m
 ·exact⟨λ q hq=>by simp[hq],λ_ h=>h⟩
variable {get:Nat->Option (bu X)}
mutual
theorem ahY:∀(p:Pt X.ι)(d:DV X)(m m':MA X),mP get p d m=some m'->gj m m'/\∃aq,m'.ev=m.ev++aq/\aq.length=p.vars.length
 | .v c,d,m,m',h=>by
  simp only[mP]at h;rw[ai]at h;obtain⟨x,h1,h⟩:=h;cases h;exact⟨⟨λ _ h=>h,λ_ h=>h⟩,[⟨c,x⟩],rfl,rfl⟩
 | .o k,d,m,m',h=>by
  simp only[mP]at h;split at h
  ·rename_i k' len;have⟨o,h1,h⟩:=ai.1 h;split at h
   ·cases h;refine⟨gj.trans (b:=⟨m.nm,m.ev,m.ir++_⟩) ⟨λ _ h=>h,λ_ h=>by simp[h]⟩ (qd _ _ _),[],by rw[(fA _ _ _).1];simp,rfl⟩
   ·cases h
  ·cases h
 | .oz k,d,m,m',h=>by
  simp only[mP]at h;split at h
  ·have⟨o,h1,h⟩:=ai.1 h;split at h
   ·cases h;refine⟨gj.trans (b:=⟨m.nm,m.ev,m.ir++_⟩) ⟨λ _ h=>h,λ_ h=>by simp[h]⟩ (qd _ _ _),[],by rw[(fA _ _ _).1];simp,rfl⟩
   ·cases h
  ·have⟨o,h1,h⟩:=ai.1 h;split at h
   ·cases h;refine⟨gj.trans (b:=⟨m.nm,m.ev,m.ir++_⟩) ⟨λ _ h=>h,λ_ h=>by simp[h]⟩ (qd _ _ _),[],by rw[(fA _ _ _).1];simp,rfl⟩
   ·cases h
  ·cases h
 | .p k,d,m,m',h=>by
  simp only[mP]at h;split at h
  ·cases h;exact⟨qd _ _ _,[],by rw[(fA _ _ _).1];simp,rfl⟩
  ·cases h
 | .mp k,d,m,m',h=>by
  simp only[mP]at h;split at h
  ·cases h;exact⟨qd _ _ _,[],by rw[(fA _ _ _).1];simp,rfl⟩
  ·cases h
 | .nil,d,m,m',h=>by
  simp only[mP]at h;split at h
  ·cases h;exact⟨gj.refl _,[],by simp,rfl⟩
  ·cases h
 | .f F fs cs,d,m,m',h=>by
  simp only[mP]at h;split at h
  ·split at h
   ·rw[ai]at h;obtain⟨m1,h1,h⟩:=h;obtain⟨a1,n1,b1,c1⟩:=Ar fs _ m m1 h1;obtain⟨a2,n2,b2,c2⟩:=Ar cs _ m1 m' h;exact⟨a1.trans a2,n1++n2,by rw[b2,b1,aK],by simp[Pt.vars,c1,c2]⟩
   ·cases h
  ·cases h
 | .od k,d,m,m',h=>by
  simp only[mP]at h;split at h
  ·rename_i k' aa len;have⟨o,h1,h⟩:=ai.1 h;split at h
   ·cases h;refine⟨gj.trans (b:=⟨m.nm,m.ev++[⟨.int .i64,(aa:Int)⟩],m.ir++_⟩) ⟨λ _ h=>h,λ_ h=>by simp[h]⟩ (qd _ _ _),[⟨.int .i64,(aa:Int)⟩],by rw[(fA _ _ _).1],rfl⟩
   ·cases h
  ·cases h
 | .a ps,d,m,m',h=>by
  simp only[mP]at h;split at h
  ·exact Ar ps _ m m' h
  ·cases h
theorem Ar:∀(ps:List (Pt X.ι))(ds:List (DV X))(m m':MA X),sf get ps ds m=some m'->gj m m'/\∃aq,m'.ev=m.ev++aq/\aq.length=(cL ps).length
 |[],[],m,m',h=>by
  simp only[sf,aA]at h;subst h;exact⟨gj.refl _,[],by simp,rfl⟩
 |p::ps,d::ds,m,m',h=>by
  simp only[sf]at h;have⟨m1,h1,h⟩:=ai.1 h;have⟨a1,n1,b1,c1⟩:=ahY p d m m1 h1;have⟨a2,n2,b2,c2⟩:=Ar ps ds m1 m' h;exact⟨a1.trans a2,n1++n2,by rw[b2,b1,aK],by simp[cL,c1,c2]⟩
 |[],_::_,m,m',h=>by simp[sf]at h
 |_::_,[],m,m',h=>by simp[sf]at h
end
theorem Au:∀(rs:List (List (Pt X.ι)))(qs:List (List (DV X)))(m m':MA X),Iw get rs qs m=some m'->gj m m'/\∃aq,m'.ev=m.ev++aq/\aq.length=(xg rs).length
 |[],[],m,m',h=>by
  simp only[Iw,aA]at h;subst h;exact⟨gj.refl _,[],by simp,rfl⟩
 |r::rs,q::qs,m,m',h=>by
  simp only[Iw]at h;have⟨m1,h1,h⟩:=ai.1 h;have⟨a1,n1,b1,c1⟩:=Ar r q m m1 h1;have⟨a2,n2,b2,c2⟩:=Au rs qs m1 m' h;exact⟨a1.trans a2,n1++n2,by rw[b2,b1,aK],by simp[xg,c1,c2]⟩
 |[],_::_,m,m',h=>by simp[Iw]at h
 |_::_,[],m,m',h=>by simp[Iw]at h
section
variable {NM:List (Nat×Nat)} {f:Nat->Nat} {dt:Nat->Nat}
def DN(NM:List (Nat×Nat))(j:Nat):Prop:=∃k,(j,k)∈NM
def SN(NM:List (Nat×Nat))(j:Nat):Prop:=∃k,(k,j)∈NM
theorem OV{D:Nat->Prop}{f:Nat->Nat}{P:Program}{β:Nat->Option cH}{w:World}{I:Nat->Prop}:∀{a b:List AV}(_:mz D f a b)(u:List Value),bk P β w I (y8 f a) u->bk P β w I b u
 |[],[],_,u,hu=>hu
 |[],_::_,hr,_,_=>hr.elim
 |_::_,[],hr,_,_=>hr.elim
 |y::ys,z::zs,hr,[],hu=>by simp[y8,bk]at hu
 |y::ys,z::zs,hr,v::vs,hu=>by
  simp only[y8,bk]at hu ⊢;exact⟨hr.1.2 _ _ _ _ _ hu.1,OV hr.2 vs hu.2⟩
mutual
theorem ad9(hf:∀q∈NM,f q.1=q.2)(ho:∀q∈NM,∀c l,get q.1=some (.de c l)->dt q.2=l.length):∀(p:Pt X.ι)(d:DV X)(m m':MA X),mP get p d m=some m'->(∀ q∈m'.nm,q∈NM)->(∀ c∈m'.ir,c=true)->
 ∃aq,m'.ev=m.ev++aq/\∃d',(∀ ag,eP dt p (aq++ag)=(d',ag))/\k7 (eV f (den d)) (den d')/\(∀ j∈bo d,DN NM j)/\(∀ j∈bo d',SN NM j)
 | .v c,d,m,m',h,_,_=>by
  simp only[mP]at h;rw[ai]at h;obtain⟨x,h1,h⟩:=h;cases h;have⟨h2,h3⟩:=al6 h1;refine⟨[⟨c,x⟩],rfl,.c c x,λag=>rfl,?_,by simp[h3],by simp[bo]⟩;rw[<- Ct,Xp d (by simp[h3])];exact h2
 | .o k,d,m,m',h,hn,hc=>by
  simp only[mP]at h;split at h
  ·rename_i k' len;rw[ai]at h;obtain⟨o,h1,h⟩:=h;split at h
   ·rename_i c l;cases h;have hq:(k',k)∈NM:=hn _ (oC _ _ _);have he:len=l.length:=by
     have:=hc (bm len l.length) (by rw[(fA _ _ _).2];simp);simpa[bm]using this
    refine⟨[],by rw[(fA _ _ _).1];simp,.own k 0 (dt k),λag=>rfl,?_,?_,?_⟩
    ·simp only[den,eV];rw[hf _ hq,ho _ hq c l h1,he];exact k7.refl _
    ·intro j hj;simp only[bo,aZ]at hj;subst hj;exact⟨k,hq⟩
    ·intro j hj;simp only[bo,aZ]at hj;subst hj;exact⟨k',hq⟩
   ·cases h
  ·cases h
 | .oz k,d,m,m',h,hn,hc=>by
  simp only[mP]at h;split at h
  ·rename_i k' len;rw[ai]at h;obtain⟨o,h1,h⟩:=h;split at h
   ·rename_i c l;cases h;have hq:(k',k)∈NM:=hn _ (oC _ _ _);have he:len≠0/\len=l.length:=by
     have:=hc (!(len==0)&&bm len l.length) (by rw[(fA _ _ _).2];simp);simpa[bm]using this
    refine⟨[],by rw[(fA _ _ _).1];simp,.oz k (dt k),λag=>rfl,?_,λj hj=>?_,λj hj=>?_⟩
    ·simp only[den,eV];rw[hf _ hq,ho _ hq c l h1,<- he.2];intro P β w I v hv;simp only[VR]at hv ⊢;exact .inr ⟨he.1,hv.resolve_left λh=>he.1 h.2.2.2⟩
    ·simp only[bo,aZ]at hj;subst hj;exact⟨k,hq⟩
    ·simp only[bo,aZ]at hj;subst hj;exact⟨k',hq⟩
   ·cases h
  ·rename_i k' len;rw[ai]at h;obtain⟨o,h1,h⟩:=h;split at h
   ·rename_i c l;cases h;have hq:(k',k)∈NM:=hn _ (oC _ _ _);have he:len=l.length:=by
     have:=hc (bm len l.length) (by rw[(fA _ _ _).2];simp);simpa[bm]using this
    refine⟨[],by rw[(fA _ _ _).1];simp,.oz k (dt k),λag=>rfl,?_,λj hj=>?_,λj hj=>?_⟩
    ·simp only[den,eV];rw[hf _ hq,ho _ hq c l h1,he];exact k7.refl _
    ·simp only[bo,aZ]at hj;subst hj;exact⟨k,hq⟩
    ·simp only[bo,aZ]at hj;subst hj;exact⟨k',hq⟩
   ·cases h
  ·cases h
 | .p k,d,m,m',h,hn,hc=>by
  simp only[mP]at h;split at h
  ·rename_i k';cases h;have hq:(k',k)∈NM:=hn _ (oC _ _ _);refine⟨[],by rw[(fA _ _ _).1];simp,.ptr k 0 0,λag=>rfl,?_,?_,?_⟩
   ·simp only[den,eV];rw[hf _ hq];exact k7.refl _
   ·intro j hj;simp only[bo,aZ]at hj;subst hj;exact⟨k,hq⟩
   ·intro j hj;simp only[bo,aZ]at hj;subst hj;exact⟨k',hq⟩
  ·cases h
 | .mp k,d,m,m',h,hn,hc=>by
  simp only[mP]at h;split at h
  ·rename_i k';cases h;have hq:(k',k)∈NM:=hn _ (oC _ _ _);refine⟨[],by rw[(fA _ _ _).1];simp,.mp k,λag=>rfl,?_,?_,?_⟩
   ·simp only[den,eV];rw[hf _ hq];exact k7.refl _
   ·intro j hj;simp only[bo,aZ]at hj;subst hj;exact⟨k,hq⟩
   ·intro j hj;simp only[bo,aZ]at hj;subst hj;exact⟨k',hq⟩
  ·cases h
 | .nil,d,m,m',h,_,_=>by
  simp only[mP]at h;split at h
  ·cases h;exact⟨[],by simp,.nil,λag=>rfl,k7.refl _,by simp[bo],by simp[bo]⟩
  ·cases h
 | .f F fs cs,d,m,m',h,hn,hc=>by
  simp only[mP]at h;split at h
  ·rename_i F' first caps
   split at h
   ·rename_i e;subst e;rw[ai]at h;obtain⟨m1,h1,h⟩:=h;have hm:=(Ar cs _ m1 m' h).1;obtain⟨n1,a1,f',b1,c1,e1,g1⟩:=Ff hf ho fs _ m m1 h1 (λ q hq=>hn q (hm.1 q hq)) (λ q hq=>hc q (hm.2 q hq));obtain⟨n2,a2,c',b2,c2,e2,g2⟩:=Ff hf ho cs _ m1 m' h hn hc;refine⟨n1++n2,by rw[a2,a1,aK],.fn F f' c',λag=>by simp only[eP,aK,b1,b2],?_,?_,?_⟩
    ·intro P β w I v hv;simp only[den,eV,VR]at hv ⊢;obtain⟨us,vs,rfl,hu,hv⟩:=hv;exact⟨us,vs,rfl,OV c1 _ hu,OV c2 _ hv⟩
    ·intro j hj;simp only[bo,aW]at hj;exact hj.elim (e1 j) (e2 j)
    ·intro j hj;simp only[bo,aW]at hj;exact hj.elim (g1 j) (g2 j)
   ·cases h
  ·cases h
 | .od k,d,m,m',h,hn,hc=>by
  simp only[mP]at h;split at h
  ·rename_i k' aa len;rw[ai]at h;obtain⟨o,h1,h⟩:=h;split at h
   ·rename_i c l;cases h;have hq:(k',k)∈NM:=hn _ (oC _ _ _);have he:aa+len=l.length:=by
     have:=hc (bm (aa+len) l.length) (by rw[(fA _ _ _).2];simp);simpa[bm]using this
    refine⟨[⟨.int .i64,(aa:Int)⟩],by rw[(fA _ _ _).1],.own k aa (dt k -aa),λag=>?_,?_,?_,?_⟩
    ·simp only[eP,cons_append,bO];have:D4 (X:=X) ⟨.int .i64,(aa:Int)⟩=aa:=by
      simp only[D4];rw[WT];simp
     rw[this]
    ·simp only[den,eV];rw[hf _ hq,ho _ hq c l h1,show l.length -aa=len by omega];exact k7.refl _
    ·intro j hj;simp only[bo,aZ]at hj;subst hj;exact⟨k,hq⟩
    ·intro j hj;simp only[bo,aZ]at hj;subst hj;exact⟨k',hq⟩
   ·cases h
  ·cases h
 | .a ps,d,m,m',h,hn,hc=>by
  simp only[mP]at h;split at h
  ·rename_i ds;have⟨aq,h1,ds',h2,h3,h4,h5⟩:=Ff hf ho ps ds m m' h hn hc;refine⟨aq,h1,.agg ds',λag=>by simp only[eP,h2],?_,by simpa[bo]using h4,by simpa[bo]using h5⟩;intro P β w I v hv;simp only[den,eV,VR]at hv ⊢;obtain⟨vs,rfl,hv⟩:=hv;refine⟨vs,rfl,?_⟩;exact OV h3 _ hv
  ·cases h
theorem Ff(hf:∀q∈NM,f q.1=q.2)(ho:∀q∈NM,∀c l,get q.1=some (.de c l)->dt q.2=l.length):∀(ps:List (Pt X.ι))(ds:List (DV X))(m m':MA X),sf get ps ds m=some m'->(∀ q∈m'.nm,q∈NM)->(∀ c∈m'.ir,c=true)->
 ∃aq,m'.ev=m.ev++aq/\∃ds',(∀ ag,lp dt ps (aq++ag)=(ds',ag))/\mz (DN NM) f (bJ ds) (bJ ds')/\(∀ j∈aS ds,DN NM j)/\(∀ j∈aS ds',SN NM j)
 |[],[],m,m',h,_,_=>by
  simp only[sf,aA]at h;subst h;exact⟨[],by simp,[],λag=>rfl,trivial,by simp[aS],by simp[aS]⟩
 |p::ps,d::ds,m,m',h,hn,hc=>by
  simp only[sf]at h;have⟨m1,h1,h⟩:=ai.1 h;have hm:=(Ar ps ds m1 m' h).1;obtain⟨n1,a1,d',b1,c1,e1,g1⟩:=ad9 hf ho p d m m1 h1 (λ q hq=>hn q (hm.1 q hq)) (λ q hq=>hc q (hm.2 q hq));have⟨n2,a2,ds',b2,c2,e2,g2⟩:=Ff hf ho ps ds m1 m' h hn hc;refine⟨n1++n2,by rw[a2,a1,aK],d'::ds',λag=>?_,⟨⟨λ k hk=>e1 k (by rwa [iU]at hk),c1⟩,c2⟩,?_,?_⟩
  ·simp only[lp,aK,b1,b2]
  ·intro j hj;simp only[aS,aW]at hj;exact hj.elim (e1 j) (e2 j)
  ·intro j hj;simp only[aS,aW]at hj;exact hj.elim (g1 j) (g2 j)
 |[],_::_,m,m',h,_,_=>by simp[sf]at h
 |_::_,[],m,m',h,_,_=>by simp[sf]at h
end
theorem Tz(hf:∀q∈NM,f q.1=q.2)(ho:∀q∈NM,∀c l,get q.1=some (.de c l)->dt q.2=l.length):∀(rs:List (List (Pt X.ι)))(qs:List (List (DV X)))(m m':MA X),Iw get rs qs m=some m'->(∀ q∈m'.nm,q∈NM)->(∀ c∈m'.ir,c=true)->
 ∃aq,m'.ev=m.ev++aq/\∃CH,(∀ ag,xk dt rs (aq++ag)=(CH,ag))/\gO (DN NM) f (qs.map bJ) (CH.map bJ)/\(∀ j∈(qs.map aS).flatten,DN NM j)/\(∀ j∈(CH.map aS).flatten,SN NM j)
 |[],[],m,m',h,_,_=>by
  simp only[Iw,aA]at h;subst h;exact⟨[],by simp,[],λag=>rfl,trivial,by simp,by simp⟩
 |r::rs,q::qs,m,m',h,hn,hc=>by
  simp only[Iw]at h;have⟨m1,h1,h⟩:=ai.1 h;have hm:=(Au rs qs m1 m' h).1;obtain⟨n1,a1,d',b1,c1,e1,g1⟩:=Ff hf ho r q m m1 h1 (λ q hq=>hn q (hm.1 q hq)) (λ q hq=>hc q (hm.2 q hq));have⟨n2,a2,ds',b2,c2,e2,g2⟩:=Tz hf ho rs qs m1 m' h hn hc;refine⟨n1++n2,by rw[a2,a1,aK],d'::ds',λag=>?_,⟨c1,c2⟩,?_,?_⟩
  ·simp only[xk,aK,b1,b2]
  ·intro j hj;simp only[aC,flatten_cons,aW]at hj;exact hj.elim (e1 j) (e2 j)
  ·intro j hj;simp only[aC,flatten_cons,aW]at hj;exact hj.elim (g1 j) (g2 j)
 |[],_::_,m,m',h,_,_=>by simp[Iw]at h
 |_::_,[],m,m',h,_,_=>by simp[Iw]at h
end
end
section
variable {X:SX} {get:Nat->Option (bu X)} {env:Nat->DV X}
theorem Ka:∀(sl:List (Nat×Pt X.ι))(m m':MA X),J6 get env sl m=some m'->gj m m'/\∃aq,m'.ev=m.ev++aq/\aq.length=(ie sl).length
 |[],m,m',h=>by
  simp only[J6,aA]at h;subst h;exact⟨gj.refl _,[],by simp,rfl⟩
 |(t,p)::r,m,m',h=>by
  simp only[J6]at h;rw[ai]at h;obtain⟨m1,h1,h⟩:=h;obtain⟨a1,n1,b1,c1⟩:=ahY p _ m m1 h1;have⟨a2,n2,b2,c2⟩:=Ka r m1 m' h;exact⟨a1.trans a2,n1++n2,by rw[b2,b1,aK],by simp[ie,c1,c2]⟩
theorem mI:∀(os:List (Nat×OP X.ι))(m m':MA X),EZ get os m=some m'->gj m m'/\∃aq,m'.ev=m.ev++aq/\aq.length=(cE os).length
 |[],m,m',h=>by
  simp only[EZ,aA]at h;subst h;exact⟨gj.refl _,[],by simp,rfl⟩
 |(k,op)::r,m,m',h=>by
  simp only[EZ]at h;rw[ai]at h;obtain⟨o,h1,h⟩:=h;split at h
  ·rename_i c c' l;rw[ai]at h;obtain⟨l',h2,h⟩:=h;obtain⟨a2,n2,b2,c2⟩:=mI r _ m' h;refine⟨gj.trans (gj.trans (b:=⟨m.nm,m.ev++[⟨.sl c,l'⟩],m.ir⟩) ⟨λ _ h=>h,λ_ h=>h⟩ (qd _ _ _)) a2,[⟨.sl c,l'⟩]++n2,?_,by simp[cE,c2]⟩;rw[b2,(fA _ _ _).1,aK]
  ·rename_i kc vc tg ta l;rw[ai]at h;obtain⟨l',h2,h⟩:=h;obtain⟨a2,n2,b2,c2⟩:=mI r _ m' h;refine⟨gj.trans (gj.trans (b:=⟨m.nm,m.ev++[⟨.mp kc vc,l'⟩],m.ir⟩) ⟨λ _ h=>h,λ_ h=>h⟩ (qd _ _ _)) a2,[⟨.mp kc vc,l'⟩]++n2,?_,by simp[cE,c2]⟩;rw[b2,(fA _ _ _).1,aK]
  ·rename_i sz rows sz' rows';split at h
   ·rw[ai]at h;obtain⟨m1,h2,h⟩:=h;obtain⟨a1,n1,b1,c1⟩:=Au rows _ _ m1 h2;have⟨a2,n2,b2,c2⟩:=mI r m1 m' h;refine⟨((qd m _ _).trans a1).trans a2,n1++n2,?_,by simp[cE,c1,c2]⟩;rw[b2,b1,(fA _ _ _).1,aK]
   ·cases h
  ·cases h
variable {NM:List (Nat×Nat)} {f:Nat->Nat} {dt:Nat->Nat}
theorem GH:∀(os:List (Nat×OP X.ι))(m m':MA X),EZ get os m=some m'->(∀ q∈m'.nm,q∈NM)->∃aq,m'.ev=m.ev++aq/\∀ag,∀k∈os.map (·.1),∃k' o,(k',k)∈NM/\get k'=some o/\∀c l,o= .de c l->(k,List.length l)∈lens os (aq++ag)
 |[],m,m',h,_=>by
  simp only[EZ,aA]at h;subst h;exact⟨[],by simp,λag k hk=>by simp at hk⟩
 |(k,op)::r,m,m',h,hn=>by
  simp only[EZ]at h;rw[ai]at h;obtain⟨o,h1,h⟩:=h;split at h
  ·rename_i c c' l;rw[ai]at h;obtain⟨l',h2,h⟩:=h;have hm:=(mI r _ m' h).1;obtain⟨n2,b2,c2⟩:=GH r _ m' h hn;refine⟨[⟨.sl c,l'⟩]++n2,by rw[b2,(fA _ _ _).1,aK],λag j hj=>?_⟩;simp only[aC,aM]at hj;simp only[aK,cons_append,bO,lens];by_cases hjk:j=k
   ·subst hjk;refine⟨_,_,hn _ (hm.1 _ (oC _ _ _)),h1,λc2 l2 he=>?_⟩;injection he with e1 e2;subst e1;have e2:=eq_of_heq e2;subst e2;have:=congrArg List.length (jm h2).2;simp only[length_map]at this;rw[this];exact List.mem_cons_self
   ·rcases hj with rfl |hj
    ·exact(hjk rfl).elim
    ·have⟨k',o',g1,g2,g3⟩:=c2 ag j hj;exact⟨k',o',g1,g2,λc l he=>dR _ (g3 c l he)⟩
  ·rename_i kc vc tg ta l;rw[ai]at h;obtain⟨l',h2,h⟩:=h;have hm:=(mI r _ m' h).1;obtain⟨n2,b2,c2⟩:=GH r _ m' h hn;refine⟨[⟨.mp kc vc,l'⟩]++n2,by rw[b2,(fA _ _ _).1,aK],λag j hj=>?_⟩;simp only[aC,aM]at hj;simp only[aK,cons_append,bO,lens,List.drop_succ_cons,List.drop_zero];by_cases hjk:j=k
   ·subst hjk;exact⟨_,_,hn _ (hm.1 _ (oC _ _ _)),h1,λc2 l2 he=>by cases he⟩
   ·rcases hj with rfl |hj
    ·exact(hjk rfl).elim
    ·exact c2 ag j hj
  ·rename_i sz rows sz' rows';split at h
   ·have⟨m1,h2,h⟩:=ai.1 h;obtain⟨a1,n1,b1,c1⟩:=Au rows _ _ m1 h2;have hm:=(mI r _ m' h).1;obtain⟨n2,b2,c2⟩:=GH r _ m' h hn;refine⟨n1++n2,by rw[b2,b1,(fA _ _ _).1,aK],λag j hj=>?_⟩;simp only[aC,aM]at hj;have hd:(n1++n2++ag).drop (xg rows).length=n2++ag:=(by rw[<- c1,aK,List.drop_left]);simp only[lens,hd];by_cases hjk:j=k
    ·subst hjk;exact⟨_,_,hn _ (hm.1 _ (a1.1 _ (oC _ _ _))),h1,λc2 l2 he=>by cases he⟩
    ·rcases hj with rfl |hj
     ·exact(hjk rfl).elim
     ·exact c2 ag j hj
   ·cases h
  ·cases h
theorem Lx:∀(os:List (Nat×OP X.ι))(L:List (DC X)),((lens os L).map (·.1)).Sublist (os.map (·.1))
 |[],_=>by simp[lens]
 |(k,.l c)::r,L=>by
  simp only[lens];split
  ·exact(Lx r _).cons_cons _
  ·exact List.nil_sublist _
 |(k,.m kc vc)::r,L=>by
  simp only[lens];exact(Lx r _).cons _
 |(k,.c sz rows)::r,L=>by
  simp only[lens];exact(Lx r _).cons _
theorem OW(hf:∀q∈NM,f q.1=q.2)(ho:∀q∈NM,∀c l,get q.1=some (.de c l)->dt q.2=l.length):∀(sl:List (Nat×Pt X.ι))(m m':MA X),J6 get env sl m=some m'->(∀ q∈m'.nm,q∈NM)->(∀ c∈m'.ir,c=true)->
 ∃aq,m'.ev=m.ev++aq/\∃es,(∀ ag,Nf dt sl (aq++ag)=es)/\(∀ p∈es,p.1∈sl.map (·.1)/\k7 (eV f (den (env p.1))) (den p.2)/\(∀ j∈bo (env p.1),DN NM j)/\(∀ j∈bo p.2,SN NM j))
 |[],m,m',h,_,_=>by
  simp only[J6,aA]at h;subst h;exact⟨[],by simp,[],λag=>rfl,by simp⟩
 |(t,p)::r,m,m',h,hn,hc=>by
  simp only[J6]at h;have⟨m1,h1,h⟩:=ai.1 h;have hm:=(Ka r m1 m' h).1;obtain⟨n1,a1,d',b1,c1,e1,g1⟩:=ad9 hf ho p _ m m1 h1 (λ q hq=>hn q (hm.1 q hq)) (λ q hq=>hc q (hm.2 q hq));have⟨n2,a2,es,b2,c2⟩:=OW hf ho r m1 m' h hn hc;refine⟨n1++n2,by rw[a2,a1,aK],(t,d')::es,λag=>by simp only[Nf,aK,b1,b2],λq hq=>?_⟩;rcases aM.1 hq with rfl |hq
  ·exact⟨by simp,c1,e1,g1⟩
  ·have⟨i1,i2⟩:=c2 q hq;exact⟨by simp only[aC,aM];exact .inr i1,i2⟩
theorem aaV{D:Nat->Prop}(f:Nat->Nat):∀rows:List (List Tree),gO D f (aL rows) (aL rows)
 |[]=>trivial
 |r::rs=>by
  refine⟨?_,aaV f rs⟩
  induction r with
  |nil=>trivial
  |cons y ys ih=>exact⟨⟨by simp[refs],k7.refl _⟩,ih⟩
theorem aaW{a b c d:CT X.ι}{l:List (CT.T X.toSE a×CT.T X.toSE b)}{l':List (CT.T X.toSE c×CT.T X.toSE d)}(h:gB (.mp a b) (.mp c d) l=some l'):bF (.map c d l':bu X)=bF (.map a b l):=by
 have⟨e,h⟩:=mG h;injection e with e1 e2;subst e1;subst e2;subst h;rfl
theorem aaX{D:Nat->Prop}(f:Nat->Nat){kc vc:CT X.ι}:∀l:List (CT.T X.toSE kc×CT.T X.toSE vc),gO D f (bF (.map kc vc l:bu X)).rows (bF (.map kc vc l:bu X)).rows
 |[]=>trivial
 |p::ps=>⟨⟨⟨by simp[Gv],by rw[Xc];exact k7.refl _⟩,⟨by simp[Gv],by rw[Xc];exact k7.refl _⟩,trivial⟩,aaX f ps⟩
theorem Cw(hf:∀q∈NM,f q.1=q.2)(ho:∀q∈NM,∀c l,get q.1=some (.de c l)->dt q.2=l.length):∀(os:List (Nat×OP X.ι))(m m':MA X),EZ get os m=some m'->(∀ q∈m'.nm,q∈NM)->(∀ c∈m'.ir,c=true)->
 ∃aq,m'.ev=m.ev++aq/\∃xs,(∀ ag,bZ dt os (aq++ag)=xs)/\(∀ p∈xs,p.1∈os.map (·.1)/\∃k' o o',p.2=some o'/\(k',p.1)∈NM/\get k'=some o/\(bF o').sz=(bF o).sz/\gO (DN NM) f (bF o).rows (bF o').rows/\(∀ j∈d5 o',SN NM j))
 |[],m,m',h,_,_=>by
  simp only[EZ,aA]at h;subst h;exact⟨[],by simp,[],λag=>rfl,by simp⟩
 |(k,op)::r,m,m',h,hn,hc=>by
  simp only[EZ]at h;rw[ai]at h;obtain⟨o,h1,h⟩:=h;split at h
  ·rename_i c c' l;rw[ai]at h;obtain⟨l',h2,h⟩:=h;have hm:=(mI r _ m' h).1;obtain⟨n2,a2,xs,b2,c2⟩:=Cw hf ho r _ m' h hn hc;refine⟨[⟨.sl c,l'⟩]++n2,by rw[a2,(fA _ _ _).1,aK],(k,some (.de c l'))::xs,λag=>by simp only[aK,cons_append,bO,bZ,b2],λq hq=>?_⟩;rcases aM.1 hq with rfl |hq
   ·refine⟨by simp,_,_,_,rfl,hn _ (hm.1 _ (oC _ _ _)),h1,?_,?_,by simp[d5]⟩
    ·simp only[bF,(jm h2).1]
    ·simp only[bF,(jm h2).2];exact aaV f _
   ·have⟨i1,i2⟩:=c2 q hq;exact⟨by simp only[aC,aM];exact .inr i1,i2⟩
  ·rename_i kc vc tg ta l;rw[ai]at h;obtain⟨l',h2,h⟩:=h;have hm:=(mI r _ m' h).1;obtain⟨n2,a2,xs,b2,c2⟩:=Cw hf ho r _ m' h hn hc;refine⟨[⟨.mp kc vc,l'⟩]++n2,by rw[a2,(fA _ _ _).1,aK],(k,some (.map kc vc l'))::xs,λag=>by simp only[aK,cons_append,bO,bZ,b2],λq hq=>?_⟩;rcases aM.1 hq with rfl |hq
   ·refine⟨by simp,_,_,_,rfl,hn _ (hm.1 _ (oC _ _ _)),h1,?_,?_,by simp[d5]⟩
    ·rw[aaW h2]
    ·rw[aaW h2];exact aaX f _
   ·have⟨i1,i2⟩:=c2 q hq;exact⟨by simp only[aC,aM];exact .inr i1,i2⟩
  ·rename_i sz rows sz' rows';split at h
   ·rename_i hsz;have⟨m1,h2,h⟩:=ai.1 h;have hm1:=(Au rows _ _ m1 h2).1;have hm:=(mI r _ m' h).1;obtain⟨n1,a1,qs,b1,c1,e1,g1⟩:=Tz hf ho rows _ _ m1 h2 (λ q hq=>hn q (hm.1 q hq)) (λ q hq=>hc q (hm.2 q hq));obtain⟨n2,a2,xs,b2,c2⟩:=Cw hf ho r _ m' h hn hc;refine⟨n1++n2,by rw[a2,a1,(fA _ _ _).1,aK],(k,some (.cells sz qs))::xs,λag=>by simp only[aK,bZ,b1,b2],λq hq=>?_⟩;rcases aM.1 hq with rfl |hq
    ·exact⟨by simp,_,_,_,rfl,hn _ (hm.1 _ (hm1.1 _ (oC _ _ _))),h1,hsz,c1,g1⟩
    ·have⟨i1,i2⟩:=c2 q hq;exact⟨by simp only[aC,aM];exact .inr i1,i2⟩
   ·cases h
  ·cases h
theorem aiV{d:DV X}(h:ZZ d=false)(h':d= .undef):False:=by subst h';cases h
theorem ace{A:Type}{sh:Sh X.ι}{ds:List Nat}{s0 s':dc X}{k:VT (X:=X) sh.vars->Option A}{r:A}(hl0:Low s0)(hx:Ext (· ∈ds) s0 s')(h:L4 sh ds s0 s' k=some r):
 ∃v,k v=some r/\Low (encS sh s0 v)/\Ext (· ∈ds) s0 (encS sh s0 v)/\∀(P:Program) (w0:World) (O0:j0) (N:Nat) (β:Nat->Option cH) (I:Nat->Prop) (a:Act) (w:World),Rel P w0 O0 N β I s'.st a w->∃ β',Rel P w0 O0 N β' I (encS sh s0 v).st a w:=by
 unfold L4 at h;have⟨m1,h1,h⟩:=ai.1 h;have⟨m,h2,h⟩:=ai.1 h;have⟨h3,h⟩:=dD h;have⟨v,h4,h⟩:=ai.1 h;have⟨h5,h6⟩:=qc h;simp only[YY,aJ,aT]at h3;obtain⟨⟨⟨⟨⟨⟨⟨⟨n1,n2⟩,n3⟩,n4⟩,n5⟩,n6⟩,n7⟩,n8⟩,n9⟩:=h3;have hm2:=(mI _ _ _ h2).1;have t6:=WS h4;obtain⟨_,nA,dA,lA⟩:=Ka _ _ _ h1;simp only[bO]at dA;have PF:(m.nm.map (·.1)).Nodup:=(List.nodup_append.1 n1).1;have PC:(m.nm.map (·.2)).Nodup:=(List.nodup_append.1 n2).1;have hsw:((m.nm.map λq=>(q.2,q.1)).map (·.1)).Nodup:=by rw[map_map];exact PC
 generalize hf':(λ j=>match lk m.nm j with |some q=>q |none=>j:Nat->Nat)=f;generalize hg':(λ j=>match lk (m.nm.map λq=>(q.2,q.1)) j with |some q=>q |none=>j:Nat->Nat)=g;have hf:∀q∈m.nm,f q.1=q.2:=by
  rintro⟨p,q⟩ hq;rw[<- hf'];simp only[vP PF hq]
 have hg:∀q∈m.nm,g q.2=q.1:=by
  rintro⟨p,q⟩ hq;rw[<- hg'];have:(q,p)∈m.nm.map λq=>(q.2,q.1):=mem_map.2 ⟨(p,q),hq,rfl⟩;simp only[vP hsw this]
 have m4:∀j∈sh.cX,f j=j:=by
  intro j hj;rw[<- hf'];cases hh:lk m.nm j with
  |none=>simp[hh]
  |some q=>exact((List.nodup_append.1 n1).2.2 j (mem_map.2 ⟨(j,q),sJ hh,rfl⟩) j hj rfl).elim
 have GM:∀j∈sh.cX,g j=j:=by
  intro j hj;rw[<- hg'];cases hh:lk (m.nm.map λq=>(q.2,q.1)) j with
  |none=>simp[hh]
  |some q=>
   have h1:=sJ hh;simp only[mem_map]at h1;obtain⟨z,hz,e⟩:=h1;injection e with e1 e2;exact((List.nodup_append.1 n2).2.2 j (mem_map.2 ⟨z,hz,e1⟩) j hj rfl).elim
 have hg0:∀j,j<1000->g j=j:=by
  intro j hj;rw[<- hg'];cases hh:lk (m.nm.map λq=>(q.2,q.1)) j with
  |none=>simp[hh]
  |some q=>
   have h1:=sJ hh;simp only[mem_map]at h1;obtain⟨z,hz,e⟩:=h1;injection e with e1 e2;have:=all_eq_true.1 n4 z hz;simp only[aJ,Bool.or_eq_true,aT]at this;simp only[hh];omega
 have hgf:∀j,(DN m.nm j\/j∈sh.cX)->g (f j)=j:=by
  rintro j (⟨q,hq⟩ |hj)
  ·rw[hf _ hq];exact hg _ hq
  ·rw[m4 j hj];exact GM j hj
 obtain⟨nB,dB,lB⟩:=GH (NM:=m.nm) _ _ _ h2 (λ q hq=>hq);have hL:m.ev=nA++nB:=by rw[dB,dA]
 have hdrop:(xh sh.vars v).drop (ie sh.slots).length=nB:=by rw[t6,hL,<- lA,List.drop_left]
 have htake:(xh sh.vars v).take (ie sh.slots).length=nA:=by rw[t6,hL,<- lA,List.take_left]
 generalize hol:(λ k=>(lk (lens sh.cI nB) k).getD 0:Nat->Nat)=dt;have ho:∀q∈m.nm,∀c l,fY s'.obj q.1=some (.de c l)->dt q.2=l.length:=by
  rintro⟨p,q⟩ hq c l hl;have hqk:=all_eq_true.1 n4 _ hq;simp only[aJ]at hqk;obtain⟨p',o,g1,g2,g3⟩:=lB [] q (by simpa using hqk.1.1);have:p'=p:=by
   have e1:=hg _ g1;have e2:=hg _ hq;simp only at e1 e2;rw[<- e1,e2]
  subst this;simp only at hl;rw[hl]at g2;injection g2 with g2;have h3:=g3 c l g2.symm;rw[append_nil]at h3;rw[<- hol];have hk:=(Lx sh.cI nB).nodup n3;simp only[vP hk h3,Option.getD_some]
 obtain⟨N6,Hv,es,eA,pA⟩:=OW (NM:=m.nm) (f:=f) (dt:=dt) hf ho _ _ _ h1 (λ q hq=>hm2.1 q hq) (λ c hc=>h5 c (hm2.2 c hc));obtain⟨N5,Sp,xs,eB,pB⟩:=Cw (NM:=m.nm) (f:=f) (dt:=dt) hf ho _ _ _ h2 (λ q hq=>hq) h5;have Se:N6=nA:=by simp only[bO]at Hv;rw[<- Hv,dA]
 have Sa:N5=nB:=List.append_cancel_left (Sp.symm.trans dB);subst Se Sa;have Hp:=eA [];have Hm:=eB [];rw[append_nil]at Hp Hm;have hS:encS sh s0 v=⟨es++sh.keep.map (λ t=>(t,eC s0.env t)),xs++sh.cX.map (λ k=>(k,fY s0.obj k)),sh.nx,(List.range s0.nx).filter (λ k=>!sh.cX.contains k)++s0.log⟩:=by simp only[encS,hdrop,htake,hol,Hp,Hm]
 have hsn:∀j,SN m.nm j->j<sh.nx:=by
  rintro j ⟨p,hp⟩;have:=all_eq_true.1 n4 _ hp;simp only[aJ,aT]at this;exact this.1.2
 have kp:∀j,(sh.cX.contains j || m.nm.contains (j,j))=true->j∈sh.cX\/(j,j)∈m.nm:=by
  intro j hj;simpa using hj
 have hfp:∀j,j∈sh.cX\/(j,j)∈m.nm->f j=j:=λj hj=>hj.elim (m4 j) (λ h=>hf (j,j) h);have hdp:∀j,j∈sh.cX\/(j,j)∈m.nm->DN m.nm j\/j∈sh.cX:=λj hj=>hj.elim .inr (λ h=> .inl ⟨j,h⟩);have hko:∀j∈sh.cX,j<s0.nx/\(∃ o,fY s0.obj j=some o/\fY s'.obj j=some o/\∀i∈d5 o,i∈sh.cX\/(i,i)∈m.nm):=by
  intro j hj;have:=all_eq_true.1 n7 _ hj;simp only[aJ,aT,Bool.not_eq_true']at this;obtain⟨⟨⟨a1,a2⟩,a3⟩,a4⟩:=this;refine⟨a1,?_⟩;cases ho0:fY s0.obj j with
  |none=>rw[ho0]at a4;cases a4
  |some o=>
   rw[ho0]at a4;refine⟨o,rfl,?_,λi hi=>kp i (all_eq_true.1 a4 i hi)⟩;obtain⟨d,hd,hd2⟩:=hx.obj;have hnd:j∉d:=by
    have e:s'.log.take (s'.log.length -s0.log.length)=d:=(by rw[hd,dH,Nat.add_sub_cancel,List.take_left]);rw[e]at a2;simpa using a2
   rcases hd2 j a1 hnd with h |h
   ·rw[h,ho0]
   ·rw[h]at a3;cases a3
 have hke:∀t∈sh.keep,t∉ds/\eC s'.env t=eC s0.env t/\∀j∈bo (eC s0.env t),j∈sh.cX\/(j,j)∈m.nm:=by
  intro t ht;have:=all_eq_true.1 n6 _ ht;simp only[aJ,Bool.not_eq_true']at this;obtain⟨⟨a1,a2⟩,a3⟩:=this;have a1':t∉ds:=by simpa using a1
  refine⟨a1',?_,λj hj=>kp j (all_eq_true.1 a3 j hj)⟩;rcases hx.env t a1' with h |h
  ·exact h
  ·exact(aiV a2 h).elim
 have hks:∀q∈es,q.1∈ds:=by
  intro q hq;have h1:=(pA q hq).1;obtain⟨z,hz,e⟩:=mem_map.1 h1;have:=all_eq_true.1 n5 _ hz;rw[<- e];simpa using this
 have hkeep:∀t,lk (sh.keep.map λt=>(t,eC s0.env t)) t=if t∈sh.keep then some (eC s0.env t)else none:=by
  intro t
  induction sh.keep with
  |nil=>simp[lk]
  |cons q qs ih=>
   simp only[aC,lk,ih,aM];by_cases e:q=t
   ·subst e;simp
   ·rw[aN e];simp[Ne.symm e]
 have zp:∀t,lk (sh.cX.map λt=>(t,fY s0.obj t)) t=if t∈sh.cX then some (fY s0.obj t)else none:=by
  intro t
  induction sh.cX with
  |nil=>simp[lk]
  |cons q qs ih=>
   simp only[aC,lk,ih,aM];by_cases e:q=t
   ·subst e;simp
   ·rw[aN e];simp[Ne.symm e]
 have qn:∀t,(∃ d,(t,d)∈es/\eC (encS sh s0 v).env t=d)\/(t∈sh.keep/\eC (encS sh s0 v).env t=eC s0.env t)\/eC (encS sh s0 v).env t= .undef:=by
  intro t;have e1:eC (encS sh s0 v).env t=(match lk es t with |some d=>some d |none=>if t∈sh.keep then some (eC s0.env t)else none).getD .undef:=by
   rw[hS];show(lk (es++sh.keep.map (λ t=>(t,eC s0.env t))) t).getD .undef=_;rw[Fe,hkeep t];cases lk es t<;>rfl
  rw[e1];cases he:lk es t with
  |some d=>exact .inl ⟨d,sJ he,rfl⟩
  |none=>
   by_cases ht:t∈sh.keep
   ·simp only[aO ht];exact .inr (.inl ⟨ht,rfl⟩)
   ·simp only[aN ht];exact .inr (.inr rfl)
 have jp:∀j o,fY (encS sh s0 v).obj j=some o->(∃ k' o1,(k',j)∈m.nm/\fY s'.obj k'=some o1/\(bF o).sz=(bF o1).sz/\gO (DN m.nm) f (bF o1).rows (bF o).rows/\(∀ i∈d5 o,SN m.nm i))\/(j∈sh.cX/\fY s0.obj j=some o):=by
  intro j o hjo;have e1:fY (encS sh s0 v).obj j=(match lk xs j with |some d=>some d |none=>if j∈sh.cX then some (fY s0.obj j)else none).join:=by
   rw[hS];show(lk (xs++sh.cX.map (λ k=>(k,fY s0.obj k))) j).join=_;rw[Fe,zp j];cases lk xs j<;>rfl
  rw[e1]at hjo;cases he:lk xs j with
  |some x=>
   rw[he]at hjo;obtain⟨_,k',o1,o',b1,b2,b3,b4,b5,b6⟩:=pB _ (sJ he);simp only at b1 b2 hjo;subst b1;simp only[Option.join_some,aA]at hjo;subst hjo;exact .inl ⟨k',o1,b2,b3,b4,b5,b6⟩
  |none=>
   rw[he]at hjo;by_cases hj:j∈sh.cX
   ·simp only[aO hj,Option.join_some]at hjo;exact .inr ⟨hj,hjo⟩
   ·simp[aN hj]at hjo
 have hnx:s0.nx<=sh.nx:=n8;have hkx:∀j,j∈sh.cX\/(j,j)∈m.nm->j<sh.nx:=λj hj=>hj.elim (λ hj=>Nat.lt_of_lt_of_le (hko j hj).1 hnx) (λ h=>hsn j ⟨j,h⟩);have hRW:∀{r q:List AV},mz (DN m.nm) f r q->mz (λ j=>DN m.nm j\/j∈sh.cX) f r q:=by
  intro r
  induction r with
  |nil=>intro q h;cases q with
   |nil=>trivial
   |cons=>exact h.elim
  |cons x xs ih=>intro q h;cases q with
   |nil=>exact h.elim
   |cons y ys=>exact⟨⟨λ k hk=> .inl (h.1.1 k hk),h.1.2⟩,ih h.2⟩
 have QP:∀{r q:List (List AV)},gO (DN m.nm) f r q->gO (λ j=>DN m.nm j\/j∈sh.cX) f r q:=by
  intro r
  induction r with
  |nil=>intro q h;cases q with
   |nil=>trivial
   |cons=>exact h.elim
  |cons x xs ih=>intro q h;cases q with
   |nil=>exact h.elim
   |cons y ys=>exact⟨hRW h.1,ih h.2⟩
 refine⟨v,h6,?_,?_,?_⟩
 ·constructor
  ·rw[hS];exact n9
  ·rw[hS];exact Nat.le_trans hl0.ge n8
  ·intro t j hj;have y4:(encS sh s0 v).nx=sh.nx:=(by rw[hS]);rw[y4];rcases qn t with ⟨d,h1,h2⟩ |⟨h1,h2⟩ |h2
   ·rw[h2]at hj;exact hsn j ((pA _ h1).2.2.2 j hj)
   ·rw[h2]at hj;exact hkx j ((hke t h1).2.2 j hj)
   ·rw[h2]at hj;simp[bo]at hj
  ·intro j o hjo;have y4:(encS sh s0 v).nx=sh.nx:=(by rw[hS]);rw[y4];rcases jp j o hjo with ⟨k',o1,b1,b2,b3,b4,b5⟩ |⟨b1,b2⟩
   ·exact⟨hsn j ⟨k',b1⟩,λi hi=>hsn i (b5 i hi)⟩
   ·have⟨c1,o',c2,c3,c4⟩:=hko j b1;rw[b2]at c2;cases c2;exact⟨hkx j (.inl b1),λi hi=>hkx i (c4 i hi)⟩
 ·refine⟨λ t ht=>?_,⟨(List.range s0.nx).filter (λ k=>!sh.cX.contains k),by rw[hS],λj hj hn=>?_⟩,by rw[hS];exact hnx⟩
  ·rcases qn t with ⟨d,h1,h2⟩ |⟨h1,h2⟩ |h2
   ·exact(ht (hks _ h1)).elim
   ·exact .inl h2
   ·exact .inr h2
  ·have hjk:j∈sh.cX:=(by simpa[hj]using hn);cases hjo:fY (encS sh s0 v).obj j with
   |none=>exact .inr rfl
   |some o=>
    rcases jp j o hjo with ⟨k',o1,b1,_⟩ |⟨b1,b2⟩
    ·exact((List.nodup_append.1 n2).2.2 j (mem_map.2 ⟨(k',j),b1,rfl⟩) j hjk rfl).elim
    ·exact .inl b2.symm
 ·intro P w0 O0 N β I a w hr;refine⟨_,Rel.re (f:=f) (g:=g) (D:=λj=>DN m.nm j\/j∈sh.cX) hgf hg0 hr (λ _=> .inl rfl) (λ _=>rfl) (λ t=>?_) (λ j o' hj=>?_)⟩
  ·show den (eC (encS sh s0 v).env t)= .undef\/((∀ k∈refs (den (eC s'.env t)),_)/\k7 (eV f (den (eC s'.env t))) (den (eC (encS sh s0 v).env t)));rcases qn t with ⟨d,h1,h2⟩ |⟨h1,h2⟩ |h2
   ·right;rw[h2];obtain⟨_,b1,b2,_⟩:=pA _ h1;exact⟨λ k hk=> .inl (b2 k (by rwa [iU]at hk)),b1⟩
   ·right;have⟨_,b1,b2⟩:=hke t h1;rw[h2,b1];refine⟨λ k hk=>hdp k (b2 k (by rwa [iU]at hk)),?_⟩;rw[<- Ct,Xp _ (λ k hk=>hfp k (b2 k hk))];exact k7.refl _
   ·left;rw[h2];rfl
  ·simp only[dc.st,eU]at hj;obtain⟨o,hjo,rfl⟩:=hj;rcases jp j o hjo with ⟨k',o1,b1,b2,b3,b4,b5⟩ |⟨b1,b2⟩
   ·exact⟨k',bF o1,by simp[dc.st,b2],.inl ⟨j,b1⟩,hf _ b1,b3,QP b4⟩
   ·have⟨c1,o',c2,c3,c4⟩:=hko j b1;rw[b2]at c2;cases c2;have hid:oy f o=o:=by
     cases o with
     |de c l=>rfl
     |map kc vc l=>rfl
     |cells sz rows=>
      simp only[oy];congr 1;have:∀q∈rows,Mc f q=q:=λq hq=>Cv q λi hi=>hfp i (c4 i (by
       simp only[d5,List.mem_flatten,mem_map];exact⟨_,⟨q,hq,rfl⟩,hi⟩))
      rw[map_congr_left this];simp
    obtain⟨r1,r2⟩:=Lv (D:=λj=>DN m.nm j\/j∈sh.cX) f o (λ i hi=>hdp i (c4 i hi));rw[hid]at r1 r2;exact⟨j,bF o,by simp[dc.st,c3],.inr b1,m4 j b1,r1,r2⟩
theorem Ext.trans{ds:Nat->Prop}{a b c:dc X}(h:Ext ds a b)(h':Ext ds b c):Ext ds a c:=by
 refine⟨λ t ht=>?_,?_,Nat.le_trans h.nx h'.nx⟩
 ·rcases h'.env t ht with h1 |h1
  ·rcases h.env t ht with h2 |h2
   ·exact .inl (h1.trans h2)
   ·exact .inr (h1.trans h2)
  ·exact .inr h1
 ·obtain⟨d,h1,h2⟩:=h.obj;obtain⟨d',h3,h4⟩:=h'.obj;refine⟨d'++d,by rw[h3,h1,aK],λk hk hn=>?_⟩;simp only[aW,not_or]at hn;rcases h4 k (Nat.lt_of_lt_of_le hk h.nx) hn.1 with h5 |h5
  ·rcases h2 k hk hn.2 with h6 |h6
   ·exact .inl (h5.trans h6)
   ·exact .inr (h5.trans h6)
  ·exact .inr h5
theorem Ext.refl(ds:Nat->Prop)(s:dc X):Ext ds s s:=⟨λ _ _=> .inl rfl,⟨[],by simp,λ_ _ _=> .inl rfl⟩,aQ _⟩
def Says(s s':dc X):Prop:=∀(P:Program) (w0:World) (O0:j0) (N:Nat) (β:Nat->Option cH) (I:Nat->Prop) (a:Act) (w:World),Rel P w0 O0 N β I s.st a w->∃ β',Rel P w0 O0 N β' I s'.st a w
theorem Low.room{s:dc X}{P:Program}{w0:World}{O0:j0}{N:Nat}{β:Nat->Option cH}{I:Nat->Prop}{a:Act}{w:World}(hl:Low s)(hr:Rel P w0 O0 N β I s.st a w):∃ β2,β2 s.nx=none/\Rel P w0 O0 N β2 I s.st a w:=by
 have hr1:=hr.restrict hl.old
 have hr2:=Rel.re (f:=id) (g:=λj=>if j<s.nx then j else 1000000) (D:=(· <s.nx)) (s':=s.st) (λ k hk=>aO hk) (λ j hj=>aO (by have:=hl.ge;omega)) hr1 (λ _=> .inl rfl) (λ _=>rfl)
  (λ q=> .inr ⟨λ k hk=>hl.env q k (by rw[<- iU];exact hk),by
   show k7 (eV id (den (eC s.env q))) (den (eC s.env q));rw[<- Ct,Xp (f:=id) _ (λ _ _=>rfl)];exact k7.refl _⟩)
  (λ j o' hj=>by
   simp only[dc.st,eU]at hj;obtain⟨x,hx,rfl⟩:=hj;have⟨h1,h2⟩:=hl.obj j x hx;have⟨r1,r2⟩:=Lv (D:=(· <s.nx)) id x h2;have hid:oy id x=x:=by
    cases x with
    |de c l=>rfl
    |map kc vc l=>rfl
    |cells sz rows=>
     simp only[oy];congr 1;have:∀q∈rows,Mc id q=q:=λq _=>Cv (f:=id) q λ_ _=>rfl;rw[map_congr_left this];simp
   rw[hid]at r1 r2;exact⟨j,bF x,by simp[dc.st,hx],h1,rfl,r1,r2⟩)
 exact⟨_,by simp,hr2⟩
theorem al7(z:Bool)(k:Nat):bo (nz (X:=X) z k)=[k]:=by cases z<;>rfl
theorem Xr{ds:List Nat}{z:Bool}{s:dc X}{t:Nat}{c:CT X.ι}(hl:Low s)(ht:t∈ds):Low (xy z s t c)/\Ext (· ∈ds) s (xy z s t c)/\Says s (xy z s t c):=by
 unfold xy;split
 ·rename_i hn;split
  ·rename_i hlt;have he:∀q,eC ((t,nz z s.nx)::s.env) q=if t=q then nz z s.nx else eC s.env q:=λq=>by
    simp only[eC,lk];by_cases e:t=q<;>simp[e]
   have hO:∀q,fY ((s.nx,some (.de c []))::s.obj) q=if s.nx=q then some (.de c [])else fY s.obj q:=λq=>by
    simp only[fY,lk];by_cases e:s.nx=q<;>simp[e]
   refine⟨⟨by show s.nx+1<=1000000;omega,by have:=hl.ge;show 1000<=s.nx+1;omega,λq k hk=>?_,λk o ho=>?_⟩,⟨λ q hq=>?_,⟨[s.nx],rfl,λk hk hnk=>?_⟩,by show s.nx<=s.nx+1;omega⟩,λP w0 O0 N β I a w hr=>?_⟩
   ·rw[he]at hk;split at hk
    ·simp only[al7,aZ]at hk;subst hk;show s.nx<s.nx+1;omega
    ·have:=hl.env q k hk;show k<s.nx+1;omega
   ·rw[hO]at ho;split at ho
    ·rename_i e;cases ho;subst e;exact⟨by show s.nx<s.nx+1;omega,by simp[d5]⟩
    ·have⟨h1,h2⟩:=hl.obj k o ho;exact⟨by show k<s.nx+1;omega,λj hj=>by have:=h2 j hj;show j<s.nx+1;omega⟩
   ·left;rw[he,aN];intro e;subst e;exact hq ht
   ·left;rw[hO,aN (by omega)]
   ·have⟨β2,CL,hr2⟩:=hl.room hr;have⟨hS,hM⟩:=Mem.pf (i:=s.nx) (o:=bF (.de c []:bu X)) hr2.mem CL rfl;refine⟨ins β2 s.nx .none,hr2.defers,hr2.size,λq=>?_,?_⟩
    ·have h1:=hr2.env q;show eK P _ w I (den (eC ((t,nz z s.nx)::s.env) q)) none _;rw[he];by_cases e:t=q
     ·subst e;rw[aO rfl];have h2:VR P _ w I (den (eC s.env t)) (a.tmps.getD t undef):=h1;rw[hn]at h2;simp only[den,VR]at h2;cases z with
      |false=>simp only[eK,nz,ak,den,VR];exact .inl ⟨by simp[ins],h2,trivial,trivial⟩
      |true=>simp only[eK,nz,aj,den,VR];exact .inl ⟨trivial,h2⟩
     ·rw[aN e];exact eK.mono hS.ext hS.same hS.inc h1
    ·have e:(λ k=>(fY ((s.nx,some (.de c []))::s.obj) k).map bF)=bT s.st.obj [(s.nx,some (bF (.de c []:bu X)))]:=by
      funext q;simp only[bT,dc.st];rw[hO];by_cases e:s.nx=q
      ·simp[e]
      ·rw[aN e,aN (Ne.symm e)]
     show Mem P w0 O0 _ I (λ k=>(fY ((s.nx,some (.de c []))::s.obj) k).map bF) w;rw[e];exact hM
  ·exact⟨hl,Ext.refl _ s,λ_ _ _ _ β _ _ _ h=>⟨β,h⟩⟩
 ·exact⟨hl,Ext.refl _ s,λ_ _ _ _ β _ _ _ h=>⟨β,h⟩⟩
theorem Xt(y:DV X):∀(l:List (DV X))(j i:Nat),i∈aS (l.set j y)->i∈aS l\/i∈bo y
 |[],_,_,h=> .inl (by simpa using h)
 |x::l,0,i,h=>by
  simp only[List.set,aS,aW]at h ⊢;rcases h with h |h
  ·exact .inr h
  ·exact .inl (.inr h)
 |x::l,j+1,i,h=>by
  simp only[List.set,aS,aW]at h ⊢;rcases h with h |h
  ·exact .inl (.inl h)
  ·rcases Xt y l j i h with h |h
   ·exact .inl (.inr h)
   ·exact .inr h
theorem bk.set{P:Program}{β:Nat->Option cH}{w:World}{I:Nat->Prop}{y:AV}:∀(xs:List AV)(vs:List Value)(j:Nat),(∀ x v,xs[j]? =some x->VR P β w I x v->VR P β w I y v)->bk P β w I xs vs->bk P β w I (xs.set j y) vs
 |[],vs,_,_,h=>by simpa using h
 |x::xs,[],_,_,h=>by simp[bk]at h
 |x::xs,v::vs,0,hy,h=>by simp only[bk,List.set]at h ⊢;exact⟨hy x v rfl h.1,h.2⟩
 |x::xs,v::vs,j+1,hy,h=>by simp only[bk,List.set]at h ⊢;exact⟨h.1,bk.set xs vs j (λ x v e=>hy x v (by simpa using e)) h.2⟩
theorem OR.set1{P:Program}{β:Nat->Option cH}{w:World}{I:Nat->Prop}{sz:Nat}{row:List AV}{j:Nat}{y:AV}{B:cH}(hy:∀x v,row[j]? =some x->VR P β w I x v->VR P β w I y v)(h:OR P β w I ⟨sz,[row]⟩ B):OR P β w I ⟨sz,[row.set j y]⟩ B:=by
 cases B with
 |none=>simp[OR]at h
 | «at» b s n=>
  obtain⟨h1,c,e,h2,h3,h4⟩:=h;refine⟨h1,c,e,h2,h3,?_⟩;simp only[br,List.length_set]at h4 ⊢;refine⟨h4.1,?_,trivial⟩;rw[lM]at h4 ⊢;intro i x hx;rw[List.getElem?_set]at hx;split at hx
  ·rename_i e;subst e;split at hx
   ·cases hx;rename_i hlt;obtain⟨v,g1,g2,g3⟩:=h4.2.1 j _ (dI hlt);exact⟨v,g1,hy _ v (dI hlt) g2,g3⟩
   ·cases hx
  ·exact h4.2.1 i x hx
 |mp b=>
  obtain⟨es,cl,h1,hle,h2,h3⟩:=h;refine⟨es,cl,h1,hle,λe=>?_,h3⟩;have:=h2 e
  match hes:es.toList,this with
  |[e1],this=>simp only[cC]at this ⊢;exact⟨bk.set _ _ j hy this.1,trivial⟩
  |[],this=>simp[cC]at this
  |_::_::_,this=>simp[cC]at this
theorem aea(y:DV X):∀(l:List (DV X))(j:Nat),bJ (l.set j y)=(bJ l).set j (den y)
 |[],_=>by simp[bJ]
 |x::l,0=>by simp[bJ]
 |x::l,j+1=>by simp[bJ,aea y l j]
theorem ags{ds:List Nat}{s:dc X}{q j:Nat}{c:CT X.ι}(hl:Low s):Low (Dd s q j c)/\Ext (· ∈ds) s (Dd s q j c)/\Says s (Dd s q j c):=by
 unfold Dd;split
 ·rename_i sz row hq;split
  ·rename_i hn;split
   ·rename_i hlt;have hqn:q<s.nx:=(hl.obj q _ hq).1;have hrefs:∀k∈aS row,k<s.nx:=λk hk=>(hl.obj q _ hq).2 k (by simpa[d5]using hk);have hO:∀k,fY ((q,some (.cells sz [row.set j (.own s.nx 0 0)]))::(s.nx,some (.de c []))::s.obj) k=if q=k then some (.cells sz [row.set j (.own s.nx 0 0)])else if s.nx=k then some (.de c [])else fY s.obj k:=λk=>by
     simp only[fY,lk];by_cases e:q=k
     ·simp[e]
     ·by_cases e':s.nx=k<;>simp[e,e']
    refine⟨⟨by show s.nx+1<=1000000;omega,by have:=hl.ge;show 1000<=s.nx+1;omega,λk i hk=>by have:=hl.env k i hk;show i<s.nx+1;omega,λk o ho=>?_⟩,⟨λ _ _=> .inl rfl,⟨[q,s.nx],rfl,λk hk hnk=>?_⟩,by show s.nx<=s.nx+1;omega⟩,λP w0 O0 N β I a w hr=>?_⟩
    ·rw[hO]at ho;split at ho
     ·rename_i e;cases ho;subst e;refine⟨by show q<s.nx+1;omega,λi hi=>?_⟩;show i<s.nx+1;simp only[d5,aC,map_nil,flatten_cons,List.flatten_nil,append_nil]at hi;rcases Xt _ _ _ _ hi with h1 |h1
      ·have:=hrefs i h1;omega
      ·simp only[bo,aZ]at h1;omega
     ·split at ho
      ·rename_i e;cases ho;subst e;exact⟨by show s.nx<s.nx+1;omega,by simp[d5]⟩
      ·have⟨h1,h2⟩:=hl.obj k o ho;exact⟨by show k<s.nx+1;omega,λi hi=>by have:=h2 i hi;show i<s.nx+1;omega⟩
    ·left;simp only[aM,jA,or_false,not_or]at hnk;rw[hO,aN (Ne.symm hnk.1),aN (Ne.symm hnk.2)]
    ·have⟨β2,CL,hr2⟩:=hl.room hr;have⟨hS,hM⟩:=Mem.pf (i:=s.nx) (o:=bF (.de c []:bu X)) hr2.mem CL rfl;refine⟨ins β2 s.nx .none,hr2.defers,hr2.size,λk=>eK.mono hS.ext hS.same hS.inc (hr2.env k),?_⟩;refine hM.weak λk o' ho=>?_;simp only[dc.st]at ho;rw[hO]at ho;by_cases e:q=k
     ·subst e;rw[aO rfl,Option.map_some]at ho;cases ho;refine⟨bF (.cells sz [row]),by simp only[bT];rw[aN (by omega)];simp[dc.st,hq],λB _ hB=>?_⟩;simp only[bF,aC,map_nil,aea]at hB ⊢;refine OR.set1 (λ x v hx hv=>?_) hB;rw[ou,List.getElem?_map,hn]at hx;cases hx;simp only[den,VR]at hv ⊢;exact .inl ⟨by simp[ins],hv,trivial,trivial⟩
     ·rw[aN e]at ho;refine⟨o',?_,λ_ _ h=>h⟩;simp only[bT];by_cases e':s.nx=k
      ·subst e';rw[aO rfl]at ho ⊢;simpa using ho
      ·rw[aN e']at ho;rw[aN (Ne.symm e')];exact ho
   ·exact⟨hl,Ext.refl _ s,λ_ _ _ _ β _ _ _ h=>⟨β,h⟩⟩
  ·exact⟨hl,Ext.refl _ s,λ_ _ _ _ β _ _ _ h=>⟨β,h⟩⟩
 ·exact⟨hl,Ext.refl _ s,λ_ _ _ _ β _ _ _ h=>⟨β,h⟩⟩
theorem OX{ds:List Nat}:∀(l:List (Nat×CT X.ι)){s:dc X},Low s->(∀ p∈l,(bif Nat.ble 1000000 p.1 then !Nat.ble 1099511627776 p.1 || ds.contains (p.1 -1099511627776)else ds.contains p.1)=true)->Low (Ro l s)/\Ext (· ∈ds) s (Ro l s)/\Says s (Ro l s)
 |[],s,hl,_=>⟨hl,Ext.refl _ s,λ_ _ _ _ β _ _ _ h=>⟨β,h⟩⟩
 |(t,c)::r,s,hl,hd=>by
  generalize hs:(bif Nat.ble 1000000 t then bif Nat.ble 1099511627776 t then xy true s (t -1099511627776) c else Dd s ((t -1000000)/4096) ((t -1000000)%4096) c else xy false s t c)=s1;have h0:Low s1/\Ext (· ∈ds) s s1/\Says s s1:=by
   have hd0:=hd (t,c) (by simp);simp only at hd0;subst hs;cases hb:Nat.ble 1000000 t with
   |true=>
    rw[hb]at hd0;cases hb2:Nat.ble 1099511627776 t with
    |true=>rw[hb2]at hd0;exact Xr hl (by simpa using hd0)
    |false=>exact ags hl
   |false=>rw[hb]at hd0;exact Xr hl (by simpa using hd0)
  obtain⟨h1,h2,h3⟩:=h0;simp only[Ro,hs];obtain⟨g1,g2,g3⟩:=OX r h1 (λ p hp=>hd p (by simp[hp]));refine⟨g1,h2.trans g2,λP w0 O0 N β I a w hr=>?_⟩;have⟨β',hr'⟩:=h3 P w0 O0 N β I a w hr;exact g3 P w0 O0 N β' I a w hr'
theorem lV{A:Type}{sh:Sh X.ι}{ds:List Nat}{s0 s':dc X}{k:VT (X:=X) sh.vars->Option A}{r:A}(hl0:Low s0)(hl':Low s')(hx:Ext (· ∈ds) s0 s')(h:qO sh ds s0 s' k=some r):
 ∃v,k v=some r/\Low (encS sh s0 v)/\Ext (· ∈ds) s0 (encS sh s0 v)/\Says s' (encS sh s0 v):=by
 unfold qO at h;have⟨h1,h2⟩:=dD h;obtain⟨g1,g2,g3⟩:=OX (ds:=ds) sh.ym hl' (λ p hp=>all_eq_true.1 h1 p hp);have⟨v,i1,i2,i3,i4⟩:=ace hl0 (hx.trans g2) h2;refine⟨v,i1,i2,i3,λP w0 O0 N β I a w hr=>?_⟩;have⟨β',hr'⟩:=g3 P w0 O0 N β I a w hr;exact i4 P w0 O0 N β' I a w hr'
end
def gH:Code->List Nat
 | .region _ am _=>am.toList.filterMap (·.dst)
 | .seq a b=>gH a++gH b
 | .cond _ a b=>gH a++gH b
 | .block _ b=>gH b
 | .loop b=>gH b
 |_=>[]
section
variable {X:SX}
section
variable {P:Program} {N:Nat}
def MX{A:Type}(ds:List Nat)(s:dc X)(k:Exit->dc X->Option A)(r:A)(e:Exit)(σ:St):Prop:=∃s',Low s'/\Ext (· ∈ds) s s'/\σ=s'.st/\k e s'=some r
theorem ahZ{c:Code}{Q Q':Exit->St->Prop}{σ:St}(h:Ev P N c Q σ)(ht:∀e σ,Q e σ->∀w0 O0 β I a w,Rel P w0 O0 N β I σ a w->∃ β' σ',Rel P w0 O0 N β' I σ' a w/\sx σ'/\Q' e σ'):Ev P N c Q' σ:=by
 intro w0 O0 β I a w hr ho;refine wp_mono (h w0 O0 β I a w hr ho) ?_;rintro e a' w' ⟨β',I',σ',h1,_,h3⟩;have⟨β2,σ2,g1,g2,g3⟩:=ht e σ' h3 w0 O0 β' I' a' w' h1;exact⟨β2,I',σ2,g1,g2,g3⟩
end
end
inductive Hn(ι:Type) where
 |z
 |f (l:List Nat)
 |s (a b:Hn ι)
 |b (a:Hn ι)
 |j (sh:Sh ι) (a:Hn ι)
 |jx (sh:Sh ι) (a:Hn ι)
 |l (head:Sh ι) (id:Nat) (ab:Sh ι) (a:Hn ι)
 |lx (head:Sh ι) (id:Nat) (ab:Sh ι) (a:Hn ι)
 |rg (head:Sh ι) (a:Hn ι)
 |un (a r:Hn ι)
def Hn.fz{ι:Type}:Hn ι->List Nat
 | .f is=>is
 |_=>[]
def Hn.fst{ι:Type}:Hn ι->Hn ι
 | .s a _=>a
 |_=> .z
def Hn.snd{ι:Type}:Hn ι->Hn ι
 | .s _ y=>y
 |_=> .z
def Hn.sub{ι:Type}:Hn ι->Hn ι
 | .b a=>a
 |_=> .z
def iter{V O:Type}(step:V->Option (V⊕O)):Nat->V->Option O
 | 0,_=>none
 |n+1,v=>(step v).bind λr=>match r with
  | .inl v=>iter step n v
  | .inr o=>some o
def In{X:SX}{A:Type}(body:Hn X.ι->dc X->(Exit->dc X->Option A)->Option A):Hn X.ι->dc X->(Exit->dc X->Option A)->Option A
 | .un a r,s,k=>body a s λe s'=>match e with
  | .normal=>In body r s' k
  |e=>k e s'
 |_,_,_=>none
def dh{W A:Type}(o:Option (W⊕A))(f:W->Option A):Option A:=o.bind λr=>match r with
 | .inl w=>f w
 | .inr a=>some a
noncomputable def both{A:Type}(x y:Option A):Option A:=open Classical in if x=y then x else none
theorem aiW{A:Type}{x y:Option A}{r:A}(h:both x y=some r):x=some r/\y=some r:=by
 unfold both at h;split at h
 ·rename_i e;exact⟨h,e ▸ h⟩
 ·cases h
theorem aiX{A:Type}(x:Option A):both x x=x:=by simp[both]
section
variable {X:SX}
def DQ(ds:List Nat)(s:dc X)(h:Hn X.ι){A:Type}(k:Exit->dc X->Option A)(body:(B:Type)->Hn X.ι->(Exit->dc X->Option B)->Option B):Option A:=
 match h with
 | .j sh h'=>(body (VT (X:=X) sh.vars) h' λe s'=>match e with
  | .normal=>qO sh ds s s' some
  |_=>none).bind λv=>k .normal (encS sh s v)
 | .jx sh h'=>dh (body (VT (X:=X) sh.vars⊕A) h' λe s'=>match e with
  | .normal=>qO sh ds s s' λv=>some (.inl v)
  |e=>(k e s').map .inr) λv=>k .normal (encS sh s v)
 |h=>body A h k
variable (Γ:FuncId->Option (b9 X)) (T:dC) (ao:TypeId->Option (CT X.ι)) (N n:Nat)
noncomputable def run:Code->(A:Type)->Hn X.ι->dc X->(Exit->dc X->Option A)->Option A
 | .skip,_,_,s,k=>k .normal s
 | .region id am d,A,h,s,k=>DQ (gH (.region id am d)) s h k λ_ h k=>T3 Γ h.fz T ao N am d s (k .normal)
 | .seq x y,A,h,s,k=>DQ (gH (.seq x y)) s h k λB h k=>run x B h.fst s λe s'=>match e with
  | .normal=>run y B h.snd s' k
  |e=>k e s'
 | .cond c x y,A,h,s,k=>DQ (gH (.cond c x y)) s h k λB h k=>match Zw (eC s.env) c with
  | .c .bool v=>bif v then run x B h.fst s k else run y B h.snd s k
  | .ub=>both (run x B h.fst s k) (run y B h.snd s k)
  |_=>none
 | .block id b,A,h,s,k=>DQ (gH (.block id b)) s h k λB h k=>run b B h.sub s λe s'=>match e with
  | .exit j=>if j=id then k .normal s' else k (.exit j) s'
  |e=>k e s'
 | .loop b,A,h,s,k=>match h with
  | .l hd id ab h'=>qO hd (gH b) s s λv0=>(iter (λ v=>run b (VT (X:=X) hd.vars⊕VT (X:=X) ab.vars) h' (encS hd s v) λe s'=>match e with
   | .normal=>qO hd (gH b) s s' λv=>some (.inl v)
   | .exit j=>if j=id then qO ab (gH b) s s' λw=>some (.inr w)else none
   |_=>none) n v0).bind λw=>k (.exit id) (encS ab s w)
  | .lx hd id ab h'=>qO hd (gH b) s s λv0=>dh (iter (λ v=>run b (VT (X:=X) hd.vars⊕(VT (X:=X) ab.vars⊕A)) h' (encS hd s v) λe s'=>match e with
   | .normal=>qO hd (gH b) s s' λv=>some (.inl v)
   | .exit j=>if j=id then qO ab (gH b) s s' λw=>some (.inr (.inl w))else(k (.exit j) s').map λa=> .inr (.inr a)
   |e=>(k e s').map λa=> .inr (.inr a)) n v0) λw=>k (.exit id) (encS ab s w)
  | .un a r=>In (λ h s k=>run b A h s k) (.un a r) s k
  |_=>none
 | .exit id,_,_,s,k=>k (.exit id) s
 | .ret,_,_,s,k=>k .ret s
 | .label _,_,_,s,k=>k .normal s
 |_,_,_,_,_=>none
section
variable {Γ:FuncId->Option (b9 X)} {T:dC} {ao:TypeId->Option (CT X.ι)} {N n:Nat} {P:Program}
theorem Ext.wide{ds ds':Nat->Prop}{a b:dc X}(h:Ext ds a b)(hd:∀t,ds t->ds' t):Ext ds' a b:=⟨λ t ht=>h.env t λhh=>ht (hd t hh),h.obj,h.nx⟩
theorem map_inr{α β:Type}{o:Option β}{r:α⊕β}(h:o.map Sum.inr=some r):∃b,o=some b/\r= .inr b:=by
 cases o with
 |none=>cases h
 |some b=>injection h with h;exact⟨b,rfl,h.symm⟩
theorem GI{c:Code}{s:dc X}{h:Hn X.ι}{A:Type}{k:Exit->dc X->Option A}{r:A}{body:(B:Type)->Hn X.ι->(Exit->dc X->Option B)->Option B}(hl:Low s)
 (hb:∀(B:Type)(h:Hn X.ι)(k:Exit->dc X->Option B)(r:B),body B h k=some r->Ev P N c (MX (gH c) s k r) s.st) (hr:DQ (gH c) s h k body=some r):Ev P N c (MX (gH c) s k r) s.st:=by
 unfold DQ at hr;split at hr
 ·rename_i sh h';rw[ai]at hr;obtain⟨v,h1,hr⟩:=hr;refine ahZ (hb _ _ _ _ h1) ?_;rintro e σ ⟨s',g1,g2,rfl,g4⟩ w0 O0 β I a w hrel;cases e<;>simp only[reduceCtorEq]at g4;have⟨v',i1,i2,i3,i4⟩:=lV hl g1 g2 g4;cases i1;have⟨β',i5⟩:=i4 P w0 O0 N β I a w hrel;exact⟨β',_,i5,i2.old,_,i2,i3,rfl,hr⟩
 ·rename_i sh h';unfold dh at hr;have⟨v,h1,hr⟩:=ai.1 hr;refine ahZ (hb _ _ _ _ h1) ?_;rintro e σ ⟨s',g1,g2,rfl,g4⟩ w0 O0 β I a w hrel;have other:(k e s').map Sum.inr=some v->∃ β' σ',Rel P w0 O0 N β' I σ' a w/\sx σ'/\MX (gH c) s k r e σ':=by
   intro hm;obtain⟨b,hk,rfl⟩:=map_inr hm;cases hr;exact⟨β,_,hrel,g1.old,s',g1,g2,rfl,hk⟩
  cases e with
  |normal=>
   simp only at g4;have⟨v',i1,i2,i3,i4⟩:=lV hl g1 g2 g4;cases i1;have⟨β',i5⟩:=i4 P w0 O0 N β I a w hrel;exact⟨β',_,i5,i2.old,_,i2,i3,rfl,hr⟩
  |_=>exact other g4
 ·exact hb _ _ _ _ hr
theorem aiY{id:Nat}{am:Array Oper}{d:Bool}{t:Nat}(h:Tx am t):t∈gH (.region id am d):=by
 obtain⟨j,op,h1,h2⟩:=h;simp only[gH,List.mem_filterMap];exact⟨op,by rw[<- Array.getElem?_toList]at h1;exact cu h1,h2⟩
theorem Xu{b:Code}{s:dc X}{hd:Sh X.ι}{O:Type}{step:VT (X:=X) hd.vars->Option (VT (X:=X) hd.vars⊕O)}{kb:Exit->dc X->Option (VT (X:=X) hd.vars⊕O)}{Q:Exit->St->Prop}(hl:Low s)
 (hkn:∀s',kb .normal s'=qO hd (gH b) s s' λv=>some (.inl v))
 (hstep:∀v r,Low (encS hd s v)->step v=some r->Ev P N b (MX (gH b) (encS hd s v) kb r) (encS hd s v).st)
 {o:O} (hQ:∀e s',e≠ .normal->Low s'->Ext (· ∈gH b) s s'->kb e s'=some (.inr o)->∀w0 O0 β I a w,Rel P w0 O0 N β I s'.st a w->∃ β' σ',Rel P w0 O0 N β' I σ' a w/\sx σ'/\Q e σ')
 (hno:∀e s' v,e≠ .normal->kb e s'=some (.inl v)->False) (n:Nat) (v0:VT (X:=X) hd.vars) (h:iter step n v0=some o) (hl0:Low (encS hd s v0)) (hx0:Ext (· ∈gH b) s (encS hd s v0)):Ev P N (.loop b) Q (encS hd s v0).st:=by
 intro w0 O0 β I a w hr ho;refine aax (λ n a w=>∃ β I v,Rel P w0 O0 N β I (encS hd s v).st a w/\iter step n v=some o/\Low (encS hd s v)/\Ext (· ∈gH b) s (encS hd s v)) (λ a w ⟨_,_,v,_,h,_⟩=>by cases h) ?_ n a w ⟨β,I,v0,hr,h,hl0,hx0⟩;rintro n a w ⟨β,I,v,hr,hi,hlv,hxv⟩;simp only[iter]at hi;have⟨r,h1,hi⟩:=ai.1 hi;refine wp_mono (hstep v r hlv h1 w0 O0 β I a w hr hlv.old) ?_;rintro e a' w' ⟨β',I',σ',g1,_,s',g2,g3,rfl,g4⟩;have hxs:=hxv.trans g3;by_cases he:e= .normal
 ·subst he;rw[hkn]at g4;have⟨v',i1,i2,i3,i4⟩:=lV hl g2 hxs g4;cases i1;have⟨β2,i5⟩:=i4 P w0 O0 N β' I' a' w' g1;exact⟨β2,I',v',i5,hi,i2,i3⟩
 ·cases r with
  |inl v'=>exact(hno e s' v' he g4).elim
  |inr o'=>
   cases hi;have⟨β2,σ2,i1,i2,i3⟩:=hQ e s' he g2 hxs g4 w0 O0 β' I' a' w' g1;cases e with
   |normal=>exact(he rfl).elim
   |_=>exact⟨β2,I',σ2,i1,i2,i3⟩
theorem Xv{A:Type}{sh:Sh X.ι}{ds:List Nat}{s0 s':dc X}{k:VT (X:=X) sh.vars->Option A}{r:A}(h:qO sh ds s0 s' k=some r):∃v,k v=some r:=by
 unfold qO at h;have⟨_,h⟩:=dD h;unfold L4 at h;have⟨m1,h1,h⟩:=ai.1 h;have⟨m,h2,h⟩:=ai.1 h;have⟨h3,h⟩:=dD h;have⟨v,h4,h⟩:=ai.1 h;exact⟨v,(qc h).2⟩
theorem aeb{α β γ:Type}{o:Option γ}{r:α⊕(β⊕γ)}(h:o.map (λ a=>Sum.inr (Sum.inr a))=some r):∃b,o=some b/\r= .inr (.inr b):=by
 cases o with
 |none=>cases h
 |some b=>injection h with h;exact⟨b,rfl,h.symm⟩
def Hn.len{ι:Type}:Hn ι->Nat
 | .un _ r=>r.len+1
 |_=>0
theorem aiZ{b:Code}{A:Type}{body:Hn X.ι->dc X->(Exit->dc X->Option A)->Option A}{s0:dc X}{k:Exit->dc X->Option A}{r:A}
 (hb:∀(h:Hn X.ι)(s:dc X)(k:Exit->dc X->Option A)(r:A),Low s->body h s k=some r->Ev P N b (MX (gH b) s k r) s.st)
 {h:Hn X.ι} (hl:Low s0) (hr:In body h s0 k=some r):Ev P N (.loop b) (MX (gH (.loop b)) s0 k r) s0.st:=by
 refine alR (λ n σ=>∃(h:Hn X.ι)(s:dc X),σ=s.st/\h.len=n/\Low s/\Ext (· ∈gH b) s0 s/\In body h s k=some r) ?_ ?_ h.len ⟨h,s0,rfl,rfl,hl,Ext.refl _ s0,hr⟩
 ·rintro σ ⟨h,s,_,h1,_,_,h2⟩;cases h<;>first |cases h2 |cases h1
 ·rintro n σ ⟨h,s,rfl,h1,h2,h3,h4⟩;cases h<;>try cases h4
  rename_i a q;simp only[Hn.len,Nat.add_right_cancel_iff]at h1;refine(hb a s _ r h2 h4).mono ?_;rintro e σ ⟨s',g1,g2,rfl,g4⟩;have hx:=h3.trans g2;cases e with
  |normal=>exact⟨q,s',rfl,h1,g1,hx,g4⟩
  |_=>exact⟨s',g1,hx,rfl,g4⟩
theorem lu(hT:eZ P T)(hm:P.follows .mixedOrders=true)(hΓ:rI P Γ):∀(c:Code)(A:Type)(h:Hn X.ι)(s:dc X)(k:Exit->dc X->Option A)(r:A),Low s->run Γ T ao N n c A h s k=some r->Ev P N c (MX (gH c) s k r) s.st
 | .skip,A,h,s,k,r,hl,hr=>alO ⟨s,hl,Ext.refl _ s,rfl,hr⟩
 | .exit id,A,h,s,k,r,hl,hr=>alP ⟨s,hl,Ext.refl _ s,rfl,hr⟩
 | .ret,A,h,s,k,r,hl,hr=>am6 ⟨s,hl,Ext.refl _ s,rfl,hr⟩
 | .label l,A,h,s,k,r,hl,hr=>aj4 ⟨s,hl,Ext.refl _ s,rfl,hr⟩
 | .region id am d,A,h,s,k,r,hl,hr=>by
  refine GI hl (λ B h k r hb=>?_) hr;have⟨s',g1,g2,g3,g4⟩:=ab9 (id:=id) hT hm hΓ hl hb;exact g4.mono λe σ ⟨he,hσ⟩=>⟨s',g2,g3.wide λt ht=>aiY ht,hσ,by rw[he];exact g1⟩
 | .seq x y,A,h,s,k,r,hl,hr=>by
  refine GI hl (λ B h k r hb=>?_) hr;refine am7 ((lu hT hm hΓ x B _ s _ r hl hb).mono ?_);rintro e σ ⟨s',g1,g2,rfl,g4⟩;have wide:Ext (· ∈gH (.seq x y)) s s':=g2.wide λt ht=>by simp[gH,ht]
  cases e with
  |normal=>
   exact(lu hT hm hΓ y B _ s' k r g1 g4).mono λe σ ⟨s2,i1,i2,i3,i4⟩=>⟨s2,i1,wide.trans (i2.wide λt ht=>by simp[gH,ht]),i3,i4⟩
  |_=>exact⟨s',g1,wide,rfl,g4⟩
 | .cond c x y,A,h,s,k,r,hl,hr=>by
  refine GI hl (λ B h k r hb=>?_) hr;split at hb
  ·rename_i v hv;refine alQ v (λ _ _=>rfl) ?_ ?_
   ·have:=WC (eC s.env) c;rw[hv]at this;exact this.symm
   ·cases v with
    |true=>exact(lu hT hm hΓ x B _ s k r hl hb).mono λe σ ⟨s2,i1,i2,i3,i4⟩=>⟨s2,i1,i2.wide λt ht=>by simp[gH,ht],i3,i4⟩
    |false=>exact(lu hT hm hΓ y B _ s k r hl hb).mono λe σ ⟨s2,i1,i2,i3,i4⟩=>⟨s2,i1,i2.wide λt ht=>by simp[gH,ht],i3,i4⟩
  ·rename_i hv;have⟨hb1,hb2⟩:=aiW hb;refine afU (λ _ _=>rfl) ?_ ?_ ?_
   ·have:=WC (eC s.env) c;rw[hv]at this;exact this.symm
   ·exact(lu hT hm hΓ x B _ s k r hl hb1).mono λe σ ⟨s2,i1,i2,i3,i4⟩=>⟨s2,i1,i2.wide λt ht=>by simp[gH,ht],i3,i4⟩
   ·exact(lu hT hm hΓ y B _ s k r hl hb2).mono λe σ ⟨s2,i1,i2,i3,i4⟩=>⟨s2,i1,i2.wide λt ht=>by simp[gH,ht],i3,i4⟩
  ·cases hb
 | .block id b,A,h,s,k,r,hl,hr=>by
  refine GI hl (λ B h k r hb=>?_) hr;refine aj5 ((lu hT hm hΓ b B _ s _ r hl hb).mono ?_);rintro e σ ⟨s',g1,g2,rfl,g4⟩;cases e with
  |exit j=>
   simp only[UV];simp only at g4;split
   ·rw[aO ‹_›]at g4;exact⟨s',g1,g2,rfl,g4⟩
   ·rw[aN ‹_›]at g4;exact⟨s',g1,g2,rfl,g4⟩
  |_=>exact⟨s',g1,g2,rfl,g4⟩
 | .loop b,A,h,s,k,r,hl,hr=>by
  simp only[run]at hr;split at hr
  ·rename_i hd id ab h';obtain⟨v0,h1,h2,h3,h4⟩:=lV hl hl (Ext.refl _ s) hr;rw[ai]at h1;obtain⟨w,h5,h6⟩:=h1;intro w0 O0 β I a ww hrel ho;have⟨β',hrel'⟩:=h4 P w0 O0 N β I a ww hrel;refine Xu (Q:=MX (gH (.loop b)) s k r) hl (λ s'=>rfl) (λ v r hlv hs=>lu hT hm hΓ b _ h' (encS hd s v) _ r hlv hs) (λ e s' he hls hxs hk=>?_) (λ e s' v he hk=>?_) n v0 h5 h2 h3 w0 O0 β' I a ww hrel' h2.old
   ·cases e with
    |exit j=>
     simp only at hk;split at hk
     ·rename_i hj;subst hj;have⟨w',i1,i2,i3,i4⟩:=lV hl hls hxs hk;injection i1 with i1;cases i1;intro w0 O0 β I a ww hrel;have⟨β',hrel'⟩:=i4 P w0 O0 N β I a ww hrel;exact⟨β',_,hrel',i2.old,_,i2,i3,rfl,h6⟩
     ·cases hk
    |normal=>exact(he rfl).elim
    |_=>cases hk
   ·cases e with
    |exit j=>
     simp only at hk;split at hk
     ·have⟨w',i1⟩:=Xv hk;injection i1 with i1;cases i1
     ·cases hk
    |normal=>exact he rfl
    |_=>cases hk
  ·rename_i hd id ab h';obtain⟨v0,h1,h2,h3,h4⟩:=lV hl hl (Ext.refl _ s) hr;unfold dh at h1;rw[ai]at h1;obtain⟨w,h5,h6⟩:=h1;intro w0 O0 β I a ww hrel ho;have⟨β',hrel'⟩:=h4 P w0 O0 N β I a ww hrel;refine Xu (Q:=MX (gH (.loop b)) s k r) hl (λ s'=>rfl) (λ v r hlv hs=>lu hT hm hΓ b _ h' (encS hd s v) _ r hlv hs) (λ e s' he hls hxs hk=>?_) (λ e s' v he hk=>?_) n v0 h5 h2 h3 w0 O0 β' I a ww hrel' h2.old
   ·intro w0 O0 β I a ww hrel;have other:(k e s').map (λ a=>Sum.inr (Sum.inr a))=some (Sum.inr w:VT (X:=X) hd.vars⊕(VT (X:=X) ab.vars⊕A))->∃ β' σ',Rel P w0 O0 N β' I σ' a ww/\sx σ'/\MX (gH (.loop b)) s k r e σ':=by
     intro hm;have⟨q,hq,hr⟩:=aeb hm;cases hr;cases h6;exact⟨β,_,hrel,hls.old,s',hls,hxs,rfl,hq⟩
    cases e with
    |exit j=>
     simp only at hk;split at hk
     ·rename_i hj;subst hj;have⟨w',i1,i2,i3,i4⟩:=lV hl hls hxs hk;injection i1 with i1;cases i1;have⟨β',hrel'⟩:=i4 P w0 O0 N β I a ww hrel;exact⟨β',_,hrel',i2.old,_,i2,i3,rfl,h6⟩
     ·exact other hk
    |normal=>exact(he rfl).elim
    |_=>exact other hk
   ·have other:(k e s').map (λ a=>Sum.inr (Sum.inr a))=some (Sum.inl v:VT (X:=X) hd.vars⊕(VT (X:=X) ab.vars⊕A))->False:=by
     intro hm;have⟨q,hq,hr⟩:=aeb hm;cases hr
    cases e with
    |exit j=>
     simp only at hk;split at hk
     ·have⟨w',i1⟩:=Xv hk;injection i1 with i1;cases i1
     ·exact other hk
    |normal=>exact he rfl
    |_=>exact other hk
  ·exact aiZ (body:=λh s k=>run Γ T ao N n b A h s k) (λ h s k r hl h1=>lu hT hm hΓ b A h s k r hl h1) hl hr
  ·cases hr
 | .rangeFunc ..,_,_,_,_,_,_,hr=>by cases hr
 | .scope _,_,_,_,_,_,_,hr=>by cases hr
 | .goto _,_,_,_,_,_,_,hr=>by cases hr
 | .refuse _,_,_,_,_,_,_,hr=>by cases hr
end
end
section
variable {X:SX}
def jJ:Nat->(l:List (AT X.ι))->jf X l->List (DV X)
 |_,[],_=>[]
 |n,.d c::l,a=> .c c a.1::jJ n l a.2
 |n,.ref c::l,a=> .rp c a.1 0::jJ n l a.2
 |n,.cV as r::l,a=> .cV as r a.1::jJ n l a.2
 |n,.mut _::l,a=> .own n 0 (List.length a.1)::jJ (n+1) l a.2
 |n,.fm _::l,a=> .ptr n 0 0::jJ (n+1) l a.2
 |n,.nil::l,a=> .nil::jJ n l a.2
def Dt:(l:List (AT X.ι))->jf X l->List (bu X)
 |[],_=>[]
 | .mut c::l,a=> .de c a.1::Dt l a.2
 | .fm c::l,a=> .cells (CT.sz X c) [vQ c a.1]::Dt l a.2
 | .d _::l,a=>Dt l a.2
 | .ref _::l,a=>Dt l a.2
 | .cV _ _::l,a=>Dt l a.2
 | .nil::l,a=>Dt l a.2
theorem tH:∀(n:Nat)(l:List (AT X.ι))(a:jf X l),bJ (jJ n l a)=dP n l a
 |_,[],_=>rfl
 |n,.d c::l,a=>by simp only[jJ,bJ,den,dP,tH n l a.2]
 |n,.ref c::l,a=>by simp only[jJ,bJ,den,dP,tH n l a.2]
 |n,.cV as r::l,a=>by simp only[jJ,bJ,dP,tH n l a.2]
 |n,.mut c::l,a=>by simp only[jJ,bJ,den,dP,tH (n+1) l a.2]
 |n,.fm c::l,a=>by simp only[jJ,bJ,den,dP,tH (n+1) l a.2]
 |n,.nil::l,a=>by simp only[jJ,bJ,den,dP,tH n l a.2]
theorem xu:∀(l:List (AT X.ι))(a:jf X l),(Dt l a).map bF=(qL l a).map ia
 |[],_=>rfl
 | .d _::l,a=>xu l a.2
 | .ref _::l,a=>xu l a.2
 | .cV _ _::l,a=>xu l a.2
 | .nil::l,a=>xu l a.2
 | .mut c::l,a=>by simp only[Dt,qL,aC,xu l a.2];rfl
 | .fm c::l,a=>by simp only[Dt,qL,aC,xu l a.2,bF,ia,sK,aL,map_nil,nR]
theorem pO:∀(n:Nat)(l:List (AT X.ι))(a:jf X l),∀k∈aS (jJ n l a),k<n+qN l
 |_,[],_,k,hk=>by simp[jJ,aS]at hk
 |n,.d c::l,a,k,hk=>by
  have:=pO n l a.2 k (by simpa[jJ,aS,bo]using hk);simpa[qN,AT.im]using this
 |n,.ref c::l,a,k,hk=>by
  have:=pO n l a.2 k (by simpa[jJ,aS,bo]using hk);simpa[qN,AT.im]using this
 |n,.cV as r::l,a,k,hk=>by
  have:=pO n l a.2 k (by simpa[jJ,aS,bo]using hk);simpa[qN,AT.im]using this
 |n,.nil::l,a,k,hk=>by
  have:=pO n l a.2 k (by simpa[jJ,aS,bo]using hk);simpa[qN,AT.im]using this
 |n,.mut c::l,a,k,hk=>by
  simp only[jJ,aS,bo,List.singleton_append,aM]at hk;simp only[qN,AT.im,if_true];rcases hk with rfl |hk
  ·omega
  ·have:=pO (n+1) l a.2 k hk;omega
 |n,.fm c::l,a,k,hk=>by
  simp only[jJ,aS,bo,List.singleton_append,aM]at hk;simp only[qN,AT.im,if_true];rcases hk with rfl |hk
  ·omega
  ·have:=pO (n+1) l a.2 k hk;omega
theorem lW:∀(n:Nat)(l:List (AT X.ι))(a:jf X l),(dP n l a).length=l.length
 |_,[],_=>rfl
 |n,.d c::l,a=>by simp only[dP,bE,lW n l a.2]
 |n,.ref c::l,a=>by simp only[dP,bE,lW n l a.2]
 |n,.cV as r::l,a=>by simp only[dP,bE,lW n l a.2]
 |n,.mut c::l,a=>by simp only[dP,bE,lW (n+1) l a.2]
 |n,.fm c::l,a=>by simp only[dP,bE,lW (n+1) l a.2]
 |n,.nil::l,a=>by simp only[dP,bE,lW n l a.2]
theorem lX:∀(l:List (AT X.ι))(a:jf X l),(qL l a).length=qN l
 |[],_=>rfl
 | .d _::l,a=>by simpa[qN,AT.im,qL]using lX l a.2
 | .ref _::l,a=>by simpa[qN,AT.im,qL]using lX l a.2
 | .cV _ _::l,a=>by simpa[qN,AT.im,qL]using lX l a.2
 | .nil::l,a=>by simpa[qN,AT.im,qL]using lX l a.2
 | .mut _::l,a=>by simp only[qL,bE,lX l a.2,qN,AT.im,if_true];omega
 | .fm _::l,a=>by simp only[qL,bE,lX l a.2,qN,AT.im,if_true];omega
def vj(l:List (AT X.ι))(a:jf X l):dc X:=⟨(List.range l.length).zip (jJ 0 l a),(List.range (Dt l a).length).zip ((Dt l a).map some),1000,[]⟩
theorem ah0(l:List (AT X.ι))(a:jf X l)(k:Nat):fY (vj l a).obj k=(Dt l a)[k]? :=by
 have h:(List.range (Dt l a).length).zip ((Dt l a).map some)=(List.range ((Dt l a).map some).length).zip ((Dt l a).map some):=by rw[length_map]
 simp only[vj,fY];rw[h,Dl,List.getElem?_map];cases (Dt l a)[k]?<;>rfl
theorem anp(l:List (AT X.ι))(a:jf X l):(vj l a).st=q6.st ⟨(List.range (Ak l a).length).zip (Ak l a),(List.range ((qL l a).map ia).length).zip ((qL l a).map ia)⟩:=by
 have ho:∀k,((fY (vj l a).obj k).map bF)=lk ((List.range ((qL l a).map ia).length).zip ((qL l a).map ia)) k:=by
  intro k;rw[Dl,ah0,<- xu,List.getElem?_map]
 simp only[dc.st,q6.st,St.mk.injEq,and_true];refine⟨?_,funext ho⟩;funext t;simp only[vj];rw[lW,Ak,<- tH];generalize jJ 0 l a=ds;have:∀(ks:List Nat)(ds:List (DV X)),den (eC (ks.zip ds) t)=(lk (ks.zip (bJ ds)) t).getD .undef:=by
  intro ks
  induction ks with
  |nil=>intro ds;rfl
  |cons k ks ih=>
   intro ds;cases ds with
   |nil=>rfl
   |cons d ds=>
    simp only[List.zip_cons_cons,eC,lk,bJ];by_cases h:k=t
    ·simp[h]
    ·simp only[aN h];exact ih ds
 exact this _ _
theorem al8(l:List (AT X.ι))(a:jf X l)(hm:qN l<=1000):Low (vj l a):=by
 refine⟨by show 1000<=1000000;decide,aQ _,λt k hk=>?_,λk o ho=>?_⟩
 ·have h0:=pO 0 l a;simp only[vj]at hk;generalize jJ 0 l a=ds at hk h0;have:∀(ks:List Nat)(ds:List (DV X)),(∀ k∈aS ds,k<0+qN l)->∀k∈bo (eC (ks.zip ds) t),k<1000:=by
   intro ks
   induction ks with
   |nil=>intro ds _ k hk;simp[eC,lk,bo]at hk
   |cons k ks ih=>
    intro ds h j hj;cases ds with
    |nil=>simp[eC,lk,bo]at hj
    |cons d ds=>
     simp only[List.zip_cons_cons,eC,lk]at hj;by_cases e:k=t
     ·simp only[aO e,Option.getD_some]at hj;have:=h j (by simp[aS,hj]);omega
     ·simp only[aN e]at hj;exact ih ds (λ k hk=>h k (by simp[aS,hk])) j hj
  exact this _ _ h0 k hk
 ·rw[ah0]at ho;have hl:(Dt l a).length=qN l:=by rw[<- lX l a];simpa using congrArg List.length (xu l a)
  refine⟨by have:=(cO.1 ho).1;show k<1000;omega,λj hj=>?_⟩;have hz:∀(l:List (AT X.ι))(a:jf X l),∀o∈Dt l a,d5 o=[]:=by
   intro l
   induction l with
   |nil=>intro a o ho;simp[Dt]at ho
   |cons q l ih=>
    intro a o ho;cases q<;>simp only[Dt,aM]at ho
    case «mut» c=>rcases ho with rfl |ho;rfl;exact ih _ o ho
    case fm c=>
     rcases ho with rfl |ho
     ·have h1:aS (vQ c a.1)=[]:=by
       rw[<- iy,nR];generalize CT.row X.toSE c a.1=r
       induction r with
       |nil=>rfl
       |cons y ys ih=>simp only[aC,eG,refs,ih,bO]
      simp[d5,h1]
     ·exact ih _ o ho
    all_goals exact ih _ o ho
  rw[hz l a o (cu ho)]at hj;cases hj
variable (T:dC)
def BC(s:dc X):ResultVar->Option (DV X)
 | .tmp t=>some (eC s.env t)
 | .cell a t=>(T t).bind λti=>match eC s.env a with
  | .ptr kk row aa=>(fY s.obj kk).bind λo=>match o with
   | .cells _ rows=>(rows[row]?).bind λr=>JX ti.agg ti.size ((r.drop aa).take ti.size)
   | .de b l=>(X.ar t).bind λa=>(gB (.sl b) (.sl a.c) l).bind λl=>if row=0/\aa=0/\ti.agg=true/\(X.cW a.i).length=ti.size/\2<=ti.size then(a.g (sub l 0 ti.size)).bind λy=>some (.c (.st a.i) y)else none
   |_=>none
  |_=>none
def TA(s:dc X):List ResultVar->Option (List (DV X))
 |[]=>some []
 |r::rs=>(BC T s r).bind λv=>(TA s rs).bind λvs=>some (v::vs)
theorem akw{s:dc X}{r:ResultVar}{d:DV X}(h:BC T s r=some d):Q5 T s.st r=some (den d):=by
 cases r with
 |tmp t=>simp only[BC,aA]at h;subst h;rfl
 |cell a t=>
  simp only[BC]at h;rw[ai]at h;obtain⟨ti,h1,h⟩:=h;split at h
  ·rename_i kk row aa hp;rw[ai]at h;obtain⟨o,h2,h⟩:=h;split at h
   ·rename_i sz rows;rw[ai]at h;obtain⟨q,h3,h⟩:=h;have h4:=EU h;rw[kC]at h4
    show(match Ll T t (den (eC s.env a)) (λ k=>(fY s.obj k).map bF)with
     |some ⟨v,[],[]⟩=>some v
     |_=>none)=some (den d)
    simp only[Ll,EP,h1,ah,hp,den,h2,Option.map_some,bF,List.getElem?_map,h3,h4,pv]
   ·rename_i b l0;rw[ai]at h;obtain⟨ar,h3,h⟩:=h;rw[ai]at h;obtain⟨l,h4,h⟩:=h;split at h
    ·rename_i hc;obtain⟨rfl,rfl,c1,c2,c3⟩:=hc;have⟨y,h5,h⟩:=ai.1 h;cases h;have ho:=(X.m7 t ar h3).1;have hk:(λ k=>(fY s.obj k).map bF) kk=some ⟨1,eF (l.map λx=>den (.c ar.c x:DV X))⟩:=by
      have h6:DA (fY s.obj) kk ar.c=some l:=(by unfold DA;rw[h2];exact h4);have⟨o,g1,g2⟩:=W9 ho h6;simp only[g1,Option.map_some,g2]
     have hA:=Xa (T:=T) (g:=λk=>(fY s.obj k).map bF) h1 h3 c1 c2 hk h5;have hN:EP T t (den (.ptr kk 0 0:DV X)) .none (λ k=>(fY s.obj k).map bF)=none:=by
      simp only[EP,h1,ah,den,hk];cases l with
      |nil=>rfl
      |cons z zs=>
       simp only[aC,eF,List.getElem?_cons_zero,ah,List.drop_zero];have:part' ti.agg ti.size (List.take ti.size [den (.c ar.c z:DV X)])=none:=by
        unfold part';rw[aN];simp only[List.length_take,bE,List.length_nil];omega
       show(part' ti.agg ti.size (List.take ti.size [den (.c ar.c z:DV X)])).bind pv=none;rw[this];rfl
     show(match Ll T t (den (eC s.env a)) (λ k=>(fY s.obj k).map bF)with
      |some ⟨v,[],[]⟩=>some v
      |_=>none)=some (den (.c (.st ar.i) y:DV X))
     rw[hp];simp only[Ll,hN,hA]
    ·cases h
   ·cases h
  ·cases h
def Xw{A:Type}(s:dc X):List ResultVar->(List (DV X)->Option A)->Option A
 |[],k=>k []
 | .tmp t::rs,k=>Xw s rs λvs=>k (eC s.env t::vs)
 | .cell a t::rs,k=>(T t).bind λti=>match eC s.env a with
  | .ptr kk row aa=>(fY s.obj kk).bind λo=>match o with
   | .cells _ rows=>(rows[row]?).bind λr=>(JX ti.agg ti.size ((r.drop aa).take ti.size)).bind λv=>Xw s rs λvs=>k (v::vs)
   | .de b l=>(X.ar t).bind λa=>(gB (.sl b) (.sl a.c) l).bind λl=>if row=0/\aa=0/\ti.agg=true/\(X.cW a.i).length=ti.size/\2<=ti.size then(a.g (sub l 0 ti.size)).bind λy=>Xw s rs λvs=>k (.c (.st a.i) y::vs)else none
   |_=>none
  |_=>none
theorem Fg{A:Type}{s:dc X}:∀{rs:List ResultVar}{k:List (DV X)->Option A}{r:A},Xw T s rs k=some r->∃ds,TA T s rs=some ds/\k ds=some r
 |[],k,r,h=>⟨[],rfl,h⟩
 | .tmp t::rs,k,r,h=>by
  have⟨ds,h1,h2⟩:=Fg (rs:=rs) h;exact⟨_,by simp only[TA,BC,h1,ah],h2⟩
 | .cell a t::rs,k,r,h=>by
  simp only[Xw]at h;rw[ai]at h;obtain⟨ti,h1,h⟩:=h;split at h
  ·rename_i kk row aa hp;rw[ai]at h;obtain⟨o,h2,h⟩:=h;split at h
   ·rw[ai]at h;obtain⟨q,h3,h⟩:=h;rw[ai]at h;obtain⟨v,h4,h⟩:=h;have⟨ds,h5,h6⟩:=Fg (rs:=rs) h;exact⟨_,by simp only[TA,BC,h1,hp,h2,h3,h4,h5,ah],h6⟩
   ·rw[ai]at h;obtain⟨ar,h3,h⟩:=h;rw[ai]at h;obtain⟨l,h4,h⟩:=h;split at h
    ·rename_i hc;have⟨y,h5,h⟩:=ai.1 h;have⟨ds,h6,h7⟩:=Fg (rs:=rs) h;exact⟨_,by simp only[TA,BC,h1,hp,h2,h3,h4,h5,h6,ah];rw[aO hc];rfl,h7⟩
    ·cases h
   ·cases h
  ·cases h
theorem Rp{s:dc X}:∀{rs:List ResultVar}{ds:List (DV X)},TA T s rs=some ds->nQ T s.st rs=some (bJ ds)
 |[],ds,h=>by simp only[TA,aA]at h;subst h;rfl
 |r::rs,ds,h=>by
  simp only[TA]at h;have⟨d,h1,h⟩:=ai.1 h;have⟨ds',h2,h⟩:=ai.1 h;cases h;simp only[nQ,akw T h1,Rp h2,ah,bJ]
def Rq:List (RT X.ι)->List (DV X)->Option Nat
 | .mu _::l,ds=>Rq l ds
 | .mr _::l,ds=>Rq l ds
 | .mv::l,ds=>Rq l ds
 | .fresh _::l,d::ds=>match d with
  | .own k _ _=>some k
  |_=>Rq l ds
 | .d _::l,_::ds=>Rq l ds
 | .whole _::l,_::ds=>Rq l ds
 |_,_=>none
def wg:List (RT X.ι)->List (DV X)->List (Nat×Nat)
 | .mu _::l,ds=>wg l ds
 | .mr _::l,ds=>wg l ds
 | .mv::l,ds=>wg l ds
 | .whole j::l,d::ds=>match d with
  | .own _ _ len=>(j,len)::wg l ds
  |_=>wg l ds
 | .d _::l,_::ds=>wg l ds
 | .fresh _::l,_::ds=>wg l ds
 |_,_=>[]
def xw:Nat->List (RT X.ι)->List Nat
 |_,[]=>[]
 |n,.mu _::l=>n::xw (n+1) l
 |n,.mr _::l=>n::xw (n+1) l
 |n,.mv::l=>xw (n+1) l
 |n,_::l=>xw n l
def rh:Nat->List (RT X.ι)->List Nat
 |_,[]=>[]
 |n,.mu _::l=>n::rh (n+1) l
 |n,.mr _::l=>rh (n+1) l
 |n,.mv::l=>rh (n+1) l
 |n,_::l=>rh n l
def HR(bad:List Nat)(ks:List Nat):Bool:=ks.all λk=>!bad.contains k
def Wa(get:Nat->Option (bu X))(row:List (DV X))(c:CT X.ι):Option (CT.T X.toSE c×List Bool):=
 match c with
 | .st i=>(yx get row (X.cW i)).bind λh=>some (X.make i h.1,h.2)
 |c=>match row with
  |[d]=>Tn get d c
  |_=>none
def Kb(get:Nat->Option (bu X))(c:CT X.ι):List (List (DV X))->Option (List (CT.T X.toSE c)×List Bool)
 |[]=>some ([],[])
 |r::rs=>(Wa get r c).bind λx=>(Kb get c rs).bind λy=>some (x.1::y.1,x.2++y.2)
def OY(get:Nat->Option (bu X))(bad qS:List Nat)(fk:Option Nat)(wl:List (Nat×Nat))(n:Nat):(q:RT X.ι)->List (DV X)->Option ((RT.T X q×List Bool)×List (DV X))
 | .d c,d::ds=>if HR bad (bo d)then(Iu get d c).bind λx=>some (x,ds)else none
 | .fresh e,d::ds=>match d with
  | .nil=>some (([],[]),ds)
  | .own k 0 len=>if fk=some k then(get k).bind λo=>match o with
   | .de b l=>(gB (.sl b) (.sl e) l).bind λ(l:List (CT.T X.toSE e))=>some ((sub l 0 len,[bm (sub l 0 len).length len]),ds)
   | .cells sz rows=>if sz=CT.sz X e/\HR bad (rows.map aS).flatten=true then(Kb get e rows).bind λx=>some ((x.1,bm len (List.length x.1)::x.2),ds)else none
   | .map _ _ _=>none
   else none
  |_=>none
 | .whole j,d::ds=>match d with
  | .own k 0 len=>if k=j/\qS.contains j=true then(lk wl j).bind λej=>some (((),[bm len ej]),ds)else none
  |_=>none
 | .mu c,ds=>(get n).bind λo=>match o with
  | .de b l=>(gB (.sl b) (.sl c) l).bind λ(l:List (CT.T X.toSE c))=>match lk wl n with
   |some len=>some ((sub l 0 len,[bm (sub l 0 len).length len]),ds)
   |none=>some ((l,[]),ds)
  |_=>none
 | .mr c,ds=>(get n).bind λo=>match o with
  | .cells sz [row]=>if sz=CT.sz X c/\HR bad (aS row)=true then(Wa get row c).bind λx=>some (x,ds)else none
  |_=>none
 | .mv,ds=>some (((),[]),ds)
 |_,[]=>none
def OZ(get:Nat->Option (bu X))(bad qS:List Nat)(fk:Option Nat)(wl:List (Nat×Nat)):Nat->(l:List (RT X.ι))->(ds:List (DV X))->Option (uh X l×List Bool)
 |_,[],ds=>match ds with
  |[]=>some ((),[])
  |_=>none
 |n,[q],ds=>(OY get bad qS fk wl n q ds).bind λp=>match p.2 with
  |[]=>some p.1
  |_=>none
 |n,q::q'::l,ds=>(OY get bad qS fk wl n q ds).bind λp=>(OZ get bad qS fk wl (if q.out then n+1 else n) (q'::l) p.2).bind λy=>some ((p.1.1,y.1),p.1.2++y.2)
def L3(s:dc X)(l:List (RT X.ι))(ds:List (DV X)):Option (uh X l×List Bool):=
 if HR (xw 0 l) (Rq l ds).toList then OZ (fY s.obj) (xw 0 l++(Rq l ds).toList) (rh 0 l) (Rq l ds) (wg l ds) 0 l ds else none
def an1(rs:List ResultVar)(l:List (RT X.ι)):Exit->dc X->Option (uh X l)
 | .normal,s=>Xw T s rs λds=>(L3 s l ds).bind λx=>WH x.2 (some x.1)
 | .ret,s=>Xw T s rs λds=>(L3 s l ds).bind λx=>WH x.2 (some x.1)
 |_,_=>none
def exit(A:Type)(k:dc X->Option A):Exit->dc X->Option A
 | .normal,s=>k s
 | .ret,s=>k s
 |_,_=>none
variable {T}
section
variable {get:Nat->Option (bu X)} {fk:Option Nat} {os':List (Option fe)} {bad:List Nat}
theorem GJ{ks:List Nat}(h:HR bad ks=true):∀j∈ks,j∉bad:=λj hj=>by simpa using all_eq_true.1 h j hj
theorem Rs(hbad:∀j,j∉bad->fk≠some j/\¬kept os' j){d:DV X}{c:CT X.ι}{x:CT.T X.toSE c×List Bool}(hc:c.one=true)(h:Tn get d c=some x)(hb:∀b∈x.2,b=true)(m4:∀j∈bo d,j∉bad):∃t,CT.tv X.toSE c x.1= .s t/\Q0 (fC get) fk os' (den d) t:=by
 obtain⟨t,h1,h2⟩:=row_one hc x.1;refine⟨t,h2,?_⟩;have hbase:∀y,Ma d c=some y->y=x.1->Q0 (fC get) fk os' (den d) t:=by
  intro y hy he;subst he;have h3:=wY hy;rw[h2]at h3;have h4:=Wf hc hy;unfold Ma at hy;split at hy
  ·rw[(iT hy).1];simp only[den,h2,TV.av,Q0]
  ·simp only[den,Gb.wk,TV.av,AV.t.injEq]at h3;simp only[den,Q0];exact h3.symm
  ·simp only[den,Gb.wk,TV.av,AV.t.injEq]at h3;simp only[den,Q0];exact h3.symm
  ·cases hy
 unfold Tn at h;split at h
 ·rename_i kk aa len e;rw[ai]at h;obtain⟨o,h3,h⟩:=h;split at h
  ·rename_i b l0;rw[ai]at h;obtain⟨l,h4,h⟩:=h;cases h;have h5:(sub l aa len).length=len:=(by simpa[bm]using hb (bm (sub l aa len).length len) (by simp));have⟨h6,h7⟩:=jm h4;obtain⟨hf1,hf2⟩:=hbad kk (m4 kk (by simp[bo]));simp only[den,Q0];refine⟨hf1,hf2,bF (.de b l0),(sub l aa len).map (CT.row X.toSE e),by simp[fC,h3],?_,by simpa using h5,?_⟩
   ·simp only[bF,h7];simp[aL,sub,map_take,map_drop]
   ·simpa[CT.row]using h1.symm
  ·cases h
 ·rename_i kk aa len;rw[ai]at h;obtain⟨o,h3,h⟩:=h;split at h
  ·rename_i b l0;cases h;have h5:(sub l0 aa len).length=len:=(by simpa[bm]using hb (bm (sub l0 aa len).length len) (by simp));obtain⟨hf1,hf2⟩:=hbad kk (m4 kk (by simp[bo]));simp only[den,Q0];refine⟨hf1,hf2,bF (.de b l0),(sub l0 aa len).map (CT.row X.toSE b),by simp[fC,h3],?_,by simpa using h5,?_⟩
   ·simp only[bF];simp[aL,sub,map_take,map_drop]
   ·simpa[CT.row]using h1.symm
  ·cases h
 ·rename_i kk len e;rw[ai]at h;obtain⟨o,h3,h⟩:=h;split at h
  ·rename_i b l0;have⟨l,h4,h⟩:=ai.1 h;cases h;have h5:(sub l 0 len).length=len:=(by simpa[bm]using hb (bm (sub l 0 len).length len) (by simp));have⟨h6,h7⟩:=jm h4;obtain⟨hf1,hf2⟩:=hbad kk (m4 kk (by simp[bo]));simp only[den,Q0];refine⟨hf1,hf2,bF (.de b l0),(sub l 0 len).map (CT.row X.toSE e),by simp[fC,h3],?_,by simpa using h5,?_⟩
   ·simp only[bF,h7];simp[aL,sub,map_take,map_drop]
   ·simpa[CT.row]using h1.symm
  ·cases h
 ·have⟨y,h3,h⟩:=ai.1 h;injection h with h;exact hbase y h3 (by rw[<- h])
theorem Nj(hbad:∀j,j∉bad->fk≠some j/\¬kept os' j):∀{ds:List (DV X)}{l:List (CT X.ι)}{h:HL X.toSE l×List Bool},yx get ds l=some h->(∀ b∈h.2,b=true)->l.all CT.one=true->(∀ j∈aS ds,j∉bad)->lh (fC get) fk os' (bJ ds) (HL.row X.toSE l h.1)
 |[],[],h,_,_,_,_=>trivial
 |d::ds,c::l,h,hr,hb,ha,m4=>by
  simp only[yx]at hr;have⟨x,h1,hr⟩:=ai.1 hr;have⟨g,h2,hr⟩:=ai.1 hr;cases hr;simp only[all_cons,aJ]at ha;obtain⟨t,i1,i2⟩:=Rs hbad ha.1 h1 (λ b hb'=>hb b (by simp[hb'])) (λ j hj=>m4 j (by simp[aS,hj]));have i3:=Nj hbad h2 (λ b hb'=>hb b (by simp[hb'])) ha.2 (λ j hj=>m4 j (by simp[aS,hj]));obtain⟨t',j1,j2⟩:=row_one ha.1 x.1;rw[i1]at j2;cases j2;show lh (fC get) fk os' (den d::bJ ds) (CT.row X.toSE c x.1++HL.row X.toSE l g.1);rw[j1];exact⟨i2,i3⟩
 |[],_::_,_,hr,_,_,_=>by simp[yx]at hr
 |_::_,[],_,hr,_,_,_=>by simp[yx]at hr
theorem TB(hbad:∀j,j∉bad->fk≠some j/\¬kept os' j){row:List (DV X)}{c:CT X.ι}{x:CT.T X.toSE c×List Bool}(h:Wa get row c=some x)(hb:∀b∈x.2,b=true)(m4:∀j∈aS row,j∉bad):lh (fC get) fk os' (bJ row) (CT.row X.toSE c x.1):=by
 cases c
 case st i=>
  replace h:(yx get row (X.cW i)).bind (λ h=>some (X.make i h.1,h.2))=some x:=h
  have⟨g,h1,h⟩:=ai.1 h;cases h;have:=Nj hbad h1 hb (X.flat i) m4;show lh (fC get) fk os' (bJ row) (X.row i (X.make i g.1));rw[X.gh];exact this
 all_goals
  match row,h,m4 with
  |[d],h,m4=>
   obtain⟨t,i1,i2⟩:=Rs (fk:=fk) hbad rfl h hb (λ j hj=>m4 j (by simp[aS,hj]));obtain⟨t',j1,j2⟩:=row_one rfl x.1;rw[i1]at j2;cases j2;rw[j1];exact⟨i2,trivial⟩
  |[],h,_=>cases h
  |_::_::_,h,_=>cases h
theorem O1(hbad:∀j,j∉bad->fk≠some j/\¬kept os' j){c:CT X.ι}:∀{rows:List (List (DV X))}{x:List (CT.T X.toSE c)×List Bool},Kb get c rows=some x->(∀ b∈x.2,b=true)->(∀ j∈(rows.map aS).flatten,j∉bad)->en (fC get) fk os' (rows.map bJ) (x.1.map (CT.row X.toSE c))/\rows.length=List.length x.1
 |[],x,h,_,_=>by simp only[Kb,aA]at h;subst h;exact⟨trivial,rfl⟩
 |r::rs,x,h,hb,m4=>by
  simp only[Kb]at h;have⟨y,h1,h⟩:=ai.1 h;have⟨z,h2,h⟩:=ai.1 h;cases h;have i1:=TB hbad h1 (λ b hb'=>hb b (by simp[hb'])) (λ j hj=>m4 j (by simp[hj]));obtain⟨i2,i3⟩:=O1 hbad h2 (λ b hb'=>hb b (by simp[hb'])) (λ j hj=>m4 j (by simp only[aC,flatten_cons,aW];exact .inr hj));exact⟨⟨i1,i2⟩,by simp[i3]⟩
theorem akx{x:AV}{t:Tree}(h:Q0 (fC get) fk os' x t):C6 (fC get) fk os' x (.d (.s t)):=by cases x<;>first |exact h |exact h.elim
theorem GK(sz:CT X.ι)(l:List (CT.T X.toSE sz)):en (fC get) fk os' (aL (l.map (CT.row X.toSE sz))) (l.map (CT.row X.toSE sz)):=by
 generalize l.map (CT.row X.toSE sz)=rows
 induction rows with
 |nil=>trivial
 |cons r rs ih=>
  refine⟨?_,ih⟩;show lh (fC get) fk os' (r.map AV.t) r
  induction r with
  |nil=>trivial
  |cons y ys ih2=>exact⟨rfl,ih2⟩
theorem aky(hbad:∀j,j∉bad->fk≠some j/\¬kept os' j){c:CT X.ι}{d:DV X}{x:CT.T X.toSE c×List Bool}(h:Iu get d c=some x)(m4:∀j∈bo d,j∉bad)(hb:∀b∈x.2,b=true):C6 (fC get) fk os' (den d) (.d (CT.tv X.toSE c x.1)):=by
 cases c
 case st i=>
  replace h:D3 get d i=some x:=h
  cases d
  case agg cs=>
   simp only[D3]at h;have⟨g,h1,h⟩:=ai.1 h;cases h;have:=Nj (fk:=fk) hbad h1 hb (X.flat i) (by simpa[bo]using m4);show lh (fC get) fk os' (bJ cs) (X.row i (X.make i g.1));rw[X.gh];exact this
  case c a y=>
   simp only[D3]at h;have⟨z,h1,h⟩:=ai.1 h;cases h;rw[(iT h1).1];show lh (fC get) fk os' ((X.row i z).map AV.t) (X.row i z);generalize X.row i z=l
   induction l with
   |nil=>trivial
   |cons y ys ih=>exact⟨rfl,ih⟩
  all_goals cases h
 all_goals
  have⟨t,i1,i2⟩:=Rs (fk:=fk) hbad rfl h hb m4;rw[i1];exact akx i2
theorem Xx{qS:List Nat}{wl:List (Nat×Nat)}{ns:List Nat}{n:Nat}(hbad:∀j,j∉bad->fk≠some j/\¬kept os' j)(qk:∀k,fk=some k->¬kept os' k)(hns:∀j ej,j∈qS->lk wl j=some ej->ns.getD j 0=ej)(hmu:∀j∈qS,kept os' j){q:RT X.ι}{ds:List (DV X)}{p:(RT.T X q×List Bool)×List (DV X)}(h:OY get bad qS fk wl n q ds=some p)(hb:∀b∈p.1.2,b=true):
 (∀ cs,m8 (fC get) fk os' (bJ p.2) cs->m8 (fC get) fk os' (bJ ds) (WV ns q p.1.1++cs))/\
 (∀ t,qM q p.1.1=[some t]->∃o,get n=some o/\(bF o).sz=t.1/\en (fC get) fk os' ((bF o).rows.take t.2.length) t.2)/\
 (∀ ej c,q= .mu c->lk wl n=some ej->ZA q p.1.1=[ej]):=by
 cases q
 case d c=>
  cases ds with
  |nil=>simp[OY]at h
  |cons d ds=>
   simp only[OY]at h;split at h
   ·rename_i hnb;rw[ai]at h;obtain⟨x,h1,h⟩:=h;cases h;exact⟨λ cs hcs=>⟨aky hbad h1 (GJ hnb) hb,hcs⟩,λt ht=>by simp[qM]at ht,λ_ _ h=>by cases h⟩
   ·cases h
 case fresh e=>
  cases ds with
  |nil=>simp[OY]at h
  |cons d ds=>
   refine⟨λ cs hcs=>?_,λt ht=>by simp[qM]at ht,λ_ _ h=>by cases h⟩;simp only[OY]at h;split at h
   ·cases h;exact⟨rfl,hcs⟩
   ·rename_i k len;split at h
    ·rename_i m4;rw[ai]at h;obtain⟨o,h1,h⟩:=h;split at h
     ·rename_i b l0;rw[ai]at h;obtain⟨l,h2,h⟩:=h;cases h;have⟨h3,h4⟩:=jm h2;have h5:(sub l 0 len).length=len:=(by simpa[bm]using hb (bm (sub l 0 len).length len) (by simp));refine⟨⟨m4,qk k m4,rfl,bF (.de b l0),by simp[fC,h1],by simp only[bF];exact h3,?_,by simpa using h5⟩,hcs⟩;have e1:(bF (.de b l0)).rows.take len=aL ((sub l 0 len).map (CT.row X.toSE e)):=by
       simp only[bF,h4];simp[aL,sub,map_take]
      rw[e1];exact GK e _
     ·rename_i sz rows;split at h
      ·rename_i hc;rw[ai]at h;obtain⟨x,h2,h⟩:=h;cases h;obtain⟨i1,i2⟩:=O1 (fk:=fk) hbad h2 (λ b hb'=>hb b (by simp[hb'])) (GJ hc.2);have h5:len=List.length x.1:=(by simpa[bm]using hb (bm len (List.length x.1)) (by simp));refine⟨⟨m4,qk k m4,rfl,bF (.cells sz rows),by simp[fC,h1],hc.1,?_,by simpa using h5.symm⟩,hcs⟩;simp only[bF];rw[List.take_of_length_le (by simp;omega)];exact i1
      ·cases h
     ·cases h
    ·cases h
   ·cases h
 case whole j=>
  cases ds with
  |nil=>simp[OY]at h
  |cons d ds=>
   refine⟨λ cs hcs=>?_,λt ht=>by simp[qM]at ht,λ_ _ h=>by cases h⟩;simp only[OY]at h;split at h
   ·rename_i k len;split at h
    ·rename_i hc;obtain⟨rfl,hm⟩:=hc;rw[ai]at h;obtain⟨ej,h1,h⟩:=h;cases h;have h5:len=ej:=(by simpa[bm]using hb (bm len ej) (by simp));have hm:k∈qS:=(by simpa using hm);refine⟨⟨rfl,rfl,?_,hmu k hm⟩,hcs⟩;rw[h5];exact hns k ej hm h1
    ·cases h
   ·cases h
 case mu c=>
  simp only[OY]at h;rw[ai]at h;obtain⟨o,h1,h⟩:=h;split at h
  ·rename_i b l0;rw[ai]at h;obtain⟨l,h2,h⟩:=h;have⟨h3,h4⟩:=jm h2;split at h
   ·rename_i len hl;cases h;have h5:(sub l 0 len).length=len:=(by simpa[bm]using hb (bm (sub l 0 len).length len) (by simp));refine⟨λ cs hcs=>hcs,λt ht=>?_,λej c' _ hl'=>?_⟩
    ·simp only[qM,List.cons.injEq,aA,and_true]at ht;subst ht;refine⟨_,h1,by simp only[bF,sK];exact h3,?_⟩;have e1:(bF (.de b l0)).rows.take (sK c (sub l 0 len)).2.length=aL (sK c (sub l 0 len)).2:=by
      simp only[bF,h4,sK,length_map,h5];simp[aL,sub,map_take]
     rw[e1];exact GK c _
    ·rw[hl]at hl';injection hl' with hl';subst hl';simp only[ZA,h5]
   ·rename_i hl;cases h;refine⟨λ cs hcs=>hcs,λt ht=>?_,λej c' _ hl'=>by rw[hl]at hl';cases hl'⟩;simp only[qM,List.cons.injEq,aA,and_true]at ht;subst ht;refine⟨_,h1,by simp only[bF,sK];exact h3,?_⟩;have e1:(bF (.de b l0)).rows.take (sK c l).2.length=aL (sK c l).2:=by
     simp only[bF,h4,sK];rw[List.take_of_length_le (by simp[aL])]
    rw[e1];exact GK c _
  ·cases h
 case mr c=>
  simp only[OY]at h;rw[ai]at h;obtain⟨o,h1,h⟩:=h;split at h
  ·rename_i sz row;split at h
   ·rename_i hc;have⟨x,h2,h⟩:=ai.1 h;cases h;refine⟨λ cs hcs=>hcs,λt ht=>?_,λ_ _ h=>by cases h⟩;simp only[qM,List.cons.injEq,aA,and_true]at ht;subst ht;refine⟨_,h1,by simp only[bF,sK];exact hc.1,?_⟩;exact⟨TB hbad h2 hb (GJ hc.2),trivial⟩
   ·cases h
  ·cases h
 case mv=>
  simp only[OY,aA]at h;subst h;exact⟨λ cs hcs=>hcs,λt ht=>by simp[qM]at ht,λ_ _ h=>by cases h⟩
theorem Kc{q:RT X.ι}{x:RT.T X q}:(qM q x).length=(if q.out then 1 else 0)/\(ZA q x).length=(if q.out then 1 else 0):=by cases q<;>exact⟨rfl,rfl⟩
theorem Ke{n j:Nat}{q:RT X.ι}{l:List (RT X.ι)}:j∈rh n (q::l)->(j=n/\∃c,q= .mu c)\/j∈rh (if q.out then n+1 else n) l:=by
 cases q<;>simp only[rh,RT.out,if_true,Bool.false_eq_true,if_false,aM]
 case mu c=>exact λh=>h.imp (λ h=>⟨h,c,rfl⟩) id
 all_goals exact .inr
theorem T2{j:Nat}:∀{l:List (RT X.ι)}{n:Nat},j∈rh n l->n<=j
 |[],n,h=>by simp[rh]at h
 |q::l,n,h=>by
  rcases Ke h with ⟨rfl,_⟩ |h
  ·exact aQ _
  ·have:=T2 h;split at this<;>omega
theorem aed:∀{l:List (RT X.ι)}{x:uh X l}{n j:Nat},j∈rh n l->∃p,(ow l x)[j -n]? =some (some p)
 |[],x,n,j,h=>by simp[rh]at h
 |[q],x,n,j,h=>by
  rcases Ke h with ⟨rfl,c,rfl⟩ |h
  ·exact⟨_,by simp only[Nat.sub_self];rfl⟩
  ·simp[rh]at h
 |q::q'::l,x,n,j,h=>by
  rcases Ke h with ⟨rfl,c,rfl⟩ |h
  ·exact⟨_,by simp only[Nat.sub_self];rfl⟩
  ·have⟨p,hp⟩:=aed (l:=q'::l) (x:=x.2) h;have hge:=T2 h;refine⟨p,?_⟩;show(qM q x.1++ow (q'::l) x.2)[j -n]? =_;have hl:=(Kc (q:=q) (x:=x.1)).1;split at hl
   ·rename_i e;rw[aO e]at hp hge;rw[iJ (by omega),hl,show j -n -1=j -(n+1)by omega];exact hp
   ·rename_i e;rw[aN e]at hp hge;rw[iJ (by omega),hl,Nat.sub_zero];exact hp
theorem Fh:∀{l:List (RT X.ι)}{x:uh X l}{n j:Nat}{p:fe},(ow l x)[j]? =some (some p)->n+j∈xw n l
 |[],x,n,j,p,h=>by simp[ow]at h
 |[q],x,n,j,p,h=>by
  have h:(qM q x)[j]? =some (some p):=h;cases q<;>simp only[qM,List.getElem?_nil,reduceCtorEq]at h
  case mu c=>cases j<;>simp at h<;>simp[xw]
  case mr c=>cases j<;>simp at h<;>simp[xw]
  case mv=>cases j<;>simp at h
 |q::q'::l,x,n,j,p,h=>by
  have h:(qM q x.1++ow (q'::l) x.2)[j]? =some (some p):=h;cases q
  case mu c=>
   cases j with
   |zero=>simp[xw]
   |succ j=>
    have:=Fh (l:=q'::l) (x:=x.2) (n:=n+1) (by simpa[qM]using h);simp only[xw,aM];right;rw[show n+(j+1)=n+1+j by omega];exact this
  case mr c=>
   cases j with
   |zero=>simp[xw]
   |succ j=>
    have:=Fh (l:=q'::l) (x:=x.2) (n:=n+1) (by simpa[qM]using h);simp only[xw,aM];right;rw[show n+(j+1)=n+1+j by omega];exact this
  case mv=>
   cases j with
   |zero=>simp[qM]at h
   |succ j=>
    have:=Fh (l:=q'::l) (x:=x.2) (n:=n+1) (by simpa[qM]using h);simp only[xw];rw[show n+(j+1)=n+1+j by omega];exact this
  all_goals
   simp only[xw];exact Fh (l:=q'::l) (x:=x.2) (by simpa[qM]using h)
theorem aee{qS:List Nat}{wl:List (Nat×Nat)}{n:Nat}{q:RT X.ι}{ds:List (DV X)}{p:(RT.T X q×List Bool)×List (DV X)}(h:OY get bad qS fk wl n q ds=some p)(hb:∀b∈p.1.2,b=true):∀ej c,q= .mu c->lk wl n=some ej->ZA q p.1.1=[ej]:=by
 rintro ej c rfl hl;simp only[OY]at h;rw[ai]at h;obtain⟨o,h1,h⟩:=h;split at h
 ·rename_i b l0;have⟨l,h2,h⟩:=ai.1 h;rw[hl]at h;cases h;have h5:(sub l 0 ej).length=ej:=by simpa[bm]using hb (bm (sub l 0 ej).length ej) (by simp)
  simp only[ZA,h5]
 ·cases h
theorem Nk{qS:List Nat}{wl:List (Nat×Nat)}:∀{n:Nat}{l:List (RT X.ι)}{ds:List (DV X)}{x:uh X l×List Bool},OZ get bad qS fk wl n l ds=some x->(∀ b∈x.2,b=true)->∀j ej,n+j∈rh n l->lk wl (n+j)=some ej->(wd l x.1).getD j 0=ej
 |n,[],ds,x,h,hb,j,ej,hm,_=>by simp[rh]at hm
 |n,[q],ds,x,h,hb,j,ej,hm,hl=>by
  simp only[OZ]at h;have⟨p,h1,h⟩:=ai.1 h;split at h
  ·cases h;rcases Ke hm with ⟨e,c,rfl⟩ |hm
   ·have e:j=0:=(by omega);subst e;have:=(aee h1 hb) ej c rfl hl;show(ZA _ p.1.1).getD 0 0=ej;rw[this];rfl
   ·simp[rh]at hm
  ·cases h
 |n,q::q'::l,ds,x,h,hb,j,ej,hm,hl=>by
  simp only[OZ]at h;have⟨p,h1,h⟩:=ai.1 h;have⟨y,h2,h⟩:=ai.1 h;cases h;have hlen:=(Kc (q:=q) (x:=p.1.1)).2;rcases Ke hm with ⟨e,c,rfl⟩ |hm
  ·have e:j=0:=(by omega);subst e;have:=(aee h1 (λ b hb'=>hb b (by simp[hb']))) ej c rfl hl;show(ZA _ p.1.1++wd (q'::l) y.1).getD 0 0=ej;rw[this];rfl
  ·have hge:=T2 hm;show(ZA _ p.1.1++wd (q'::l) y.1).getD j 0=ej;by_cases hq:q.out=true
   ·rw[aO hq]at h2 hm hge hlen;have:=Nk h2 (λ b hb'=>hb b (by simp[hb'])) (j -1) ej (by rw[show n+1+(j -1)=n+j by omega];exact hm) (by rw[show n+1+(j -1)=n+j by omega];exact hl);rw[List.getD_eq_getElem?_getD,iJ (by omega),hlen,<- List.getD_eq_getElem?_getD];exact this
   ·rw[aN hq]at h2 hm hge hlen;have:=Nk h2 (λ b hb'=>hb b (by simp[hb'])) j ej hm hl;rw[List.getD_eq_getElem?_getD,iJ (by omega),hlen,Nat.sub_zero,<- List.getD_eq_getElem?_getD];exact this
theorem aaZ{qS:List Nat}{wl:List (Nat×Nat)}{ns:List Nat}(hbad:∀j,j∉bad->fk≠some j/\¬kept os' j)(qk:∀k,fk=some k->¬kept os' k)(hns:∀j ej,j∈qS->lk wl j=some ej->ns.getD j 0=ej)(hmu:∀j∈qS,kept os' j):∀{n:Nat}{l:List (RT X.ι)}{ds:List (DV X)}{x:uh X l×List Bool},OZ get bad qS fk wl n l ds=some x->(∀ b∈x.2,b=true)->
 m8 (fC get) fk os' (bJ ds) (Dq ns l x.1)/\∀j t,(ow l x.1)[j]? =some (some t)->∃o,get (n+j)=some o/\(bF o).sz=t.1/\en (fC get) fk os' ((bF o).rows.take t.2.length) t.2
 |n,[],ds,x,h,_=>by
  simp only[OZ]at h;split at h
  ·exact⟨trivial,λj t ht=>by simp[ow]at ht⟩
  ·cases h
 |n,[q],ds,x,h,hb=>by
  simp only[OZ]at h;rw[ai]at h;obtain⟨p,h1,h⟩:=h;split at h
  ·rename_i hp;cases h;have⟨i1,i2,_⟩:=Xx (ns:=ns) hbad qk hns hmu h1 hb;rw[hp]at i1;have:=i1 [] trivial;rw[append_nil]at this;refine⟨this,λj t ht=>?_⟩;have ht:(qM q p.1.1)[j]? =some (some t):=ht;have hl:=(Kc (q:=q) (x:=p.1.1)).1;have hj:=(cO.1 ht).1;have hj0:j=0:=(by split at hl<;>omega);subst hj0;refine i2 t ?_
   match ho:qM q p.1.1,ht,hl with
   |[z],ht,_=>simpa using ht
   |[],ht,_=>simp at ht
   |_::_::_,_,hl=>simp only[bE]at hl;split at hl<;>omega
  ·cases h
 |n,q::q'::l,ds,x,h,hb=>by
  simp only[OZ]at h;have⟨p,h1,h⟩:=ai.1 h;have⟨y,h2,h⟩:=ai.1 h;cases h;obtain⟨i1,i2,_⟩:=Xx (ns:=ns) hbad qk hns hmu h1 (λ b hb'=>hb b (by simp[hb']));obtain⟨k1,k2⟩:=aaZ (ns:=ns) hbad qk hns hmu h2 (λ b hb'=>hb b (by simp[hb']));refine⟨i1 _ k1,λj t ht=>?_⟩;have ht:(qM q p.1.1++ow (q'::l) y.1)[j]? =some (some t):=ht;have hl:=(Kc (q:=q) (x:=p.1.1)).1;by_cases hq:q.out=true
  ·rw[aO hq]at k2 hl;cases j with
   |zero=>
    refine i2 t ?_
    match ho:qM q p.1.1,ht,hl with
    |[z],ht,_=>simpa using ht
    |[],_,hl=>simp at hl
    |_::_::_,_,hl=>simp at hl
   |succ j=>
    rw[iJ (by omega),hl,Nat.add_sub_cancel]at ht;rw[show n+(j+1)=n+1+j by omega];exact k2 j t ht
  ·rw[aN hq]at k2 hl;rw[iJ (by omega),hl,Nat.sub_zero]at ht;exact k2 j t ht
end
theorem m8.R{get:Nat->Option aU}{fk:Option Nat}{os':List (Option fe)}:∀{xs:List AV}{cs:List RC},m8 get fk os' xs cs->C5 get fk os' xs (match cs with |[c]=> .one c |cs=> .fh cs)
 |[],[],_=>rfl
 |[_],[_],h=>h.1
 |_::_::_,_::_::_,h=>h
 |[],_::_,h=>h.elim
 |_::_,[],h=>h.elim
 |[_],_::_::_,h=>h.2.elim
 |_::_::_,[_],h=>h.2.elim
theorem akz{s:dc X}{rs:List ResultVar}{l:List (RT X.ι)}{r:uh X l}(h:(Xw T s rs λds=>(L3 s l ds).bind λx=>WH x.2 (some x.1))=some r):∃xs fk,nQ T s.st rs=some xs/\C5 s.st.obj fk (ow l r) xs (um l r)/\I3 s.st.obj fk (ow l r):=by
 have⟨ds,h1,h⟩:=Fg T h;rw[ai]at h;obtain⟨x,h2,h⟩:=h;have⟨h3,h⟩:=qc h;cases h;unfold L3 at h2;split at h2
 ·rename_i hnb;have hkn:∀j,kept (ow l x.1) j->j∈xw 0 l:=λj ⟨p,hp⟩=>by
   have:=Fh (n:=0) hp;simpa using this
  have hbad:∀j,j∉xw 0 l++(Rq l ds).toList->Rq l ds≠some j/\¬kept (ow l x.1) j:=by
   intro j hj;simp only[aW,Option.mem_toList,not_or]at hj;exact⟨hj.2,λh=>hj.1 (hkn j h)⟩
  have qk:∀k,Rq l ds=some k->¬kept (ow l x.1) k:=λk hk hkk=>GJ hnb k (by simp[hk]) (hkn k hkk);have hmu:∀j∈rh 0 l,kept (ow l x.1) j:=λj hj=>by
   have⟨p,hp⟩:=aed (x:=x.1) hj;exact⟨p,by simpa using hp⟩
  obtain⟨i1,i2⟩:=aaZ (ns:=wd l x.1) hbad qk (λ j ej hj hl=>Nk h2 h3 j ej (by simpa using hj) (by simpa using hl)) hmu h2 h3;have jp:s.st.obj=fC (fY s.obj):=rfl;refine⟨bJ ds,Rq l ds,Rp T h1,?_,λj p hp=>?_⟩
  ·rw[jp];exact i1.R
  ·have⟨o,g1,g2,g3⟩:=i2 j p hp;rw[Nat.zero_add]at g1;exact⟨λ e=>qk j e ⟨p,hp⟩,bF o,by rw[jp];simp[fC,g1],g2,by rw[jp];exact g3⟩
 ·cases h2
variable {Γ:FuncId->Option (b9 X)} {ao:TypeId->Option (CT X.ι)} {P:Program}
theorem an2(hT : eZ P T)(hm : P.follows .mixedOrders = true)(hΓ : rI P Γ){f : FuncId}{fn : Func}{c : Code}(hfn : P.funcs[f]? = some fn)(hb : fn.body = some c)(hname : (fn.name == "runtime.NumGoroutine") = false)(sa : List (AT X.ι))(sr : List (RT X.ι))(hN : sa.length <= fn.ntmps /\ qN sa <= 1000 /\ (sr.filter RT.out).length = qN sa)
 (h:Hn X.ι) (n:Nat) {a:jf X sa} {r:uh X sr} (hr:run Γ T ao fn.ntmps n c (uh X sr) h (vj sa a) (an1 T fn.results.toList sr)=some r):rK P f (Ak sa a) (qL sa a) (ow sr r) (um sr r):=by
 have hl:(ow sr r).length=(qL sa a).length:=by
  rw[lX,<- hN.2.2];have:∀(sr:List (RT X.ι))(r:uh X sr),(ow sr r).length=(sr.filter RT.out).length:=by
   intro sr
   induction sr with
   |nil=>intro r;rfl
   |cons q l ih=>
    intro r;have hq:∀x:RT.T X q,(qM q x).length=(if q.out then 1 else 0):=λx=>Kc.1;cases l with
    |nil=>
     show(qM q r).length=_;rw[hq];by_cases e:q.out=true<;>simp[e]
    |cons q' l=>
     show(qM q r.1++ow (q'::l) r.2).length=_;rw[dH,hq,ih r.2];by_cases e:q.out=true<;>simp[List.filter_cons,e];omega
  exact this sr r
 refine aix hT hfn hb hname (by rw[lW];exact hN.1) (λ k hk=>?_) (by rw[lX];exact hN.2.1) hl ?_
 ·rw[Ak,<- tH,iy]at hk;have:=pO 0 sa a k hk;have:=hN.2.1;omega
 ·rw[<- anp];refine(lu hT hm hΓ c _ h _ _ r (al8 sa a hN.2.1) hr).mono ?_;rintro e σ ⟨s',_,_,rfl,g4⟩;cases e<;>first |exact akz g4 |cases g4
theorem nL{f : FuncId}{fn : Func}{c : Code}(hfn : P.funcs[f]? = some fn)(hb : fn.body = some c)(hname : (fn.name == "runtime.NumGoroutine") = false): iM P f := ⟨fn, hfn, by rw [hb]; rfl, hname⟩
abbrev CC(P:Program)(f:FuncId)(s:b9 X):Prop:=iM P f/\(∀ a r,s.fn a=some r->rK P f (Ak s.args a) (qL s.args a) (ow s.res r) (um s.res r))/\∀g,s.gen=some g->HJ P f g
theorem xi{P:Program}{f:FuncId}{s:b9 X}(h:iM P f)(h1:∀a r,s.fn a=some r->rK P f (Ak s.args a) (qL s.args a) (ow s.res r) (um s.res r))(hg:s.gen=none):CC P f s:=⟨h,h1,λg e=>by rw[hg]at e;cases e⟩
theorem SD{P:Program}{f:FuncId}{g:cT X}(h:iM P f)(hg:HJ P f g):CC P f ⟨[],[.d .bool],λ_=>none,some g⟩:=⟨h,λ_ _ e=>(by cases e),λ_ e=>(by cases e;exact hg)⟩
def oE(s t:b9 X):b9 X:=⟨s.args,s.res,s.fn,t.gen⟩
def vq(l:List (FuncId×b9 X)):FuncId->Option (b9 X):=λf=>lk l f
theorem aB:rI P (vq ([]:List (FuncId×b9 X))):=λ_ _ h=>by cases h
theorem au{f:FuncId}{s:b9 X}{l:List (FuncId×b9 X)}(h:CC P f s)(hl:rI P (vq l)):rI P (vq ((f,s)::l)):=by
 intro g q hg;simp only[vq,lk]at hg;split at hg
 ·rename_i e;cases hg;subst e;exact h
 ·exact hl g q hg
end
end Go.Gb
