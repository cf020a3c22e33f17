import Derived.Test.YtbdekfpclohfnaaGreatW3
open List (mem_map all_eq_true cons_append length_map append_nil map_map map_congr_left flatten_cons map_nil all_cons map_take map_drop map_append mem_append_right)
namespace Go.Gb
open Go.RowKit
section
variable {X:SX} {A:Type}
theorem PJ:∀(l:List (CT X.ι))(v:VT (X:=X) l),(yj l v).map (·.c)=l
 |[],_=>rfl
 |[_],_=>rfl
 |c::c'::l,v=>by simp only[yj,aF,PJ (c'::l) v.2]
theorem Tg:∀{l:List Tree},(∀ t∈l,t.flat)->pU (l.map AV.t)
 |[],_=>trivial
 |t::l,h=>⟨h t (by simp),Tg (λ u hu=>h u (by simp[hu]))⟩
theorem adr{c:CT X.ι}(h:zZ c=true)(x:CT.T X.toSE c):wE (CT.tv X.toSE c x).av:=by
 have hf:=wI h x;cases c
 case st i=>exact Tg hf
 all_goals first |exact hf _ (aW.2 rfl) |cases h
section
variable {ol:Nat->Nat}
mutual
theorem aot:∀(p:Pt X.ι)(L:List (DC X))(cs:List (CT X.ι)),L.map (·.c)=p.vars++cs->p.vars.all zZ=true->wE (den (eP ol p L).1)/\(eP ol p L).2.map (·.c)=cs
 | .v c,L,cs,h,hs=>by
  match L,h with
  |d::r,h=>
   simp only[Pt.vars,aF,List.singleton_append,List.cons.injEq]at h;simp only[Pt.vars,all_cons,List.all_nil,Bool.and_true]at hs;exact⟨adr (h.1 ▸ hs) d.x,h.2⟩
  |[],h=>simp[Pt.vars]at h
 | .o k,L,cs,h,_=>⟨trivial,by simpa[Pt.vars,eP]using h⟩
 | .p k,L,cs,h,_=>⟨trivial,by simpa[Pt.vars,eP]using h⟩
 | .mp k,L,cs,h,_=>⟨trivial,by simpa[Pt.vars,eP]using h⟩
 | .nil,L,cs,h,_=>⟨trivial,by simpa[Pt.vars,eP]using h⟩
 | .od k,L,cs,h,_=>by
  match L,h with
  |d::r,h=>
   simp only[Pt.vars,aF,List.singleton_append,List.cons.injEq]at h;exact⟨trivial,h.2⟩
  |[],h=>simp[Pt.vars]at h
 | .f F fs ps,L,cs,h,hs=>by
  simp only[Pt.vars,List.all_append,aD]at hs;simp only[Pt.vars,aN]at h;obtain⟨a1,a2⟩:=Gd fs L _ h hs.1;obtain⟨b1,b2⟩:=Gd ps _ _ a2 hs.2;exact⟨⟨a1,b1⟩,b2⟩
 | .a ps,L,cs,h,hs=>by
  simp only[Pt.vars]at h hs;exact Gd ps L cs h hs
theorem Gd:∀(ps:List (Pt X.ι))(L:List (DC X))(cs:List (CT X.ι)),L.map (·.c)=cC ps++cs->(cC ps).all zZ=true->pU (bM (ia ol ps L).1)/\(ia ol ps L).2.map (·.c)=cs
 |[],L,cs,h,_=>⟨trivial,by simpa[cC,ia]using h⟩
 |p::ps,L,cs,h,hs=>by
  simp only[cC,List.all_append,aD]at hs;simp only[cC,aN]at h;obtain⟨a1,a2⟩:=aot p L _ h hs.1;obtain⟨b1,b2⟩:=Gd ps _ _ a2 hs.2;exact⟨⟨a1,b1⟩,b2⟩
end
mutual
theorem aou:∀(p:Pt X.ι)(L:List (DC X)),∀j∈bj (eP ol p L).1,j∈p.refs
 | .v c,L,j,h=>by cases L<;>simp[eP,bj]at h
 | .o k,L,j,h=>by simpa[eP,bj,Pt.refs]using h
 | .p k,L,j,h=>by simpa[eP,bj,Pt.refs]using h
 | .mp k,L,j,h=>by simpa[eP,bj,Pt.refs]using h
 | .nil,L,j,h=>by simp[eP,bj]at h
 | .od k,L,j,h=>by cases L<;>simp[eP,bj]at h<;>simp[Pt.refs,h]
 | .f F fs ps,L,j,h=>by
  simp only[eP,bj,bf]at h;simp only[Pt.refs,bf];exact h.imp (Bv fs _ j) (Bv ps _ j)
 | .a ps,L,j,h=>by
  simp only[eP,bj]at h;simp only[Pt.refs];exact Bv ps _ j h
theorem Bv:∀(ps:List (Pt X.ι))(L:List (DC X)),∀j∈aV (ia ol ps L).1,j∈EZ ps
 |[],L,j,h=>by simp[ia,aV]at h
 |p::ps,L,j,h=>by
  simp only[ia,aV,bf]at h;simp only[EZ,bf];exact h.imp (aou p _ j) (Bv ps _ j)
end
theorem OI:∀(rs:List (List (Pt X.ι)))(L:List (DC X))(cs:List (CT X.ι)),L.map (·.c)=yh rs++cs->(yu ol rs L).2.map (·.c)=cs/\((yh rs).all zZ=true->∀r∈(yu ol rs L).1,pU (bM r))
 |[],L,cs,h=>⟨by simpa[yh,yu]using h,by simp[yu]⟩
 |r::rs,L,cs,h=>by
  simp only[yh,aN]at h;have step:(ia ol r L).2.map (·.c)=yh rs++cs:=qn r L _ h;obtain⟨b1,b2⟩:=OI rs _ _ step;refine⟨b1,λhs q hq=>?_⟩;simp only[yh,List.all_append,aD]at hs;simp only[yu,aK]at hq;rcases hq with rfl |hq
  ·exact(Gd r L _ h hs.1).1
  ·exact b2 hs.2 q hq
where
 qn (ps:List (Pt X.ι)) (L:List (DC X)) (cs:List (CT X.ι)) (h:L.map (·.c)=cC ps++cs):(ia ol ps L).2.map (·.c)=cs:=lz ps L cs h
 xF:∀(p:Pt X.ι)(L:List (DC X))(cs:List (CT X.ι)),L.map (·.c)=p.vars++cs->(eP ol p L).2.map (·.c)=cs
  | .v c,L,cs,h=>by
   match L,h with
   |d::r,h=>simp only[Pt.vars,aF,List.singleton_append,List.cons.injEq]at h;exact h.2
   |[],h=>simp[Pt.vars]at h
  | .o k,L,cs,h=>by simpa[Pt.vars,eP]using h
  | .p k,L,cs,h=>by simpa[Pt.vars,eP]using h
  | .mp k,L,cs,h=>by simpa[Pt.vars,eP]using h
  | .nil,L,cs,h=>by simpa[Pt.vars,eP]using h
  | .od k,L,cs,h=>by
   match L,h with
   |d::r,h=>simp only[Pt.vars,aF,List.singleton_append,List.cons.injEq]at h;exact h.2
   |[],h=>simp[Pt.vars]at h
  | .f F fs ps,L,cs,h=>by
   simp only[Pt.vars,aN]at h;exact lz ps _ _ (lz fs L _ h)
  | .a ps,L,cs,h=>by
   simp only[Pt.vars]at h;exact lz ps L cs h
 lz:∀(ps:List (Pt X.ι))(L:List (DC X))(cs:List (CT X.ι)),L.map (·.c)=cC ps++cs->(ia ol ps L).2.map (·.c)=cs
  |[],L,cs,h=>by simpa[cC,ia]using h
  |p::ps,L,cs,h=>by
   simp only[cC,aN]at h;exact lz ps _ _ (xF p L _ h)
theorem Yb:∀(rs:List (List (Pt X.ι)))(L:List (DC X)),∀j∈((yu ol rs L).1.map aV).flatten,j∈rs.flatMap EZ
 |[],L,j,h=>by simp[yu]at h
 |r::rs,L,j,h=>by
  simp only[yu,aF,flatten_cons,bf]at h;simp only[List.flatMap_cons,bf];exact h.imp (Bv r _ j) (Yb rs _ j)
theorem Bw:∀(O:List (Nat×OP X.ι))(L:List (DC X)),((dJ (dx ol O L)).map (·.1)).Sublist (O.map (·.1))/\(∀ p∈dJ (dx ol O L),∃op,(p.1,op)∈O/\∀j∈db p.2,j∈op.refs)/\
 (L.map (·.c)=cx O->(O.all λq=>match q.2 with | .l c=>zZ c | .m _ _=>false | .c _ rows=>(yh rows).all zZ)=true->∀p∈dJ (dx ol O L),∀r∈(bJ p.2).rows,pU r)
 |[],L=>⟨by simp[dx,dJ],by simp[dx,dJ],by simp[dx,dJ]⟩
 |(k,.l c)::O,L=>by
  match L with
  |[]=>exact⟨by simp[dx,dJ],by simp[dx,dJ],by simp[dx,dJ]⟩
  |⟨.sl c',x⟩::L=>
   have⟨h1,h2,h3⟩:=Bw O L;refine⟨?_,?_,?_⟩
   ·simp only[dx,dJ,aF];exact h1.cons_cons _
   ·intro p hp;simp only[dx,dJ,aK]at hp;rcases hp with rfl |hp
    ·exact⟨.l c,by simp,by simp[db]⟩
    ·have⟨op,g1,g2⟩:=h2 p hp;exact⟨op,dD _ g1,g2⟩
   ·intro hL hs p hp r hr;simp only[aF,cx,List.cons.injEq]at hL;simp only[all_cons,aD]at hs;simp only[dx,dJ,aK]at hp;rcases hp with rfl |hp
    ·obtain⟨e,_⟩:=hL;injection e with e;simp only[bJ,aS,mem_map]at hr;obtain⟨q,⟨y,hy,rfl⟩,rfl⟩:=hr;exact Tg (wI (e ▸ hs.1) y)
    ·exact h3 hL.2 hs.2 p hp r hr
  |⟨.int _,x⟩::L=>exact⟨by simp[dx,dJ],by simp[dx,dJ],by simp[dx,dJ]⟩
  |⟨.bool,x⟩::L=>exact⟨by simp[dx,dJ],by simp[dx,dJ],by simp[dx,dJ]⟩
  |⟨.str,x⟩::L=>exact⟨by simp[dx,dJ],by simp[dx,dJ],by simp[dx,dJ]⟩
  |⟨.any,x⟩::L=>exact⟨by simp[dx,dJ],by simp[dx,dJ],by simp[dx,dJ]⟩
  |⟨.mp _ _,x⟩::L=>exact⟨by simp[dx,dJ],by simp[dx,dJ],by simp[dx,dJ]⟩
  |⟨.st _,x⟩::L=>exact⟨by simp[dx,dJ],by simp[dx,dJ],by simp[dx,dJ]⟩
 |(k,.m kc vc)::O,L=>by
  match L with
  |[]=>exact⟨by simp[dx,dJ],by simp[dx,dJ],by simp[dx,dJ]⟩
  |⟨.mp qe pZ,x⟩::L=>
   have⟨h1,h2,h3⟩:=Bw O L;refine⟨?_,?_,?_⟩
   ·simp only[dx,dJ,aF];exact h1.cons_cons _
   ·intro p hp;simp only[dx,dJ,aK]at hp;rcases hp with rfl |hp
    ·exact⟨.m kc vc,by simp,by simp[db]⟩
    ·have⟨op,g1,g2⟩:=h2 p hp;exact⟨op,dD _ g1,g2⟩
   ·intro hL hs;simp at hs
  |⟨.sl _,x⟩::L=>exact⟨by simp[dx,dJ],by simp[dx,dJ],by simp[dx,dJ]⟩
  |⟨.int _,x⟩::L=>exact⟨by simp[dx,dJ],by simp[dx,dJ],by simp[dx,dJ]⟩
  |⟨.bool,x⟩::L=>exact⟨by simp[dx,dJ],by simp[dx,dJ],by simp[dx,dJ]⟩
  |⟨.str,x⟩::L=>exact⟨by simp[dx,dJ],by simp[dx,dJ],by simp[dx,dJ]⟩
  |⟨.any,x⟩::L=>exact⟨by simp[dx,dJ],by simp[dx,dJ],by simp[dx,dJ]⟩
  |⟨.st _,x⟩::L=>exact⟨by simp[dx,dJ],by simp[dx,dJ],by simp[dx,dJ]⟩
 |(k,.c sz rows)::O,L=>by
  have⟨h1,h2,h3⟩:=Bw O (yu ol rows L).2;refine⟨?_,?_,?_⟩
  ·simp only[dx,dJ,aF];exact h1.cons_cons _
  ·intro p hp;simp only[dx,dJ,aK]at hp;rcases hp with rfl |hp
   ·exact⟨.c sz rows,by simp,λj hj=>Yb rows L j hj⟩
   ·have⟨op,g1,g2⟩:=h2 p hp;exact⟨op,dD _ g1,g2⟩
  ·intro hL hs p hp r hr;simp only[cx]at hL;simp only[all_cons,aD]at hs;obtain⟨e1,e2⟩:=OI (ol:=ol) rows L _ hL;simp only[dx,dJ,aK]at hp;rcases hp with rfl |hp
   ·simp only[bJ,mem_map]at hr;obtain⟨q,hq,rfl⟩:=hr;exact e2 hs.1 q hq
   ·exact h3 e1 hs.2 p hp r hr
end
theorem Ti(k:Nat):∀os:List (Nat×bk X),me (q9 os) k=(pD os k).map bJ
 |[]=>rfl
 |(j,o)::r=>by
  simp only[q9,aF,me,pD];split
  ·rfl
  ·exact Ti k r
theorem Yc(f:Nat->Nat)(c:CT X.ι)(x:CT.T X.toSE c):eQ f (CT.tv X.toSE c x).av=(CT.tv X.toSE c x).av:=(Ea f (.c c x)).symm
theorem aft(f:Nat->Nat)(o:bk X):bJ (lf f o)=Nk f (bJ o):=by
 cases o with
 |cells sz rows=>simp only[lf,bJ,Nk,map_map];congr 1;exact map_congr_left λr _=>Ga f r
 |cY c l=>simp only[lf,bJ,Nk,aS,map_map];congr 1;exact map_congr_left λr _=>(PP f _).symm
 |map kc vc l=>simp only[lf,bJ,Nk,map_map];congr 1;exact map_congr_left λr _=>by simp only[Function.comp_apply,CQ,Yc]
theorem akF(i:Nat)(ag:List Nat)(os:List (Nat×bk X)):gK (Hv i ag os)=tR i ag (q9 os):=by
 simp only[Hv,tR,tN];congr 1
 ·simp only[gK,map_map];refine map_congr_left λp _=>?_;simp only[Function.comp_apply,Ti,Option.map_map];congr 1;cases pD os p.2<;>simp[aft]
 ·simp only[gK,q9,List.filter_map,map_map];refine map_congr_left λq _=>?_;simp[aft]
theorem Yd{ds:List (DV X)}:(∀ j∈refs (den (Bq ds)),j∈aV ds)/\(pU (bM ds)->wE (den (Bq ds))):=by
 match ds with
 |[]=>exact⟨λ j hj=>by simp[Bq,den,bM,refs,fD]at hj,λ_=>by simp only[Bq,den,wE];exact trivial⟩
 |[d]=>exact⟨λ j hj=>by simp only[Bq,iZ]at hj;simpa[aV]using hj,λh=>h.1⟩
 |d::e::r=>exact⟨λ j hj=>by simp only[Bq,den,refs,iy]at hj;exact hj,λh=>h⟩
theorem abR:∀xs:List (Nat×bk X),dJ (xs.map λp=>(p.1,some p.2))=xs
 |[]=>rfl
 |p::xs=>by simp only[aF,dJ,abR xs]
theorem ZD:∀l:List Tree,fD (l.map AV.t)=[]
 |[]=>rfl
 |_::l=>by simp only[aF,fD,refs,ZD l,bI]
theorem ads{P:Program}{g:cM X}{F:FuncId}(hg:Ax P F g){i:Nat}{first args caps:List (DV X)}{get:Nat->Option (bk X)}{k:KK X A}{r:A}(h:PM g i (first++args++caps) get k=some r):
 ∃b8 rd wr dv upd aa,jZ P i (den (.fn F first caps)) (bM args) b8 (dO rd (fJ get))=some aa/\jV aa.obs/\aa.v=den dv/\aa.upd=gK upd/\(∀ p∈upd,p.1=cd i\/p.1∈wr)/\k dv upd rd wr=some r:=by
 unfold PM at h;rw[aj]at h;obtain⟨m1,h1,h⟩:=h;rw[aj]at h;obtain⟨m,h2,h⟩:=h;have⟨h3,h⟩:=dN h;rw[aj]at h;obtain⟨v,h4,h⟩:=h;have⟨h5,h⟩:=pV h;rw[aj]at h;obtain⟨rr,h6,h⟩:=h;simp only[aD]at h3;obtain⟨hok,vy⟩:=h3;simp only at h;generalize gx:(List.range g.fW.length).map (m4 m)=ag at h vy;simp only[cM.ok,aD,aG]at hok;obtain⟨⟨⟨⟨n1,n2⟩,n3⟩,n4⟩,n5⟩:=hok;simp only[Sx,aD,aG]at vy;obtain⟨⟨hnd,hnm⟩,CI⟩:=vy;have hlen:ag.length=g.fW.length:=by rw[<- gx];simp
 have hi:∀q∈m.nm,ag[q.2]? =some q.1:=by
  intro q hq;have:=all_eq_true.1 hnm q hq;split at this
  ·rename_i k' e;rw[e,Nat.eq_of_beq_eq_true this]
  ·cases this
 have hv:∀k∈m.vr,k∉ag:=λk hk=>by
  have:=all_eq_true.1 CI k hk;simpa using this
 have hrd:∀k,(∃ q,(k,q)∈m.nm)\/k∈m.vr->k∈ag++m.vr:=by
  rintro k (⟨q,hq⟩ |hk)
  ·exact List.mem_append_left _ (eD (hi _ hq))
  ·exact mem_append_right _ hk
 have hm2:=(lS _ _ _ h2).1;have rx:=XZ h4;obtain⟨_,nA,dA,lA⟩:=yw _ _ _ _ h1;simp only[bI]at dA;obtain⟨nB,dB,lB⟩:=Iu (NM:=m.nm) _ _ _ h2 (λ q hq=>hq);have hL:m.dC=nA++nB:=by rw[dB,dA]
 have hdrop:(yj _ v).drop (cC g.mf).length=nB:=by rw[rx,hL,<- lA,List.drop_left]
 have htake:(yj _ v).take (cC g.mf).length=nA:=by rw[rx,hL,<- lA,List.take_left]
 have ho:∀q∈m.nm,∀c l,get q.1=some (.cY c l)->EX g.fW nB q.2=l.length:=by
  rintro⟨p,q⟩ hq c l hl;have hq2:=hi _ hq;have SZ:q<g.fW.length:=by rw[<- hlen];exact(fe.1 hq2).1
  obtain⟨p',o,g1,g2,g3⟩:=lB [] q (by rw[n1];exact List.mem_range.2 SZ);have:p'=p:=by
   have e1:=hi _ g1;rw[hq2]at e1;injection e1 with e1;exact e1.symm
  subst this;simp only at hl;rw[hl]at g2;injection g2 with g2;have h3:=g3 c l g2.symm;rw[append_nil]at h3;have hk:=(Iw g.fW nB).nodup (by rw[n1];exact List.nodup_range);simp only[EX,wG hk h3,Option.getD_some]
 obtain⟨IR,D4,ds',eA,⟨hs,obs,pA,qA⟩,rA⟩:=AZ (P:=P) (ag:=ag) (rd:=ag++m.vr) (NM:=m.nm) (ms:=m.vr) (dc:=EX g.fW nB) hi hv hrd ho _ _ _ _ h1 (λ q hq=>hm2.1 q hq) (λ c hc=>h5 c (hm2.2.1 c hc)) (λ q hq=>hm2.2.2 q hq);obtain⟨IP,L3,xs,eB,bs,mo,pB,qB,rB⟩:=Eb (P:=P) (ag:=ag) (rd:=ag++m.vr) (NM:=m.nm) (ms:=m.vr) (dc:=EX g.fW nB) hi hv hrd ho _ _ _ h2 (λ q hq=>hq) h5 (λ q hq=>hq);have LS:IR=nA:=by simp only[bI]at D4;rw[<- D4,dA]
 have LR:IP=nB:=List.append_cancel_left (L3.symm.trans dB);subst LS LR;have DS:=eA [];have DQ:=eB [];rw[append_nil]at DS DQ;have hargs:g.args v=ds':=by simp only[cM.args,X3,hdrop,htake,DS]
 have py:g.cw v=xs:=by simp only[cM.cw,F0,hdrop,DQ,abR]
 have K0:(g.fW.map λp=>(ag[p.1]?).getD 0)=ag:=by
  have:(g.fW.map λp=>(ag[p.1]?).getD 0)=(g.fW.map (·.1)).map λj=>(ag[j]?).getD 0:=by rw[map_map];rfl
  rw[this,n1];refine List.ext_getElem (by simp[hlen]) λj a b=>?_;simp[dI b]
 rw[K0]at qB rB;have Sp:=qA [];rw[append_nil,iO,iO]at Sp;have hcon:=hg v rr h6;rw[hargs,py]at hcon;obtain⟨s1,s2,s3⟩:=Bw (ol:=EX g.gg ((yj (fx (jp 0 g.eC)++cx g.gg) rr).drop (cC g.eC).length)) g.gg ((yj _ rr).drop (cC g.eC).length);have vj:∀k,Cl g.fW.length k=true->u3 ag.length k:=by
  intro k hk;simp only[Cl,Bool.or_eq_true,aD,Nat.blt_eq,Nat.ble_eq]at hk;simp only[u3,hlen];exact hk
 have good:A3 ag.length (q9 (g.outs rr)) (den (g.res rr)):=by
  refine⟨?_,?_,?_,?_⟩
  ·intro q hq;simp only[q9,mem_map]at hq;obtain⟨p,hp,rfl⟩:=hq;have⟨op,g1,_⟩:=s2 p hp;have:=all_eq_true.1 n3 _ g1;simp only[aD]at this;exact vj _ this.1
  ·have:(q9 (g.outs rr)).map (·.1)=(g.outs rr).map (·.1):=(by simp[q9]);rw[this];exact s1.nodup n4
  ·intro q hq r' hr' j hj;simp only[q9,mem_map]at hq;obtain⟨p,hp,rfl⟩:=hq;have⟨op,g1,g2⟩:=s2 p hp;have:=all_eq_true.1 n3 _ g1;simp only[aD]at this;refine vj _ (all_eq_true.1 this.2 j (g2 j ?_));obtain⟨pk,po⟩:=p;cases po with
   |cells sz rows=>exact Qs (List.mem_flatMap.2 ⟨r',hr',hj⟩)
   |cY c l=>
    simp only[bJ,aS,mem_map]at hr';obtain⟨z,_,rfl⟩:=hr';rw[ZD]at hj;simp at hj
   |map kc vc l=>
    simp only[bJ,mem_map]at hr';obtain⟨z,_,rfl⟩:=hr';simp only[fD,Io,append_nil]at hj;simp at hj
  ·intro j hj;have:=(Yd (ds:=X3 g.eC g.gg (yj _ rr))).1 j hj;exact vj _ (all_eq_true.1 n5 j (Bv g.eC _ j this))
 have flat:g.flat=true->j9 (q9 (g.outs rr)) (den (g.res rr)):=by
  intro hf;simp only[cM.flat,aD]at hf;have hc:(yj (fx (jp 0 g.eC)++cx g.gg) rr).map (·.c)=cC g.eC++cx g.gg:=(PJ _ rr).trans (by rw[S9]);refine⟨(Yd (ds:=X3 g.eC g.gg (yj _ rr))).2 ?_,?_⟩
  ·refine(Gd (ol:=_) g.eC _ [] ?_ hf.1).1;rw[append_nil,map_take,hc,List.take_left]
  ·intro q hq r' hr';simp only[q9,mem_map]at hq;obtain⟨p,hp,rfl⟩:=hq;exact s3 (by rw[map_drop,hc,List.drop_left]) hf.2 p hp r' hr'
 have cE:XA (dO (ag++m.vr) (fJ get)) (bM first++bM args++bM caps) ag m.vr bs:=by
  refine⟨hv,λj hj hn=>?_,λj hs' q o e1 e2 e3 z hz hn=>?_⟩
  ·rw[<- iO,<- iO,iy]at hj;rcases rA j hj with ⟨q,hq⟩ |hj
   ·exact absurd (eD (hi _ hq)) hn
   ·exact hj
  ·rcases rB j hs' q o e1 e2 e3 z hz with ⟨q',hq⟩ |hz
   ·exact absurd (eD (hi _ hq)) hn
   ·exact hz
 refine⟨.pN ag m.vr bs hs (q9 (g.outs rr)) (den (g.res rr)) g.flat,ag++m.vr,_,_,_,
  ⟨eQ (cn i ag) (den (g.res rr)),tR i ag (q9 (g.outs rr))++(if g.flat then []else m.vr.map λk=>(k,none)),obs++mo++[u9 P F (bM ds') (xs.map λp=>bJ p.2) (q9 (g.outs rr)) (den (g.res rr)),A3 ag.length (q9 (g.outs rr)) (den (g.res rr)),XA (dO (ag++m.vr) (fJ get)) (bM first++bM args++bM caps) ag m.vr bs]++(if g.flat then [j9 (q9 (g.outs rr)) (den (g.res rr))]else [])⟩,?_,?_,(Ea _ _).symm,?_,?_,h⟩
 ·simp only[den,jZ,Qc,qB,Sp,ah];rw[aP ⟨hnd,by omega⟩]
 ·refine rY _ (gY (gY (gY pA pB) ?_) ?_)
  ·intro z hz;simp only[aK,iw,or_false]at hz;rcases hz with rfl |rfl |rfl
   ·exact hcon
   ·exact good
   ·exact cE
  ·intro z hz;cases hf:g.flat with
   |true=>rw[hf]at hz;simp only[if_true,aW]at hz;subst hz;exact flat hf
   |false=>rw[hf]at hz;simp at hz
 ·simp only[tN,akF];congr 1;cases g.flat with
  |true=>rfl
  |false=>exact(F7 m.vr).symm
 ·intro p hp;refine .inr ?_;rcases bf.1 hp with hp |hp
  ·exact List.mem_append_left _ (mem_append_right _ (mem_map.2 ⟨p,hp,rfl⟩))
  ·cases hf:g.flat with
   |true=>rw[hf]at hp;simp at hp
   |false=>
    rw[hf]at hp;simp only[Bool.false_eq_true,if_false,mem_map]at hp;obtain⟨z,hz,rfl⟩:=hp;exact mem_append_right _ hz
end
section
variable {X:SX} {A:Type}
def Ye:RT X.ι->Bool
 | .d c=>zZ c
 | .fresh e=>zZ e
 | .whole _=>true
 | .mu c=>zZ c
 | .mr c=>zZ c
 | .mv=>true
theorem afu{c:CT X.ι}(h:zZ c=true)(x:CT.T X.toSE c):(CT.tv X.toSE c x).flat:=by
 cases c
 case st i=>exact wI h x
 all_goals first |exact trivial |cases h
theorem Yf{ns:List Nat}{q:RT X.ι}{x:RT.T X q}(h:Ye q=true):∀c∈X4 ns q x,c.flat:=by
 intro c hc;cases q<;>simp only[X4,aW,iw]at hc
 case d c=>subst hc;exact afu h x
 case fresh e=>
  subst hc;intro row hr;obtain⟨y,_,rfl⟩:=mem_map.1 hr;exact wI h y
 case whole j=>subst hc;exact trivial
theorem UZ{ns:List Nat}:∀{l:List (RT X.ι)}{x:uh X l},l.all Ye=true->∀c∈EY ns l x,c.flat
 |[],x,_,c,hc=>by simp[EY]at hc
 |[q],x,h,c,hc=>Yf (by simpa using h) c hc
 |q::q'::l,x,h,c,hc=>by
  simp only[all_cons,aD]at h;simp only[EY,bf]at hc;rcases hc with hc |hc
  ·exact Yf h.1 c hc
  ·exact UZ (by simp only[all_cons,aD];exact h.2) c hc
theorem Yg{l:List (RT X.ι)}(x:uh X l)(h:l.all Ye=true):(uD l x).flat:=by
 have:=UZ (ns:=tE l x) (x:=x) h;unfold uD;split
 ·rename_i c hc;exact this c (by rw[hc];simp)
 ·exact this
theorem abS{q:RT X.ι}{x:RT.T X q}(h:Ye q=true):Xo (qG q x):=by
 intro p hp;cases q<;>simp only[qG,aW,iw,aC,reduceCtorEq]at hp
 case mu c=>
  subst hp;intro r hr;obtain⟨y,_,rfl⟩:=mem_map.1 hr;exact wI h y
 case mr c=>
  subst hp;intro r hr;obtain⟨y,_,rfl⟩:=mem_map.1 hr;exact wI h y
theorem abT:∀{l:List (RT X.ι)}{x:uh X l},l.all Ye=true->Xo (nR l x)
 |[],x,_=>λp hp=>by simp[nR]at hp
 |[q],x,h=>abS (q:=q) (by simpa using h)
 |q::q'::l,x,h=>by
  simp only[all_cons,aD]at h;intro p hp;rcases bf.1 (show some p∈qG q x.1++nR (q'::l) x.2 from hp)with hp |hp
  ·exact abS h.1 p hp
  ·exact abT (l:=q'::l) (by simp only[all_cons,aD];exact h.2) p hp
def La(i:Nat)(ag ns:List Nat):(q:RT X.ι)->RT.T X q->List (DV X)×List (Nat×Option (bk X))
 | .d c,x=>([.c c x],[])
 | .fresh e,l=>([.own (cd i) 0 l.length],[(cd i,some (.cY e l))])
 | .whole j,_=>([match ag[j]? with |some k=> .own k 0 (ns.getD j 0) |none=> .undef],[])
 |_,_=>([],[])
def NY(i:Nat)(ag ns:List Nat):(l:List (RT X.ι))->uh X l->Option (List (DV X)×List (Nat×Option (bk X)))
 |[],_=>some ([],[])
 |[q],x=>some (La i ag ns q x)
 |q::q'::l,x=>(NY i ag ns (q'::l) x.2).bind λp=>if (La i ag ns q x.1).2.isEmpty || p.2.isEmpty then some ((La i ag ns q x.1).1++p.1,(La i ag ns q x.1).2++p.2)else none
def T0:List (DV X)->DV X
 |[d]=>d
 |ds=> .ey ds
def AK(i:Nat)(ag:List Nat)(l:List (RT X.ι))(x:uh X l):Option (DV X×List (Nat×Option (bk X))):=
 (NY i ag (tE l x) l x).bind λp=>some (T0 p.1,p.2)
theorem adt(u:List (Nat×Option (bk X))):(gK u).isEmpty=u.isEmpty:=by cases u<;>rfl
theorem abU(i:Nat)(ag ns:List Nat)(q:RT X.ι)(x:RT.T X q):(∃ c,X4 ns q x=[c]/\∃d,(La i ag ns q x).1=[d]/\Nj i ag c=(den d,gK (La i ag ns q x).2))\/(X4 ns q x=[]/\La i ag ns q x=([],[])):=by
 cases q
 case d c=>exact .inl ⟨_,rfl,_,rfl,rfl⟩
 case fresh e=>exact .inl ⟨_,rfl,_,rfl,by simp[Nj,La,den,gK,bJ,aS]⟩
 case whole j=>
  refine .inl ⟨_,rfl,_,rfl,?_⟩;simp only[Nj,gK,La,map_nil,Prod.mk.injEq,and_true];cases ag[j]?<;>rfl
 all_goals exact .inr ⟨rfl,rfl⟩
theorem afv(i:Nat)(ag:List Nat)(c:RC):P5 i ag [c]=some ([(Nj i ag c).1],(Nj i ag c).2):=by simp[P5]
theorem abV(i:Nat)(ag ns:List Nat):∀(l:List (RT X.ι))(x:uh X l)(p:List (DV X)×List (Nat×Option (bk X))),NY i ag ns l x=some p->P5 i ag (EY ns l x)=some (bM p.1,gK p.2)
 |[],_,p,h=>by simp only[NY,aC]at h;subst h;rfl
 |[q],x,p,h=>by
  simp only[NY,aC]at h;subst h;simp only[EY];rcases abU i ag ns q x with ⟨c,h1,d,h2,h3⟩ |⟨h1,h2⟩
  ·rw[h1,afv,h2,h3];simp[bM]
  ·rw[h1,h2];rfl
 |q::q'::l,x,p,h=>by
  simp only[NY]at h;rw[aj]at h;obtain⟨p',h1,h⟩:=h;have ih:=abV i ag ns (q'::l) x.2 p' h1;split at h
  ·rename_i hc;cases h;simp only[EY];rcases abU i ag ns q x.1 with ⟨c,h1,d,h2,h3⟩ |⟨h1,h2⟩
   ·rw[h1];simp only[List.singleton_append,P5,ih,ah,h3,adt];rw[aP hc,h2];simp[bM,gK]
   ·rw[h1,h2];simp only[bI];exact ih
  ·cases h
theorem afw{i:Nat}{ag:List Nat}{l:List (RT X.ι)}{x:uh X l}{p:DV X×List (Nat×Option (bk X))}(h:AK i ag l x=some p):imp i ag (uD l x)=some (den p.1,gK p.2):=by
 unfold AK at h;rw[aj]at h;obtain⟨p',h1,h⟩:=h;cases h;have ih:=abV i ag _ l x p' h1;unfold uD;split
 ·rename_i c hc;rw[hc,afv]at ih;simp only[aC,Prod.mk.injEq]at ih;obtain⟨ds,u⟩:=p'
  match ds,ih with
  |[d],ih=>
   simp only[bM,List.cons.injEq,and_true]at ih;simp only[imp,T0,<- ih.1,<- ih.2]
  |[],ih=>simp[bM]at ih
  |_::_::_,ih=>simp[bM]at ih
 ·rename_i hne;simp only[imp,ih,ah];obtain⟨ds,u⟩:=p'
  match ds,ih with
  |[],_=>rfl
  |_::_::_,_=>rfl
  |[d],ih=>
   exfalso;generalize hcs:EY (tE l x) l x=cs at ih hne
   match cs,ih,hne with
   |[],ih,_=>simp[P5,bM]at ih
   |[c],_,hne=>exact hne c rfl
   |c::c'::cs,ih,_=>
    simp only[P5]at ih;cases h3:P5 i ag cs with
    |none=>rw[h3]at ih;simp at ih
    |some q=>
     rw[h3]at ih;simp only[ah]at ih;split at ih
     ·simp only[ah]at ih;split at ih
      ·simp[bM]at ih
      ·cases ih
     ·simp at ih
def G1:(q:RT X.ι)->RT.T X q->List (Option (bk X))
 | .mu c,x=>[some (.cY c x)]
 | .mr c,x=>[some (.cells (CT.sz X c) [wH c x])]
 | .mv,_=>[none]
 |_,_=>[]
def Yh:(l:List (RT X.ι))->uh X l->List (Option (bk X))
 |[],_=>[]
 |[q],x=>G1 q x
 |q::q'::l,x=>G1 q x.1++Yh (q'::l) x.2
def Lb:List Nat->List (Option (bk X))->List (Nat×Option (bk X))
 |k::ag,p::os=>(k,p)::Lb ag os
 |_,_=>[]
theorem afx(q:RT X.ι)(x:RT.T X q):(G1 q x).map (·.map bJ)=(qG q x).map (·.map fg):=by
 cases q<;>try rfl
 case mr c=>simp only[G1,qG,aF,map_nil,Option.map_some,bJ,fg,sS,aS,mX]
theorem Tj:∀(l:List (RT X.ι))(x:uh X l),(Yh l x).map (·.map bJ)=(nR l x).map (·.map fg)
 |[],_=>rfl
 |[q],x=>afx q x
 |q::q'::l,x=>by simp only[Yh,nR,map_append,afx,Tj (q'::l) x.2]
theorem abW:∀(ag:List Nat)(os:List (Option (bk X)))(os':List (Option fF)),os.map (·.map bJ)=os'.map (·.map fg)->gK (Lb ag os)=ER ag os'
 |[],_,_,_=>by simp[Lb,ER,gK]
 |_::_,[],[],_=>rfl
 |k::ag,p::os,p'::os',h=>by
  simp only[aF,List.cons.injEq]at h;have:=abW ag os os' h.2;simp only[gK]at this;simp only[Lb,ER,gK,aF,h.1,this]
 |_::_,[],_::_,h=>by simp at h
 |_::_,_::_,[],h=>by simp at h
theorem OJ:∀{ag:List Nat}{os:List (Option (bk X))}{p:Nat×Option (bk X)},p∈Lb ag os->p.1∈ag
 |[],_,_,h=>by simp[Lb]at h
 |_::_,[],_,h=>by simp[Lb]at h
 |k::ag,q::os,p,h=>by
  simp only[Lb,aK]at h;rcases h with rfl |h
  ·simp
  ·exact dD _ (OJ h)
def P1(get:Nat->Option (bk X))(d:DV X)(c:CT X.ι):Option (List (CT.T X.toSE c)×Nat×List Bool):=
 match d with
 | .own k 0 len=>(get k).bind λo=>match o with
  | .cY b l=>(fZ (.sl b) (.sl c) l).bind λ(l:List (CT.T X.toSE c))=>some (l,k,[bb len (List.length l)])
  |_=>none
 |_=>none
def Yi(get:Nat->Option (bk X))(d:DV X)(c:CT X.ι):Option (CT.T X.toSE c×Nat):=
 match d with
 | .ptr k 0 0=>(get k).bind λo=>match o with
  | .cells sz [row]=>if sz=CT.sz X c then(Qk c row).bind λx=>some (x,k)else none
  |_=>none
 |_=>none
def oZ(Γ:FuncId->Option (bt X))(get:Nat->Option (bk X)):List (DV X)->(l:List (AT X.ι))->Option (jm X l×List Nat×List Bool)
 |[],[]=>some ((),[],[])
 |d::ds,.mut c::l=>(P1 get d c).bind λx=>(oZ Γ get ds l).bind λh=>some ((x.1,h.1),x.2.1::h.2.1,x.2.2++h.2.2)
 |d::ds,.d6 c::l=>(Yi get d c).bind λx=>(oZ Γ get ds l).bind λh=>some ((x.1,h.1),x.2::h.2.1,h.2.2)
 |d::ds,.d c::l=>(UW Γ get 3 [d] [.d c]).bind λx=>(oZ Γ get ds l).bind λh=>some ((x.1.1,h.1),h.2.1,x.2++h.2.2)
 |d::ds,.ref c::l=>(UW Γ get 3 [d] [.ref c]).bind λx=>(oZ Γ get ds l).bind λh=>some ((x.1.1,h.1),h.2.1,x.2++h.2.2)
 |d::ds,.c6 as r::l=>(UW Γ get 3 [d] [.c6 as r]).bind λx=>(oZ Γ get ds l).bind λh=>some ((x.1.1,h.1),h.2.1,x.2++h.2.2)
 |d::ds,.nil::l=>match d with
  | .nil=>(oZ Γ get ds l).bind λh=>some (((),h.1),h.2.1,h.2.2)
  |_=>none
 |_,_=>none
def MP:List (DV X)->List (AT X.ι)->List Nat
 |d::ds,a::l=>(if a.im then []else bj d)++MP ds l
 |_,_=>[]
def Tk(get:Nat->Option (bk X)):List (DV X)->(l:List (CT X.ι))->Option (HL X.toSE l×List Bool)
 |[],[]=>some ((),[])
 |d::ds,c::l=>(JQ get d c).bind λx=>(Tk get ds l).bind λh=>some ((x.1,h.1),x.2++h.2)
 |_,_=>none
variable (Γ:FuncId->Option (bt X))
def N6(i:Nat)(f:DV X)(args:List (DV X))(get:Nat->Option (bk X))(k:KK X A):Option A:=
 match f with
 | .fn F first caps=>(Γ F).bind λs=>match s.gen.filter λg=>(oE get g.mf (first++args++caps) ⟨[],[],[],[]⟩).isSome with
  |some g=>PM g i (first++args++caps) get k
  |none=>if (s.args.all (λ q=>q.pl)&&s.res.all (λ q=>!q.out))=true then(UW Γ get 3 (first++args++caps) s.args).bind λa=>XO a.2 ((s.fn a.1).bind λx=>(AK i [] s.res x).bind λp=>
   if s.res.all Ye then k p.1 p.2 (aV (first++args++caps)) []
   else k p.1 (p.2++Qq (aV (first++args++caps))) (aV (first++args++caps)) (aV (first++args++caps)))
  else(oZ Γ get (first++args++caps) s.args).bind λa=>XO a.2.2 ((s.fn a.1).bind λx=>(AK i a.2.1 s.res x).bind λp=>
   if (decide a.2.1.Nodup&&(MP (first++args++caps) s.args).all (λ j=>!a.2.1.contains j)&&decide ((Yh s.res x).length=a.2.1.length))=true then
    if s.res.all Ye then k p.1 (p.2++Lb a.2.1 (Yh s.res x)) (aV (first++args++caps)) a.2.1
    else k p.1 (p.2++(Lb a.2.1 (Yh s.res x)++Qq ((aV (first++args++caps)).filter λj=>!a.2.1.contains j))) (aV (first++args++caps)) (a.2.1++(aV (first++args++caps)).filter λj=>!a.2.1.contains j)
   else none)
 | .c6 as q φ=>(Tk get args as).bind λh=>XO h.2 ((φ h.1).bind λy=>
  if zZ q then k (.c q y) [] (aV args) []else k (.c q y) (Qq (aV args)) (aV args) (aV args))
 |_=>none
def yz(fz:List Nat)(T:da)(aw:TypeId->Option (CT X.ι))(i:Nat)(o:Op)(ρ:Operand->DV X)(get:Nat->Option (bk X))(k:KK X A):Option A:=
 match o with
 | .call { callee:= .value f,args:=args,argTypes:=_ }=>N6 Γ i (ρ f) (args.toList.map ρ) get k
 |o=>if aql o ρ then Mp T aw i o ρ get k else if aqm o ρ || fz.contains i then Mo T aw i o ρ get k else if aqo o ρ then NO T i o ρ get k else if aqn T o ρ then Mm T aw o ρ get k else GM T aw i o ρ get k
variable {Γ}
theorem Qt{P:Program}{get:Nat->Option (bk X)}{rd:List Nat}:∀{ds:List (DV X)}{l:List (CT X.ι)}{h:HL X.toSE l×List Bool},Tk get ds l=some h->(∀ b∈h.2,b=true)->(∀ j∈aV ds,j∈rd)->
 ∃hs obs,(∀ p∈obs,p)/\∀an,mM P (dO rd (fJ get)) (bM ds) (hs++an)=some ((HL.k6 X.toSE l h.1).map TV.av,an,obs)
 |[],[],h,_,_,_=>⟨[],[],by simp,λan=>rfl⟩
 |d::ds,c::l,h,hr,hc,hrd=>by
  simp only[Tk]at hr;have⟨x,h1,hr⟩:=aj.1 hr;have⟨g,h2,hr⟩:=aj.1 hr;cases hr;obtain⟨hs1,o1,p1,q1⟩:=D9 (P:=P) (rd:=rd) h1 (λ b hb=>hc b (by simp[hb])) (λ j hj=>hrd j (by simp[aV,hj]));obtain⟨hs2,o2,p2,q2⟩:=Qt (P:=P) (rd:=rd) h2 (λ b hb=>hc b (by simp[hb])) (λ j hj=>hrd j (by simp[aV,hj]));refine⟨hs1++hs2,o1++o2,gY p1 p2,λan=>?_⟩;simp only[bM,mM,aN,q1,ah,q2];rfl
 |[],_::_,_,hr,_,_=>by simp[Tk]at hr
 |_::_,[],_,hr,_,_=>by simp[Tk]at hr
theorem Yj{i:Nat}{ag ns:List Nat}{q:RT X.ι}{x:RT.T X q}:∀p∈(La i ag ns q x).2,p.1=cd i:=by cases q<;>simp[La]
theorem Yk{i:Nat}{ag ns:List Nat}:∀{l:List (RT X.ι)}{x:uh X l}{p:List (DV X)×List (Nat×Option (bk X))},NY i ag ns l x=some p->∀q∈p.2,q.1=cd i
 |[],_,p,h=>by simp only[NY,aC]at h;subst h;simp
 |[q],x,p,h=>by simp only[NY,aC]at h;subst h;exact Yj
 |q::q'::l,x,p,h=>by
  simp only[NY]at h;have⟨p',h1,h⟩:=aj.1 h;split at h
  ·cases h;intro z hz;rcases bf.1 hz with hz |hz
   ·exact Yj z hz
   ·exact Yk h1 z hz
  ·cases h
theorem abX{i:Nat}{ag:List Nat}{l:List (RT X.ι)}{x:uh X l}{p:DV X×List (Nat×Option (bk X))}(h:AK i ag l x=some p):∀q∈p.2,q.1=cd i:=by
 unfold AK at h;have⟨p',h1,h⟩:=aj.1 h;cases h;exact Yk h1
theorem Lc{P:Program}{get:Nat->Option aX}{x:AV}{hs an:List LH}{y:AV}{o:List Prop}(h:mM P get [x] hs=some ([y],an,o)):pQ P get x hs=some (y,an,o):=by
 simp only[mM,ah,append_nil,aj,aC,Prod.mk.injEq,List.cons.injEq,and_true]at h;obtain⟨q,h1,h2,h3,h4⟩:=h;rw[h1,<- h2,<- h3,<- h4]
theorem kZ{d:DV X}{ds:List (DV X)}{a:AT X.ι}{l:List (AT X.ι)}{P:Nat->Prop}(h:∀j∈MP (d::ds) (a::l),P j):(a.im=false->∀j∈bj d,P j)/\∀j∈MP ds l,P j:=by
 simp only[MP,bf]at h;exact⟨λ e j hj=>h j (.inl (by rw[e];simpa using hj)),λj hj=>h j (.inr hj)⟩
theorem apD{c:CT X.ι}{l:List (CT.T X.toSE c)}:dX ((aS (l.map (CT.row X.toSE c))).take (l.map (CT.row X.toSE c)).length)=aS (l.map (CT.row X.toSE c)):=by
 rw[List.take_of_length_le (by simp[aS])];simp only[dX,aS,map_map];exact map_congr_left λy _=>by
  simp only[Function.comp,map_map];exact map_congr_left λz _=>rfl
theorem aat{get:Nat->Option (bk X)}{d:DV X}{c:CT X.ι}{x:List (CT.T X.toSE c)×Nat×List Bool}(h:P1 get d c=some x)(hc:∀b∈x.2.2,b=true):
 d= .own x.2.1 0 (List.length x.1)/\∃o,get x.2.1=some o/\(bJ o).sz=(sS c x.1).1/\dX ((bJ o).rows.take (sS c x.1).2.length)=aS (sS c x.1).2:=by
 unfold P1 at h;split at h
 ·rename_i k len;rw[aj]at h;obtain⟨o,h1,h⟩:=h;split at h
  ·rename_i b l;rw[aj]at h;obtain⟨l',h2,h⟩:=h;cases h;have⟨h3,h4⟩:=kP h2;have h5:len=List.length l':=(by simpa[bb]using hc (bb len (List.length l')) (by simp));refine⟨by rw[h5],.cY b l,h1,by simp only[bJ,sS];exact h3,?_⟩;simp only[bJ,sS,h4];exact apD
  ·cases h
 ·cases h
theorem Yl{get:Nat->Option (bk X)}{d:DV X}{c:CT X.ι}{x:CT.T X.toSE c×Nat}(h:Yi get d c=some x):
 d= .ptr x.2 0 0/\∃o,get x.2=some o/\(bJ o).sz=(sS c [x.1]).1/\dX ((bJ o).rows.take (sS c [x.1]).2.length)=aS (sS c [x.1]).2:=by
 unfold Yi at h;split at h
 ·rename_i k;rw[aj]at h;obtain⟨o,h1,h⟩:=h;split at h
  ·rename_i sz row;split at h
   ·rename_i hsz;have⟨y,h2,h⟩:=aj.1 h;cases h;refine⟨rfl,_,h1,by simp only[bJ,sS];exact hsz,?_⟩;simp only[bJ,sS,aF,map_nil,List.length_singleton,List.take_succ_cons,List.take_zero,dX,aS];rw[AX h2]
   ·cases h
  ·cases h
 ·cases h
theorem mZ{P:Program}{Γ:FuncId->Option (bt X)}(hΓ:pb P Γ){get:Nat->Option (bk X)}{rd ag:List Nat}:∀{n:Nat}{ds:List (DV X)}{l:List (AT X.ι)}{a:jm X l×List Nat×List Bool},oZ Γ get ds l=some a->(∀ b∈a.2.2,b=true)->(∀ j∈aV ds,j∈rd)->(∀ j∈MP ds l,j∉ag)->ag.drop n=a.2.1->
 (∃ hs obs,(∀ p∈obs,p)/\∀an,mG P (dO rd (fJ get)) ag (bM ds) (hs++an)=some (dS n l a.1,an,obs))/\∃mo,EQ (dO rd (fJ get)) a.2.1 (qF l a.1)=some mo/\∀p∈mo,p
 |n,[],[],a,h,_,_,_,_=>by
  simp only[oZ,aC]at h;subst h;exact⟨⟨[],[],by simp,λan=>rfl⟩,[],rfl,by simp⟩
 |n,d::ds,.mut c::l,a,h,hc,hrd,hnr,hid=>by
  simp only[oZ]at h;have⟨x,h1,h⟩:=aj.1 h;have⟨q,h2,h⟩:=aj.1 h;cases h;obtain⟨rfl,o,g1,g2,g3⟩:=aat h1 (λ b hb=>hc b (by simp[hb]));have wd:ag[n]? =some x.2.1:=by rw[<- List.head?_drop,hid];rfl
  have we:ag.drop (n+1)=q.2.1:=by rw[<- List.tail_drop,hid];rfl
  obtain⟨⟨hs,obs,p1,p2⟩,mo,m1,m2⟩:=mZ hΓ (n:=n+1) h2 (λ b hb=>hc b (by simp[hb])) (λ j hj=>hrd j (by simp[aV,hj])) (kZ hnr).2 we;refine⟨⟨.mut n::hs,obs,p1,λan=>?_⟩,((bJ o).sz=(sS c x.1).1/\dX ((bJ o).rows.take (sS c x.1).2.length)=aS (sS c x.1).2)::mo,?_,?_⟩
  ·simp only[bM,den,mG,cons_append,sP,wd,if_true,ah,p2,dS,bI]
  ·simp only[qF,EQ,dU (hrd x.2.1 (by simp[aV,bj])) g1,ah,m1]
  ·intro p hp;rcases aK.1 hp with rfl |hp
   ·exact⟨g2,g3⟩
   ·exact m2 p hp
 |n,d::ds,.d6 c::l,a,h,hc,hrd,hnr,hid=>by
  simp only[oZ]at h;have⟨x,h1,h⟩:=aj.1 h;have⟨q,h2,h⟩:=aj.1 h;cases h;obtain⟨rfl,o,g1,g2,g3⟩:=Yl h1;have wd:ag[n]? =some x.2:=by rw[<- List.head?_drop,hid];rfl
  have we:ag.drop (n+1)=q.2.1:=by rw[<- List.tail_drop,hid];rfl
  obtain⟨⟨hs,obs,p1,p2⟩,mo,m1,m2⟩:=mZ hΓ (n:=n+1) h2 (λ b hb=>hc b (by simp[hb])) (λ j hj=>hrd j (by simp[aV,hj])) (kZ hnr).2 we;refine⟨⟨.mut n::hs,obs,p1,λan=>?_⟩,((bJ o).sz=(sS c [x.1]).1/\dX ((bJ o).rows.take (sS c [x.1]).2.length)=aS (sS c [x.1]).2)::mo,?_,?_⟩
  ·simp only[bM,den,mG,cons_append,sP,wd,if_true,ah,p2,dS,bI]
  ·simp only[qF,EQ,dU (hrd x.2 (by simp[aV,bj])) g1,ah,m1]
  ·intro p hp;rcases aK.1 hp with rfl |hp
   ·exact⟨g2,g3⟩
   ·exact m2 p hp
 |n,d::ds,.d c::l,a,h,hc,hrd,hnr,hid=>by
  simp only[oZ]at h;have⟨x,h1,h⟩:=aj.1 h;have⟨q,h2,h⟩:=aj.1 h;cases h;obtain⟨hs1,o1,p1,q1⟩:=tL (P:=P) hΓ 3 (n:=n) h1 (λ b hb=>hc b (by simp[hb])) (rd:=rd) (λ j hj=>hrd j (by simp only[aV,append_nil]at hj;simp[aV,hj]));obtain⟨⟨hs,obs,p2,q2⟩,mo,m1,m2⟩:=mZ hΓ (n:=n) h2 (λ b hb=>hc b (by simp[hb])) (λ j hj=>hrd j (by simp[aV,hj])) (kZ hnr).2 hid;refine⟨⟨sx (den d) hs1++hs,o1++obs,gY p1 p2,λan=>?_⟩,mo,m1,m2⟩;have:=AY (Lc (q1 (hs++an))) (λ k hk=>(kZ hnr).1 rfl k (by rwa [iZ]at hk));rw[Qr]at this;simp only[bM,mG,aN,this,ah,q2,dS]
 |n,d::ds,.ref c::l,a,h,hc,hrd,hnr,hid=>by
  simp only[oZ]at h;have⟨x,h1,h⟩:=aj.1 h;have⟨q,h2,h⟩:=aj.1 h;cases h;obtain⟨hs1,o1,p1,q1⟩:=tL (P:=P) hΓ 3 (n:=n) h1 (λ b hb=>hc b (by simp[hb])) (rd:=rd) (λ j hj=>hrd j (by simp only[aV,append_nil]at hj;simp[aV,hj]));obtain⟨⟨hs,obs,p2,q2⟩,mo,m1,m2⟩:=mZ hΓ (n:=n) h2 (λ b hb=>hc b (by simp[hb])) (λ j hj=>hrd j (by simp[aV,hj])) (kZ hnr).2 hid;refine⟨⟨sx (den d) hs1++hs,o1++obs,gY p1 p2,λan=>?_⟩,mo,m1,m2⟩;have:=AY (Lc (q1 (hs++an))) (λ k hk=>(kZ hnr).1 rfl k (by rwa [iZ]at hk));rw[Qr]at this;simp only[bM,mG,aN,this,ah,q2,dS]
 |n,d::ds,.c6 as r::l,a,h,hc,hrd,hnr,hid=>by
  simp only[oZ]at h;have⟨x,h1,h⟩:=aj.1 h;have⟨q,h2,h⟩:=aj.1 h;cases h;obtain⟨hs1,o1,p1,q1⟩:=tL (P:=P) hΓ 3 (n:=n) h1 (λ b hb=>hc b (by simp[hb])) (rd:=rd) (λ j hj=>hrd j (by simp only[aV,append_nil]at hj;simp[aV,hj]));obtain⟨⟨hs,obs,p2,q2⟩,mo,m1,m2⟩:=mZ hΓ (n:=n) h2 (λ b hb=>hc b (by simp[hb])) (λ j hj=>hrd j (by simp[aV,hj])) (kZ hnr).2 hid;refine⟨⟨sx (den d) hs1++hs,o1++obs,gY p1 p2,λan=>?_⟩,mo,m1,m2⟩;have:=AY (Lc (q1 (hs++an))) (λ k hk=>(kZ hnr).1 rfl k (by rwa [iZ]at hk));rw[Qr]at this;simp only[bM,mG,aN,this,ah,q2,dS]
 |n,d::ds,.nil::l,a,h,hc,hrd,hnr,hid=>by
  simp only[oZ]at h;split at h
  ·have⟨q,h2,h⟩:=aj.1 h;cases h;obtain⟨⟨hs,obs,p2,q2⟩,mo,m1,m2⟩:=mZ hΓ (n:=n) h2 hc (λ j hj=>hrd j (by simp[aV,hj])) (kZ hnr).2 hid;refine⟨⟨.nil::hs,obs,p2,λan=>?_⟩,mo,m1,m2⟩;have:=AY (P:=P) (get':=dO rd (fJ get)) (ag:=ag) (x:= .cG) (hs:= .nil::(hs++an)) (p:=(.cG,hs++an,[])) rfl (λ k hk=>by simp[refs]at hk);simp only[sx]at this;simp only[bM,den,mG,cons_append,this,ah,q2,dS,bI]
  ·cases h
 |_,[],_::_,_,h,_,_,_,_=>by simp[oZ]at h
 |_,_::_,[],_,h,_,_,_,_=>by simp[oZ]at h
theorem afy{P:Program}(hΓ:pb P Γ){i:Nat}{f:DV X}{args:List (DV X)}{get:Nat->Option (bk X)}{k:KK X A}{r:A}(h:N6 Γ i f args get k=some r):
 ∃b8 rd wr dv upd aa,jZ P i (den f) (bM args) b8 (dO rd (fJ get))=some aa/\jV aa.obs/\aa.v=den dv/\aa.upd=gK upd/\(∀ p∈upd,p.1=cd i\/p.1∈wr)/\k dv upd rd wr=some r:=by
 unfold N6 at h;split at h
 ·rename_i F first caps
  rw[aj]at h;obtain⟨s,h1,h⟩:=h;split at h
  ·rename_i g hgen;exact ads ((hΓ F s h1).2.2 g (Option.filter_eq_some_iff.1 hgen).1) h
  split at h
  ·rename_i hpure;rw[aj]at h;obtain⟨⟨a,cs⟩,h2,h⟩:=h;have⟨hcs,h⟩:=pV h;rw[aj]at h;obtain⟨x,h3,h⟩:=h;rw[aj]at h;obtain⟨p,h4,h⟩:=h;have hf0:=(hΓ F s h1).2.1 a x h3;simp only[aD]at hpure;rw[Bt (aqi hpure.1),afj hpure.2]at hf0;have hf:=XK hf0;have hi:=afw h4;have hk:=abX h4;obtain⟨hs,obs,g1,g2⟩:=tL (P:=P) hΓ 3 h2 hcs (rd:=aV (first++args++caps)) (λ j hj=>hj);have g3:=g2 [];rw[append_nil,iO,iO]at g3;have hrefs:fD (bM first++bM args++bM caps)=aV (first++args++caps):=(by rw[<- iO,<- iO,iy]);split at h
   ·rename_i hfl;refine⟨.call hs (uD s.res x) true,_,[],p.1,p.2,⟨den p.1,gK p.2,obs++[pr P F (Br s.args a) (uD s.res x),(uD s.res x).flat]⟩,?_,?_,rfl,rfl,λq hq=> .inl (hk q hq),h⟩
    ·simp only[den,jZ,oW,z8,hi,ah,g3];rfl
    ·exact rY _ (gY g1 (by
      intro q hq;simp only[aK,iw,or_false]at hq;rcases hq with rfl |rfl
      ·exact hf
      ·exact Yg x hfl))
   ·refine⟨.call hs (uD s.res x) false,_,_,p.1,_,⟨den p.1,gK p.2++(aV (first++args++caps)).map (λ k=>(k,none)),obs++[pr P F (Br s.args a) (uD s.res x)]⟩,?_,?_,rfl,?_,?_,h⟩
    ·simp only[den,jZ,oW,z8,hi,ah,g3,hrefs];rfl
    ·exact rY _ (gY g1 (by
      intro q hq;simp only[aW]at hq;subst hq;exact hf))
    ·simp only[tN,F7]
    ·intro q hq;rcases bf.1 hq with hq |hq
     ·exact .inl (hk q hq)
     ·exact .inr (MN hq)
  ·rename_i hpure;rw[aj]at h;obtain⟨⟨a,ag,cs⟩,h2,h⟩:=h;have⟨hcs,h⟩:=pV h;rw[aj]at h;obtain⟨x,h3,h⟩:=h;rw[aj]at h;obtain⟨p,h4,h⟩:=h;split at h
   ·rename_i hc;simp only[aD,aG]at hc;obtain⟨⟨hnd,hnr⟩,hlen⟩:=hc;have hf:=(hΓ F s h1).2.1 a x h3;have hi:=afw h4;have hk:=abX h4;obtain⟨⟨hs,obs,g1,g2⟩,mo,m1,m2⟩:=mZ (P:=P) hΓ (rd:=aV (first++args++caps)) (ag:=ag) (n:=0) h2 hcs (λ j hj=>hj) (λ j hj=>by simpa using all_eq_true.1 hnr j hj) rfl;have g3:=g2 [];rw[append_nil,iO,iO]at g3;have hrefs:fD (bM first++bM args++bM caps)=aV (first++args++caps):=(by rw[<- iO,<- iO,iy]);have hlen':(nR s.res x).length=ag.length:=by
     rw[<- hlen];simpa using (congrArg List.length (Tj s.res x)).symm
    have hout:gK (Lb ag (Yh s.res x))=ER ag (nR s.res x):=abW _ _ _ (Tj s.res x);split at h
    ·rename_i hfl;refine⟨.pL ag (qF s.args a) (nR s.res x) hs (uD s.res x) true,_,ag,p.1,_,⟨den p.1,gK p.2++ER ag (nR s.res x),obs++mo++[pT P F (Br s.args a) (qF s.args a) (nR s.res x) (uD s.res x),(uD s.res x).flat,Xo (nR s.res x)]⟩,?_,?_,rfl,?_,?_,h⟩
     ·simp only[den,jZ,oW,KT,hi,ah,m1,g3];rw[aP ⟨hnd,hlen'⟩];rfl
     ·refine rY _ (gY (gY g1 m2) ?_);intro q hq;simp only[aK,iw,or_false]at hq;rcases hq with rfl |rfl |rfl
      ·exact hf
      ·exact Yg x hfl
      ·exact abT hfl
     ·simp only[tN,hout]
     ·intro q hq;rcases bf.1 hq with hq |hq
      ·exact .inl (hk q hq)
      ·exact .inr (OJ hq)
    ·refine⟨.pL ag (qF s.args a) (nR s.res x) hs (uD s.res x) false,_,_,p.1,_,⟨den p.1,gK p.2++(ER ag (nR s.res x)++((aV (first++args++caps)).filter λj=>!ag.contains j).map (λ k=>(k,none))),obs++mo++[pT P F (Br s.args a) (qF s.args a) (nR s.res x) (uD s.res x)]⟩,?_,?_,rfl,?_,?_,h⟩
     ·simp only[den,jZ,oW,KT,hi,ah,m1,g3,KS,hrefs];rw[aP ⟨hnd,hlen'⟩];rfl
     ·refine rY _ (gY (gY g1 m2) ?_);intro q hq;simp only[aW]at hq;subst hq;exact hf
     ·simp only[tN,hout,F7]
     ·intro q hq;rcases bf.1 hq with hq |hq
      ·exact .inl (hk q hq)
      ·rcases bf.1 hq with hq |hq
       ·exact .inr (List.mem_append_left _ (OJ hq))
       ·exact .inr (mem_append_right _ (MN hq))
   ·cases h
 ·rename_i as q φ;rw[aj]at h;obtain⟨⟨hh,cs⟩,h1,h⟩:=h;have⟨hcs,h⟩:=pV h;rw[aj]at h;obtain⟨y,h2,h⟩:=h;obtain⟨hs,obs,g1,g2⟩:=Qt (P:=P) h1 hcs (rd:=aV args) (λ j hj=>hj);have g3:=g2 [];rw[append_nil]at g3;have hφ:∃h' x',φ h'=some x'/\HL.k6 X.toSE as hh=HL.k6 X.toSE as h'/\CT.tv X.toSE q y=CT.tv X.toSE q x':=⟨hh,y,h2,rfl,rfl⟩;split at h
  ·rename_i hfl;refine⟨.xT hs (HL.k6 X.toSE as hh) (CT.tv X.toSE q y) true,_,[],.c q y,[],⟨(CT.tv X.toSE q y).av,[],obs++[(HL.k6 X.toSE as hh).map TV.av=(HL.k6 X.toSE as hh).map TV.av,(∃ h' x',φ h'=some x'/\HL.k6 X.toSE as hh=HL.k6 X.toSE as h'/\CT.tv X.toSE q y=CT.tv X.toSE q x'),(CT.tv X.toSE q y).flat]⟩,?_,?_,rfl,rfl,by simp,h⟩
   ·simp only[den,jZ,oW,z8,g3,ah];rfl
   ·exact rY _ (gY g1 (by
     intro z hz;simp only[aK,iw,or_false]at hz;rcases hz with rfl |rfl |rfl
     ·trivial
     ·exact hφ
     ·exact afu hfl y))
  ·refine⟨.xT hs (HL.k6 X.toSE as hh) (CT.tv X.toSE q y) false,_,_,.c q y,_,⟨(CT.tv X.toSE q y).av,(aV args).map (λ k=>(k,none)),obs++[(HL.k6 X.toSE as hh).map TV.av=(HL.k6 X.toSE as hh).map TV.av,(∃ h' x',φ h'=some x'/\HL.k6 X.toSE as hh=HL.k6 X.toSE as h'/\CT.tv X.toSE q y=CT.tv X.toSE q x')]⟩,?_,?_,rfl,(F7 _).symm,λz hz=> .inr (MN hz),h⟩
   ·simp only[den,jZ,oW,z8,g3,ah,iy];rfl
   ·exact rY _ (gY g1 (by
     intro z hz;simp only[aK,iw,or_false]at hz;rcases hz with rfl |rfl
     ·trivial
     ·exact hφ))
 ·cases h
theorem ahQ{P:Program}(hΓ:pb P Γ){fz:List Nat}{T:da}{aw:TypeId->Option (CT X.ι)}{i:Nat}{o:Oper}{ρ:Operand->DV X}{get:Nat->Option (bk X)}{k:KK X A}{r:A}(h:yz Γ fz T aw i o.op ρ get k=some r):cF P T i o ρ get k r:=by
 obtain⟨dst,op,ty,aE,after,guard⟩:=o;unfold yz at h;simp only at h;split at h
 ·rename_i f args cQ;have:=afy hΓ h;simp only[<- Wx]at this;obtain⟨b8,rd,wr,dv,upd,aa,g1,g2⟩:=this;exact .call g1 g2
 ·split at h
  ·exact ahI (o:=⟨dst,op,ty,aE,after,guard⟩) h
  ·split at h
   ·exact ahJ (o:=⟨dst,op,ty,aE,after,guard⟩) h
   ·split at h
    ·exact ahL (o:=⟨dst,op,ty,aE,after,guard⟩) h
    split at h
    ·exact ahK (o:=⟨dst,op,ty,aE,after,guard⟩) h
    ·rename_i hne _ _ _ _;have⟨b8,rd,wr,dv,upd,aa,g1,g2⟩:=abJ (o:=⟨dst,op,ty,aE,after,guard⟩) h;exact cF.op (λ f args cQ e=>hne f args cQ e) g1 g2
end
def ip(x y:AV):Prop:=∀P β w I v,VR P β w I x v->VR P β w I y v
theorem ip.refl(x:AV):ip x x:=λ_ _ _ _ _ h=>h
theorem ip.undef(x:AV):ip x .undef:=λ_ _ _ _ _ _=>by simp[VR]
theorem ip.wk(x:AV):ip x (wk x):=λ_ _ _ _ _ h=>h.wk
section
variable {P:Program} {w0:World} {O0:gi} {N:Nat} {β:Nat->Option cA} {I:Nat->Prop} {a:Act} {w:World} {f g:Nat->Nat} {D:Nat->Prop}
mutual
theorem VR.rn(hgf:∀k,D k->g (f k)=k):∀(x:AV)(v:Value),(∀ k∈refs x,D k)->VR P β w I x v->VR P (λ j=>β (g j)) w I (eQ f x) v
 | .own k ae len,v,hd,h=>by simp only[eQ,VR,hgf k (hd k (by simp[refs]))]at h ⊢;exact h
 | .ptr k row ae,v,hd,h=>by simp only[eQ,VR,hgf k (hd k (by simp[refs]))]at h ⊢;exact h
 | .agg cs,v,hd,h=>by
  simp only[eQ,VR]at h ⊢;obtain⟨vs,h1,h2⟩:=h;exact⟨vs,h1,be.rn hgf cs _ (by simpa[refs]using hd) h2⟩
 | .ey cs,v,hd,h=>by
  simp only[eQ,VR]at h ⊢;obtain⟨vs,h1,h2⟩:=h;exact⟨vs,h1,be.rn hgf cs _ (by simpa[refs]using hd) h2⟩
 | .fn F first caps,v,hd,h=>by
  simp only[eQ,VR]at h ⊢;obtain⟨fs,cs,h1,h2,h3⟩:=h;exact⟨fs,cs,h1,be.rn hgf first _ (λ k hk=>hd k (by simp[refs,hk])) h2,be.rn hgf caps _ (λ k hk=>hd k (by simp[refs,hk])) h3⟩
 | .t x,v,_,h=>by simpa[eQ,VR]using h
 | .du r o,v,_,h=>by simpa[eQ,VR]using h
 | .c6 φ,v,_,h=>by simpa[eQ,VR]using h
 | .mp k,v,hd,h=>by simp only[eQ,VR,hgf k (hd k (by simp[refs]))]at h ⊢;exact h
 | .cG,v,_,h=>by simpa[eQ,VR]using h
 | .ub,v,_,h=>by simpa[eQ,VR]using h
 | .undef,v,_,h=>by simp[eQ,VR]
theorem be.rn(hgf:∀k,D k->g (f k)=k):∀(xs:List AV)(vs:List Value),(∀ k∈fD xs,D k)->be P β w I xs vs->be P (λ j=>β (g j)) w I (CQ f xs) vs
 |[],[],_,_=>by simp[CQ,be]
 |x::xs,v::vs,hd,h=>by
  simp only[be]at h;simp only[CQ,be];exact⟨VR.rn hgf x v (λ k hk=>hd k (by simp[fD,hk])) h.1,be.rn hgf xs vs (λ k hk=>hd k (by simp[fD,hk])) h.2⟩
 |[],_::_,_,h=>by simp[be]at h
 |_::_,[],_,h=>by simp[be]at h
end
def ju(D:Nat->Prop)(f:Nat->Nat):List AV->List AV->Prop
 |[],[]=>True
 |x::xs,y::ys=>((∀ k∈refs x,D k)/\ip (eQ f x) y)/\ju D f xs ys
 |_,_=>False
def fL(D:Nat->Prop)(f:Nat->Nat):List (List AV)->List (List AV)->Prop
 |[],[]=>True
 |r::rs,q::qs=>ju D f r q/\fL D f rs qs
 |_,_=>False
theorem ju.length:∀{r q:List AV},ju D f r q->q.length=r.length
 |[],[],_=>rfl
 |_::xs,_::ys,h=>by simp[ju.length h.2]
 |[],_::_,h=>h.elim
 |_::_,[],h=>h.elim
theorem cI.re(hgf:∀k,D k->g (f k)=k):∀{r q:List AV}{c:Array Value}{ae:Nat},ju D f r q->cI P β w I r c ae->cI P (λ j=>β (g j)) w I q c ae
 |[],[],_,_,_,_=>trivial
 |x::xs,y::ys,c,ae,hr,⟨⟨v,h1,h2,h3⟩,h4⟩=>⟨⟨v,h1,hr.1.2 _ _ _ _ _ (VR.rn hgf x v hr.1.1 h2),h3⟩,cI.re hgf hr.2 h4⟩
 |[],_::_,_,_,h,_=>h.elim
 |_::_,[],_,_,h,_=>h.elim
theorem bo.re(hgf:∀k,D k->g (f k)=k):∀{rs qs:List (List AV)}{c:Array Value}{ae sz:Nat},fL D f rs qs->bo P β w I rs c ae sz->bo P (λ j=>β (g j)) w I qs c ae sz
 |[],[],_,_,_,_,_=>trivial
 |r::rs,q::qs,c,ae,sz,hr,⟨h1,h2,h3⟩=>⟨by rw[hr.1.length];exact h1,cI.re hgf hr.1 h2,bo.re hgf hr.2 h3⟩
 |[],_::_,_,_,_,h,_=>h.elim
 |_::_,[],_,_,_,h,_=>h.elim
theorem be.re(hgf:∀k,D k->g (f k)=k):∀{r q:List AV}{vs:List Value},ju D f r q->be P β w I r vs->be P (λ j=>β (g j)) w I q vs
 |[],[],[],_,_=>by simp[be]
 |x::xs,y::ys,v::vs,hr,h=>by
  simp only[be]at h ⊢;exact⟨hr.1.2 _ _ _ _ _ (VR.rn hgf x v hr.1.1 h.1),be.re hgf hr.2 h.2⟩
 |[],_::_,_,h,_=>h.elim
 |_::_,[],_,h,_=>h.elim
 |[],[],_::_,_,h=>by simp[be]at h
 |_::_,_::_,[],_,h=>by simp[be]at h
theorem co.re(hgf:∀k,D k->g (f k)=k):∀{rs qs:List (List AV)}{es:List MapEntry},fL D f rs qs->co P β w I rs es->co P (λ j=>β (g j)) w I qs es
 |[],[],[],_,_=>trivial
 |r::rs,q::qs,_::es,hr,⟨h1,h2⟩=>⟨be.re hgf hr.1 h1,co.re hgf hr.2 h2⟩
 |[],_::_,_,h,_=>h.elim
 |_::_,[],_,h,_=>h.elim
 |[],[],_::_,_,h=>h.elim
 |_::_,_::_,[],_,h=>h.elim
theorem fL.length:∀{rs qs:List (List AV)},fL D f rs qs->qs.length=rs.length
 |[],[],_=>rfl
 |_::xs,_::ys,h=>by simp[fL.length h.2]
 |[],_::_,h=>h.elim
 |_::_,[],h=>h.elim
theorem Rel.re{s s':St}(hgf:∀k,D k->g (f k)=k)(hg:∀j,j<1000->g j=j)(hr:Rel P w0 O0 N β I s a w)(hok:∀t,s.ok t=none\/s'.env t= .undef)(hok':∀t,s'.ok t=none)
 (hE:∀t,s'.env t= .undef\/((∀ k∈refs (s.env t),D k)/\ip (eQ f (s.env t)) (s'.env t)))
 (hO:∀j o',s'.obj j=some o'->∃k o,s.obj k=some o/\D k/\f k=j/\o'.sz=o.sz/\fL D f o.rows o'.rows):Rel P w0 O0 N (λ j=>β (g j)) I s' a w:=by
 refine⟨hr.defers,hr.size,λt=>?_,?_⟩
 ·have h1:=hr.env t;rw[hok' t];rcases hok t with hk |h
  rotate_left
  ·rw[h];simp[ee,VR]
  rw[hk]at h1;rcases hE t with h |⟨h2,h3⟩
  ·rw[h];simp[ee,VR]
  ·exact h3 _ _ _ _ _ (VR.rn hgf _ _ h2 h1)
 ·have hm:=hr.mem;constructor
  ·intro j o' hj;obtain⟨k,o,h1,h2,rfl,h4,h5⟩:=hO j o' hj;have⟨B,hB,oY⟩:=hm.cw k o h1;refine⟨B,by simp only[hgf k h2];exact hB,?_⟩;cases B with
   |none=>
    simp only[OR]at oY ⊢;rw[oY]at h5;cases ho:o'.rows with
    |nil=>rfl
    |cons=>rw[ho]at h5;exact h5.elim
   | «at» b sz n=>
    obtain⟨g1,c,e,g2,g3,g4⟩:=oY;exact⟨by rw[g1,h4],c,e,g2,g3,bo.re hgf h5 g4⟩
   |mp b=>
    obtain⟨es,cl,g1,gl,g2,g3⟩:=oY;have hl:=h5.length;exact⟨es,cl,g1,by omega,λe=>co.re hgf h5 (g2 (by omega)),g3⟩
  ·intro j j' o o' B B' b h1 h2 h3 h4 h5 h6;obtain⟨k,q,i1,i2,rfl,_⟩:=hO j o h1;obtain⟨k',q',i1',i2',rfl,_⟩:=hO j' o' h2;simp only[hgf k i2,hgf k' i2']at h3 h4;rw[hm.eR k k' q q' B B' b i1 i1' h3 h4 h5 h6]
  ·intro j o B b h1 h2;obtain⟨k,q,i1,i2,rfl,_⟩:=hO j o h1;simp only[hgf k i2]at h2;exact hm.ownB k q B b i1 h2
  ·exact hm.lt
  ·exact hm.up
  ·exact hm.keep
  ·exact hm.le
  ·exact hm.os
  ·exact hm.tape
  ·exact hm.output
  ·intro j B hj;show β (g j)=some B;rw[hg j (O0.lt j B hj)];exact hm.anch j B hj
  ·exact hm.vars
end
section
variable {X:SX}
theorem afz{D:Nat->Prop}(f:Nat->Nat):∀r:List (DV X),(∀ k∈aV r,D k)->ju D f (bM r) (bM (Nn f r))
 |[],_=>trivial
 |x::xs,h=>⟨⟨λ k hk=>h k (by rw[iZ]at hk;simp[aV,hk]),by rw[Ea];exact ip.refl _⟩,afz f xs λk hk=>h k (by simp[aV,hk])⟩
theorem MQ{D:Nat->Prop}(f:Nat->Nat)(o:bk X)(h:∀k∈db o,D k):(bJ (lf f o)).sz=(bJ o).sz/\fL D f (bJ o).rows (bJ (lf f o)).rows:=by
 cases o with
 |cells sz rows=>
  refine⟨rfl,?_⟩;simp only[bJ,lf,map_map];simp only[db]at h
  induction rows with
  |nil=>trivial
  |cons r rs ih=>
   refine⟨afz f r λk hk=>h k (by simp[hk]),ih λk hk=>h k ?_⟩;simp only[aF,flatten_cons,bf];exact .inr hk
 |cY c l=>
  refine⟨rfl,?_⟩;simp only[bJ,lf];generalize l.map (CT.row X.toSE c)=rows;have hrow:∀r:List Tree,ju D f (r.map AV.t) (r.map AV.t):=by
   intro r
   induction r with
   |nil=>trivial
   |cons y ys ih=>exact⟨⟨by simp[refs],ip.refl _⟩,ih⟩
  induction rows with
  |nil=>trivial
  |cons r rs ih=>exact⟨hrow r,ih⟩
 |map kc vc l=>
  refine⟨rfl,?_⟩;simp only[bJ,lf];clear h
  induction l with
  |nil=>trivial
  |cons p ps ih=>exact⟨⟨⟨by simp[Io],by rw[Yc];exact ip.refl _⟩,⟨by simp[Io],by rw[Yc];exact ip.refl _⟩,trivial⟩,ih⟩
structure Low(s:cV X):Prop where
 le:s.nx<=1000000
 ge:1000<=s.nx
 env:∀t,∀k∈bj (d5 s.env t),k<s.nx
 obj:∀k o,eE s.obj k=some o->k<s.nx/\∀j∈db o,j<s.nx
theorem Ym{o:bk X}{r:List AV}{x:AV}(hr:r∈(bJ o).rows)(hx:x∈r):∀j∈refs x,j∈db o:=by
 intro j hj;cases o with
 |cells sz rows=>
  simp only[bJ,mem_map]at hr;obtain⟨q,hq,rfl⟩:=hr;rw[nQ,mem_map]at hx;obtain⟨d,hd,rfl⟩:=hx;simp only[db,List.mem_flatten,mem_map];refine⟨_,⟨q,hq,rfl⟩,?_⟩;have:∀l:List (DV X),d∈l->j∈aV l:=by
   intro l
   induction l with
   |nil=>intro h;simp at h
   |cons y ys ih=>intro h;rcases aK.1 h with rfl |h
                  ·simp only[aV,bf];left;rwa [iZ]at hj
                  ·simp only[aV,bf];exact .inr (ih h)
  exact this q hd
 |cY c l=>
  simp only[bJ,aS,mem_map]at hr;obtain⟨q,_,rfl⟩:=hr;simp only[mem_map]at hx;obtain⟨t,_,rfl⟩:=hx;simp[refs]at hj
 |map kc vc l=>
  simp only[bJ,mem_map]at hr;obtain⟨q,_,rfl⟩:=hr;simp only[aK,iw,or_false]at hx;rcases hx with rfl |rfl<;>simp[Io]at hj
theorem Low.old{s:cV X}(h:Low s):pS s.st:=by
 have hle:=h.le;constructor
 ·intro t k hk;have:=h.env t k (by rw[<- iZ];exact hk);omega
 ·intro k o hk;simp only[cV.st,fq]at hk;obtain⟨o',h1,rfl⟩:=hk;have⟨h2,h3⟩:=h.obj k o' h1;refine⟨by omega,λr hr x hx j hj=>?_⟩;have:=h3 j (Ym hr hx j hj);omega
end
section
variable {X:SX} {A:Type}
def lv(e b:List (Nat×DV X))(t:Nat):DV X:=match lk e t with |some x=>x |none=>d5 b t
def te(o b:List (Nat×Option (bk X)))(k:Nat):Option (bk X):=match lk o k with |some x=>x |none=>eE b k
def CR(dst:Option Tmp)(dv:DV X)(e:List (Nat×DV X)):List (Nat×DV X):=match dst with |some t=>(t,dv)::e |none=>e
def Yn:DV X->DV X
 | .skip=> .undef
 |x=>x
def NZ(e:List (Nat×DV X)):Operand->Bool
 | .tmp t=>match lk e t with |some .skip=>false |_=>true
 |_=>true
def U0(e b:List (Nat×DV X))(o:Op):Bool:=
 match o with
 | .pick c x y=>NZ e c&&((NZ e x&&NZ e y) || match sC (lv e b) c with | .c .bool t=>bif t then NZ e x else NZ e y |_=>false)
 |o=>o.operands.toList.all (NZ e)
abbrev zg:=List (Nat×List Nat×List Nat)
section
variable (Γ:FuncId->Option (bt X)) (fz:List Nat) (T:da) (aw:TypeId->Option (CT X.ι)) (ao:Array Oper) (b:cV X)
def Bz(k:List (Nat×DV X)->List (Nat×Option (bk X))->zg->Option A):List Nat->List (Nat×DV X)->List (Nat×Option (bk X))->zg->Option A
 |[],e,o,kx=>k e o kx
 |i::r,e,o,kx=>(ao[i]?).bind λop=>match op.guard with
  |none=>bif U0 e b.env op.op then yz Γ fz T aw i op.op (sC (lv e b.env)) (te o b.obj) λdv upd rd wr=>Bz k r (CR op.dst (Yn dv) e) (upd++o) ((i,rd,wr)::kx)else none
  |some (j,p)=>((ao[j]?).bind (·.dst)).bind λt=>match lv e b.env t with
   | .c .bool v=>
    bif v then(bif p then(bif U0 ((t,.c .bool true)::e) b.env op.op then yz Γ fz T aw i op.op (sC (lv ((t,.c .bool true)::e) b.env)) (te o b.obj) λdv upd rd wr=>Bz k r (CR op.dst (Yn dv) ((t,.c .bool true)::e)) (upd++o) ((i,rd,wr)::kx)else none)
     else Bz k r (CR op.dst .skip ((t,.c .bool true)::e)) o ((i,[],[])::kx))
    else(bif p then Bz k r (CR op.dst .skip ((t,.c .bool false)::e)) o ((i,[],[])::kx)
     else(bif U0 ((t,.c .bool false)::e) b.env op.op then yz Γ fz T aw i op.op (sC (lv ((t,.c .bool false)::e) b.env)) (te o b.obj) λdv upd rd wr=>Bz k r (CR op.dst (Yn dv) ((t,.c .bool false)::e)) (upd++o) ((i,rd,wr)::kx)else none))
   | .skip=>bif(lk e t).isSome then Bz k r (CR op.dst .skip e) o ((i,[],[])::kx)else none
   |_=>none
end
def iM(b:cV X)(e:List (Nat×DV X))(o:List (Nat×Option (bk X))):St:=⟨λ t=>den (lv e b.env t),λk=>(te o b.obj k).map bJ,λt=>match lk e t with |some .skip=>some false |_=>none⟩
theorem akH(x:DV X):den (Yn x)=den x:=by cases x<;>rfl
theorem amO(b:cV X)(e:List (Nat×DV X))(o:List (Nat×Option (bk X)))(dst:Option Tmp)(dv:DV X)(upd:List (Nat×Option (bk X)))(obs:List Prop):
 (iM b e o).app dst (⟨den dv,gK upd,obs⟩,none)=iM b (CR dst (Yn dv) e) (upd++o):=by
 simp only[iM,St.app,St.mk.injEq];refine⟨?_,?_,?_⟩
 ·funext t;cases dst with
  |none=>simp[ES,CR]
  |some d=>
   simp only[ES,CR,lv,lk,aC];by_cases h:d=t<;>simp[h,akH]
 ·funext j
  induction upd with
  |nil=>rfl
  |cons p u ih=>
   obtain⟨q,x⟩:=p;simp only[gK,aF,cZ,cons_append,te,lk]at ih ⊢;by_cases h:j=q
   ·simp[h]
   ·rw[aM h,aM (Ne.symm h)];exact ih
 ·funext t;cases dst with
  |none=>simp[ES,CR]
  |some d=>
   simp only[ES,CR,lk,aC];by_cases h:d=t
   ·simp only[h,if_true];cases dv<;>rfl
   ·simp only[aM h]
theorem akI(b:cV X)(e:List (Nat×DV X))(o:List (Nat×Option (bk X)))(dst:Option Tmp):(iM b e o).app dst (⟨.undef,[],[]⟩,some false)=iM b (CR dst .skip e) o:=by
 simp only[iM,St.app,St.mk.injEq];refine⟨?_,rfl,?_⟩
 ·funext t;cases dst with
  |none=>simp[ES,CR]
  |some d=>
   simp only[ES,CR,lv,lk,aC];by_cases h:d=t<;>simp[h,den]
 ·funext t;cases dst with
  |none=>simp[ES,CR]
  |some d=>
   simp only[ES,CR,lk,aC];by_cases h:d=t<;>simp[h]
theorem afA(b:cV X)(e:List (Nat×DV X))(o:List (Nat×Option (bk X))):ij (iM b e o).env=λx=>den (sC (lv e b.env) x):=by funext x;exact(XM _ x).symm
theorem Gf{b:cV X}{e:List (Nat×DV X)}{o:List (Nat×Option (bk X))}{x:Operand}(h:NZ e x=true):zY (iM b e o).ok x=[]:=by
 cases x with
 |tmp t=>
  simp only[NZ]at h;simp only[zY,iM];cases ht:lk e t with
  |none=>rfl
  |some d=>rw[ht]at h;cases d<;>first |rfl |cases h
 |_=>rfl
theorem akJ{b:cV X}{e:List (Nat×DV X)}{o:List (Nat×Option (bk X))}{P:Program}{T:da}{i:Nat}{op:Oper}{b8:fY}{get:Nat->Option aX}{aa:Out}(hok:U0 e b.env op.op=true)
 (h:jI P T i op b8 (ij (iM b e o).env) get=some aa):∀p∈needs (iM b e o).env (iM b e o).ok op.op,p:=by
 obtain⟨dst,op,ty,aE,after,guard⟩:=op;unfold needs;split
 ·rename_i c x y heq;simp only at heq;subst heq;simp only[U0,aD,Bool.or_eq_true]at hok;obtain⟨hc,hxy⟩:=hok;have hb:∃t,ij (iM b e o).env c= .t (.sc (.bool t)):=by
   have h0:(∃ n,b8= .ext n)\/(∃ ag fr q,b8= .tx ag fr q)\/qz T i ⟨dst,.pick c x y,ty,aE,after,guard⟩ b8 (ij (iM b e o).env) get=some aa:=(by cases b8<;>first |exact .inl ⟨_,rfl⟩ |exact .inr (.inl ⟨_,_,_,rfl⟩) |exact .inr (.inr h));rcases h0 with ⟨n,rfl⟩ |⟨ag,fr,q,rfl⟩ |h0
   ·simp[jI,pR,AE,oC,kW]at h
   ·simp[jI,KU,PA]at h
   ·simp only[qz]at h0;split at h0
    ·rename_i t ht;exact⟨t,ht⟩
    ·cases h0
  obtain⟨t,ht⟩:=hb;rw[ht];simp only[Gf hc,bI];rcases hxy with ⟨hx,hy⟩ |hxy
  ·simp[Gf hx,Gf hy]
  ·split at hxy
   ·rename_i t' ht';have e1:ij (iM b e o).env c= .t (.sc (.bool t')):=(by rw[afA];simp only[ht'];rfl);rw[e1]at ht;injection ht with ht;injection ht with ht;injection ht with ht;subst ht;cases t' with
    |true=>
     simp only[ai]at hxy;simp[Gf hxy]
    |false=>
     simp only[ak]at hxy;simp[Gf hxy]
   ·cases hxy
 ·rename_i o' hne;intro p hp;have hall:∀x∈op.operands.toList,NZ e x=true:=by
   have:U0 e b.env op=op.operands.toList.all (NZ e):=(by cases op<;>first |rfl |exact(hne _ _ _ rfl).elim);rw[this]at hok;exact all_eq_true.1 hok
  simp only[List.mem_flatMap]at hp;obtain⟨x,hx,hp⟩:=hp;rw[Gf (hall x hx)]at hp;simp at hp
theorem amP{a b:List Prop}(h:∀p∈a,p)(h':jV b):jV (a++b):=rY _ (gY h (Qf b h'))
variable {Γ:FuncId->Option (bt X)} {fz:List Nat} {T:da} {aw:TypeId->Option (CT X.ι)} {ao:Array Oper} {b:cV X} {P:Program}
theorem akK(hΓ:pb P Γ){i:Nat}{op:Oper}{e:List (Nat×DV X)}{o:List (Nat×Option (bk X))}{k:KK X A}{r:A}(hop:ao[i]? =some op)(hw:want ao op (iM b e o).env (iM b e o).ok=some true)(hok:U0 e b.env op.op=true)
 (h:yz Γ fz T aw i op.op (sC (lv e b.env)) (te o b.obj) k=some r):
 ∃(a:j0)(dv:DV X)(upd:List (Nat×Option (bk X))),a.sym=false/\k dv upd a.rd a.wr=some r/\∀(cJ:Nat->j0)(K:St->Prop),cJ i=a->K (iM b (CR op.dst (Yn dv) e) (upd++o))->tz P T ao cJ i K (iM b e o):=by
 have⟨b8,rd,wr,dv,upd,aa,h1,h2,h3,h4,h5,h6⟩:=ahQ hΓ h;refine⟨⟨b8,rd,wr,false⟩,dv,upd,rfl,h6,λcJ K ha hK=>?_⟩;have h1':jI P T i op b8 (ij (iM b e o).env) (dO rd (iM b e o).obj)=some aa:=by rw[afA];exact h1
 refine⟨op,(⟨aa.v,aa.upd,needs (iM b e o).env (iM b e o).ok op.op++aa.obs⟩,none),hop,?_,?_,?_⟩
 ·unfold opAt;simp only[hop,ah,hw,ha,h1'];rw[aP];rw[all_eq_true];intro p hp;rw[h4]at hp;simp only[gK,mem_map]at hp;obtain⟨q,hq,rfl⟩:=hp;rcases h5 q hq with h |h
  ·simp[h,Xy.2 (.inl rfl:fR (cd i) (cd i))]
  ·simp[h]
 ·exact amP (akJ hok h1') h2
 ·rw[h3,h4,amO];exact hK
theorem step_skip{i:Nat}{op:Oper}{e:List (Nat×DV X)}{o:List (Nat×Option (bk X))}(hop:ao[i]? =some op)(hw:want ao op (iM b e o).env (iM b e o).ok=some false)
 (cJ:Nat->j0) (K:St->Prop) (ha:cJ i=⟨.none,[],[],false⟩) (hK:K (iM b (CR op.dst .skip e) o)):tz P T ao cJ i K (iM b e o):=by
 refine⟨op,(⟨.undef,[],[]⟩,some false),hop,?_,trivial,?_⟩
 ·unfold opAt;simp only[hop,ah,hw,ha]
 ·rw[akI];exact hK
theorem ahR{e:List (Nat×DV X)}{o:List (Nat×Option (bk X))}{t:Nat}{v:Bool}(h:lv e b.env t= .c .bool v):iM b ((t,.c .bool v)::e) o=iM b e o:=by
 simp only[iM,St.mk.injEq,true_and];refine⟨?_,?_⟩
 ·funext s;by_cases hs:t=s
  ·subst hs;rw[h];simp[lv,lk]
  ·simp[lv,lk,hs]
 ·funext s;by_cases hs:t=s
  ·subst hs;simp only[lk,if_true];unfold lv at h;cases ht:lk e t with
   |none=>rfl
   |some d=>rw[ht]at h;simp only at h;subst h;rfl
  ·simp[lk,hs]
def Np(tr:List (Nat×j0)):zg:=tr.map λp=>(p.1,p.2.rd,p.2.wr)
def U1(ao:Array Oper)(t:Nat):Prop:=∃(j:Nat)(op:Oper),ao[j]? =some op/\op.dst=some t
theorem afB{dst:Option Tmp}{dv:DV X}{e:List (Nat×DV X)}{p:Nat×DV X}(h:p∈CR dst dv e):p∈e\/dst=some p.1:=by
 cases dst with
 |none=>exact .inl h
 |some t=>
  simp only[CR,aK]at h;rcases h with rfl |h
  ·exact .inr rfl
  ·exact .inl h
theorem Iy(hΓ:pb P Γ){k:List (Nat×DV X)->List (Nat×Option (bk X))->zg->Option A}{r:A}:∀(l:List Nat)(e:List (Nat×DV X))(o:List (Nat×Option (bk X)))(kx:zg),Bz Γ fz T aw ao b k l e o kx=some r->
 ∃(tr:List (Nat×j0))(e':List (Nat×DV X))(o':List (Nat×Option (bk X))),tr.map (·.1)=l/\k e' o' ((Np tr).reverse++kx)=some r/\(∀ p∈e',p∈e\/U1 ao p.1)/\
  ∀cJ:Nat->j0,(∀ p∈tr,cJ p.1=p.2)->VA P T ao cJ (λ σ=>σ=iM b e' o') l (iM b e o)
 |[],e,o,kx,h=>⟨[],e,o,rfl,h,λ_ hp=> .inl hp,λ_ _=>rfl⟩
 |i::l,e,o,kx,h=>by
  simp only[Bz]at h;have⟨op,hop,h⟩:=aj.1 h
  have exec:∀e:List (Nat×DV X),want ao op (iM b e o).env (iM b e o).ok=some true->
   (bif U0 e b.env op.op then yz Γ fz T aw i op.op (sC (lv e b.env)) (te o b.obj) λdv upd rd wr=>Bz Γ fz T aw ao b k l (CR op.dst (Yn dv) e) (upd++o) ((i,rd,wr)::kx)else none)=some r->
   ∃(tr:List (Nat×j0)) (e':List (Nat×DV X)) (o':List (Nat×Option (bk X))),tr.map (·.1)=i::l/\k e' o' ((Np tr).reverse++kx)=some r/\(∀ p∈e',p∈e\/U1 ao p.1)/\
    ∀cJ:Nat->j0,(∀ p∈tr,cJ p.1=p.2)->VA P T ao cJ (λ σ=>σ=iM b e' o') (i::l) (iM b e o):=by
   intro e hw h;have⟨hok,h⟩:=dN h;have⟨a,dv,upd,_,h1,h2⟩:=akK hΓ hop hw hok h;obtain⟨tr,e',o',g1,g2,g4,g3⟩:=Iy hΓ l _ _ _ h1;refine⟨(i,a)::tr,e',o',by simp[g1],?_,λp hp=>(g4 p hp).elim (λ hp=>(afB hp).elim .inl λhd=> .inr ⟨i,op,hop,hd⟩) .inr,λcJ ha=>?_⟩
   ·simpa[Np]using g2
   ·exact h2 cJ _ (ha (i,a) (by simp)) (g3 cJ λp hp=>ha p (by simp[hp]))
  have skip:∀e:List (Nat×DV X),want ao op (iM b e o).env (iM b e o).ok=some false->Bz Γ fz T aw ao b k l (CR op.dst .skip e) o ((i,[],[])::kx)=some r->
   ∃(tr:List (Nat×j0)) (e':List (Nat×DV X)) (o':List (Nat×Option (bk X))),tr.map (·.1)=i::l/\k e' o' ((Np tr).reverse++kx)=some r/\(∀ p∈e',p∈e\/U1 ao p.1)/\
    ∀cJ:Nat->j0,(∀ p∈tr,cJ p.1=p.2)->VA P T ao cJ (λ σ=>σ=iM b e' o') (i::l) (iM b e o):=by
   intro e hw h;obtain⟨tr,e',o',g1,g2,g4,g3⟩:=Iy hΓ l _ _ _ h;refine⟨(i,⟨.none,[],[],false⟩)::tr,e',o',by simp[g1],?_,λp hp=>(g4 p hp).elim (λ hp=>(afB hp).elim .inl λhd=> .inr ⟨i,op,hop,hd⟩) .inr,λcJ ha=>?_⟩
   ·simpa[Np]using g2
   ·exact step_skip hop hw cJ _ (ha (i,_) (by simp)) (g3 cJ λp hp=>ha p (by simp[hp]))
  split at h
  ·rename_i hg;exact exec e (by simp[want,hg]) h
  ·rename_i j p hg;rw[aj]at h;obtain⟨t,ht,h⟩:=h;split at h
   ·rename_i v hv;have hw:∀e:List (Nat×DV X),lv e b.env t= .c .bool v->want ao op (iM b e o).env (iM b e o).ok=some (v==p):=by
     intro e he;simp only[want,hg,ht];have h0:(iM b e o).ok t=none:=by
      simp only[iM];unfold lv at he;cases hq:lk e t with
      |none=>rfl
      |some d=>rw[hq]at he;simp only at he;subst he;rfl
     have h1:(iM b e o).env t= .t (.sc (.bool v)):=(by simp only[iM,he];rfl);rw[h0,h1]
    have hk:=ahR (b:=b) (o:=o) hv;have hv':lv ((t,.c .bool v)::e) b.env t= .c .bool v:=(by simp[lv,lk]);have htd:U1 ao t:=by
     have⟨oj,h1,h2⟩:=aj.1 ht;exact⟨j,oj,h1,h2⟩
    have wide:(∃ (tr:List (Nat×j0)) (e':List (Nat×DV X)) (o':List (Nat×Option (bk X))),tr.map (·.1)=i::l/\k e' o' ((Np tr).reverse++kx)=some r/\(∀ p∈e',p∈((t,.c .bool v)::e:List (Nat×DV X))\/U1 ao p.1)/\
     ∀cJ:Nat->j0,(∀ p∈tr,cJ p.1=p.2)->VA P T ao cJ (λ σ=>σ=iM b e' o') (i::l) (iM b ((t,.c .bool v)::e) o))->
     ∃(tr:List (Nat×j0)) (e':List (Nat×DV X)) (o':List (Nat×Option (bk X))),tr.map (·.1)=i::l/\k e' o' ((Np tr).reverse++kx)=some r/\(∀ p∈e',p∈e\/U1 ao p.1)/\
     ∀cJ:Nat->j0,(∀ p∈tr,cJ p.1=p.2)->VA P T ao cJ (λ σ=>σ=iM b e' o') (i::l) (iM b e o):=by
     rintro⟨tr,e',o',g1,g2,g4,g3⟩;refine⟨tr,e',o',g1,g2,λq hq=>?_,hk ▸ g3⟩;rcases g4 q hq with h |h
     ·rcases aK.1 h with rfl |h
      ·exact .inr htd
      ·exact .inl h
     ·exact .inr h
    apply wide;cases v with
    |true=>
     simp only[ai]at h;cases p with
     |true=>exact exec _ (hw _ hv') h
     |false=>exact skip _ (hw _ hv') h
    |false=>
     simp only[ak]at h;cases p with
     |true=>exact skip _ (hw _ hv') h
     |false=>exact exec _ (hw _ hv') h
   ·rename_i hv;have⟨hsome,h⟩:=dN h;refine skip e ?_ h;simp only[want,hg,ht];have h1:(iM b e o).env t= .undef:=(by simp only[iM,hv];rfl);cases hq:lk e t with
    |some d=>
     have h0:(iM b e o).ok t=some false:=by
      unfold lv at hv;rw[hq]at hv;simp only at hv;subst hv;simp only[iM,hq]
     rw[h0,h1]
    |none=>rw[hq]at hsome;cases hsome
   ·cases h
end
section
variable {X:SX} {A:Type}
def fN(nx k:Nat):Nat:=if k<1000000 then k else nx+(k -1000000)
def gN(nx j:Nat):Nat:=if j<nx then j else 1000000+(j -nx)
def B8(nx sz k:Nat):Bool:=decide (k<nx) || (decide (1000000<=k)&&decide (k<1000000+sz))
def okE(nx sz:Nat)(e:List (Nat×DV X)):Bool:=e.all λp=>(bj p.2).all (B8 nx sz)
def okO(nx sz:Nat)(o:List (Nat×Option (bk X))):Bool:=o.all λp=>B8 nx sz p.1&&match p.2 with |some x=>(db x).all (B8 nx sz) |none=>true
def G0(kx:zg):Nat->j0:=λi=>match lk kx i with |some p=>⟨.none,p.1,p.2,false⟩ |none=>⟨.none,[],[],false⟩
def AI(tr:List (Nat×j0)):Nat->j0:=λi=>match lk tr i with |some a=>a |none=>⟨.none,[],[],false⟩
def Fo:DV X->DV X
 | .skip=> .undef
 |x=>x
theorem amR(x:DV X):den (Fo x)=den x:=by cases x<;>rfl
theorem abY(x:DV X):bj (Fo x)=bj x:=by cases x<;>rfl
def fin(s:cV X)(e:List (Nat×DV X))(o:List (Nat×Option (bk X)))(sz:Nat):cV X:=
 ⟨e.map (λ p=>(p.1,Fo (kB (fN s.nx) p.2)))++s.env,o.map (λ p=>(fN s.nx p.1,p.2.map (lf (fN s.nx))))++s.obj,s.nx+sz,o.map (λ p=>fN s.nx p.1)++s.log⟩
def Wk(N:Nat)(ao:Array Oper)(d:Bool)(nx:Nat)(e:List (Nat×DV X))(o:List (Nat×Option (bk X)))(kx:zg):Bool:=
 H1 N ao&&(!d || HD ao (G0 kx))&&okE nx (64*ao.size) e&&okO nx (64*ao.size) o&&decide (nx+64*ao.size<=1000000)
def PH(Γ:FuncId->Option (bt X))(fz:List Nat)(T:da)(aw:TypeId->Option (CT X.ι))(N:Nat)(ao:Array Oper)(d:Bool)(s:cV X)(k:cV X->Option A):Option A:=
 Bz Γ fz T aw ao s (λ e o kx=>bif Wk N ao d s.nx e o kx then k (fin s e o (64*ao.size))else none) (List.range ao.size) [] [] []
theorem afC{ao:Array Oper}{cJ qq:Nat->j0}(h:∀i,(cJ i).rd=(qq i).rd/\(cJ i).wr=(qq i).wr):HD ao cJ=HD ao qq:=by
 have h1:Aa cJ=Aa qq:=by
  funext i j;simp only[Aa,(h i).1,(h i).2,(h j).1,(h j).2]
 have h2:∀md,SC md ao cJ=SC md ao qq:=by
  intro md;funext listed i;simp only[SC,h1]
 have h3:∀(md:Region.Mode)(n k:Nat)(listed:Array Bool),lexFrom' md ao cJ n k listed=lexFrom' md ao qq n k listed:=by
  intro md n
  induction n with
  |zero=>intro k listed;rfl
  |succ n ih=>intro k listed;simp only[lexFrom',h2,ih]
 exact h3 _ _ _ _
theorem Gg{α:Type}:∀(a b:List (Nat×α))(k:Nat),lk (a++b) k=match lk a k with |some x=>some x |none=>lk b k
 |[],_,_=>rfl
 |(j,x)::a,b,k=>by
  simp only[cons_append,lk];by_cases h:j=k
  ·simp[h]
  ·simp only[aM h,Gg a b k]
theorem Zs{α:Type}:∀{l:List (Nat×α)}{k:Nat},lk l k=none->∀x,(k,x)∉l
 |(j,y)::r,k,h,x=>by
  simp only[lk]at h;split at h
  ·cases h
  ·rename_i hn;simp only[aK,Prod.mk.injEq,not_or];exact⟨λ e=>hn e.1.symm,Zs h x⟩
 |[],_,_,_=>by simp
theorem apE{tr:List (Nat×j0)}(hn:(tr.map (·.1)).Nodup)(i:Nat):(G0 (Np tr).reverse i).rd=(AI tr i).rd/\(G0 (Np tr).reverse i).wr=(AI tr i).wr:=by
 have hn':((Np tr).reverse.map (·.1)).Nodup:=by
  rw[List.map_reverse];have h1:((Np tr).map (·.1)).Nodup:=by simpa[Np,Function.comp_def]using hn
  exact List.pairwise_reverse.2 (h1.imp λh=>Ne.symm h)
 unfold G0 AI;cases h:lk tr i with
 |none=>
  cases h':lk (Np tr).reverse i with
  |none=>exact⟨rfl,rfl⟩
  |some p=>
   have:=sQ h';simp only[Np,List.mem_reverse,mem_map]at this;obtain⟨q,hq,he⟩:=this;injection he with e1 e2;subst e1;exact(Zs h q.2 hq).elim
 |some a=>
  have h1:=sQ h;have h2:(i,a.rd,a.wr)∈(Np tr).reverse:=by
   simp only[Np,List.mem_reverse,mem_map];exact⟨(i,a),h1,rfl⟩
  rw[wG hn' h2];exact⟨rfl,rfl⟩
theorem amT{tr:List (Nat×j0)}(hn:(tr.map (·.1)).Nodup):∀p∈tr,AI tr p.1=p.2:=by
 rintro⟨i,a⟩ hp;unfold AI;rw[wG hn hp]
theorem Yo{nx sz k:Nat}(h:B8 nx sz k=true):k<nx\/(1000000<=k/\k<1000000+sz):=by simpa[B8]using h
theorem LN{nx sz k:Nat}(hle:nx+sz<=1000000)(h:k<nx\/(1000000<=k/\k<1000000+sz)):gN nx (fN nx k)=k:=by
 unfold gN fN;rcases h with h |⟨h1,h2⟩
 ·rw[aP (show k<1000000 by omega),aP h]
 ·rw[aM (show ¬k<1000000 by omega),aM (by omega)];omega
theorem A5{nx sz k:Nat}(hle:nx+sz<=1000000)(h:k<nx\/(1000000<=k/\k<1000000+sz)):fN nx k<nx+sz:=by
 unfold fN;rcases h with h |⟨h1,h2⟩
 ·rw[aP (show k<1000000 by omega)];omega
 ·rw[aM (show ¬k<1000000 by omega)];omega
theorem Hs{nx k:Nat}(hle:nx<=1000000)(h:k<nx):fN nx k=k:=aP (by omega)
mutual
theorem Yp{f:Nat->Nat}:∀x:DV X,(∀ k∈bj x,f k=k)->kB f x=x
 | .own k _ _,h=>by simp only[kB,h k (by simp[bj])]
 | .ptr k _ _,h=>by simp only[kB,h k (by simp[bj])]
 | .mT k _ _,h=>by simp only[kB,h k (by simp[bj])]
 | .mp k,h=>by simp only[kB,h k (by simp[bj])]
 | .oX k _ _ _ _,h=>by simp only[kB,h k (by simp[bj])]
 | .agg cs,h=>by simp only[kB,Ec cs (by simpa[bj]using h)]
 | .ey cs,h=>by simp only[kB,Ec cs (by simpa[bj]using h)]
 | .fn F first caps,h=>by simp only[kB,Ec first (λ k hk=>h k (by simp[bj,hk])),Ec caps (λ k hk=>h k (by simp[bj,hk]))]
 | .c _ _,_=>rfl
 | .rp _ _ _,_=>rfl
 | .tc _ _ _ _ _,_=>rfl
 | .c6 _ _ _,_=>rfl
 | .raw _,_=>rfl
 | .nil,_=>rfl
 | .ub,_=>rfl
 | .skip,_=>rfl
 | .undef,_=>rfl
theorem Ec{f:Nat->Nat}:∀l:List (DV X),(∀ k∈aV l,f k=k)->Nn f l=l
 |[],_=>rfl
 |x::xs,h=>by simp only[Nn,Yp x (λ k hk=>h k (by simp[aV,hk])),Ec xs (λ k hk=>h k (by simp[aV,hk]))]
end
mutual
theorem Yq(f:Nat->Nat):∀x:DV X,bj (kB f x)=(bj x).map f
 | .own _ _ _=>rfl
 | .ptr _ _ _=>rfl
 | .mT _ _ _=>rfl
 | .mp _=>rfl
 | .oX _ _ _ _ _=>rfl
 | .agg cs=>by simp only[kB,bj,A7 f cs]
 | .ey cs=>by simp only[kB,bj,A7 f cs]
 | .fn F first caps=>by simp only[kB,bj,A7 f first,A7 f caps,map_append]
 | .c _ _=>rfl
 | .rp _ _ _=>rfl
 | .tc _ _ _ _ _=>rfl
 | .c6 _ _ _=>rfl
 | .raw _=>rfl
 | .nil=>rfl
 | .ub=>rfl
 | .skip=>rfl
 | .undef=>rfl
theorem A7(f:Nat->Nat):∀l:List (DV X),aV (Nn f l)=(aV l).map f
 |[]=>rfl
 |x::xs=>by simp only[Nn,aV,Yq f x,A7 f xs,map_append]
end
theorem afD(f:Nat->Nat)(o:bk X):db (lf f o)=(db o).map f:=by
 cases o with
 |cells sz rows=>simp only[lf,db,map_map,List.map_flatten];congr 1;exact map_congr_left λr _=>A7 f r
 |cY c l=>rfl
 |map kc vc l=>rfl
theorem Wg{α β:Type}(f:α->β):∀(l:List (Nat×α))(k:Nat),lk (l.map λp=>(p.1,f p.2)) k=(lk l k).map f
 |[],_=>rfl
 |(j,x)::r,k=>by
  simp only[aF,lk];by_cases h:j=k
  ·simp[h]
  ·simp only[aM h,Wg f r k]
theorem YY{α β:Type}(f:α->β)(g:Nat->Nat):∀(l:List (Nat×α))(j:Nat),(∀ p∈l,∀q∈l,g p.1=g q.1->p.1=q.1)->
 (∀ y,lk (l.map λp=>(g p.1,f p.2)) j=some y->∃k x,lk l k=some x/\g k=j/\y=f x)/\(lk (l.map λp=>(g p.1,f p.2)) j=none->∀p∈l,g p.1≠j)
 |[],_,_=>⟨λ _ h=>by simp[lk]at h,λ_=>by simp⟩
 |(k0,x0)::r,j,hi=>by
  obtain⟨i1,i2⟩:=YY f g r j (λ p hp q hq=>hi p (by simp[hp]) q (by simp[hq]));simp only[aF,lk];by_cases h:g k0=j
  ·rw[aP h];exact⟨λ y hy=>by injection hy with hy;exact⟨k0,x0,by simp,h,hy.symm⟩,λhn=>by cases hn⟩
  ·rw[aM h];refine⟨λ y hy=>?_,λhn p hp=>?_⟩
   ·have⟨k,x,h1,h2,h3⟩:=i1 y hy;refine⟨k,x,?_,h2,h3⟩;have hne:k0≠k:=λe=>h (by rw[e];exact h2);rw[aM hne];exact h1
   ·rcases aK.1 hp with rfl |hp
    ·exact h
    ·exact i2 hn p hp
structure Ext(ds:Nat->Prop)(s s':cV X):Prop where
 env:∀t,¬ds t->d5 s'.env t=d5 s.env t\/d5 s'.env t= .undef
 obj:∃d,s'.log=d++s.log/\∀k,k<s.nx->k∉d->eE s'.obj k=eE s.obj k\/eE s'.obj k=none
 nx:s.nx<=s'.nx
variable {Γ:FuncId->Option (bt X)} {fz:List Nat} {T:da} {aw:TypeId->Option (CT X.ι)} {P:Program} {N:Nat}
theorem Qu(s:cV X)(e:List (Nat×DV X))(o:List (Nat×Option (bk X)))(sz t:Nat):d5 (fin s e o sz).env t=match lk e t with |some d=>Fo (kB (fN s.nx) d) |none=>d5 s.env t:=by
 simp only[fin,d5,Gg,Wg (λ d=>Fo (kB (fN s.nx) d))];cases lk e t<;>rfl
theorem adv(hT:fE P T)(hm:P.follows .mixedOrders=true)(hΓ:pb P Γ){id:Nat}{ao:Array Oper}{d:Bool}{s:cV X}{k:cV X->Option A}{r:A}(hl:Low s)(h:PH Γ fz T aw N ao d s k=some r):
 ∃s':cV X,k s'=some r/\Low s'/\Ext (U1 ao) s s'/\Ev P N (.region id ao d) (λ e σ=>e= .normal/\σ=s'.st) s.st:=by
 unfold PH at h;obtain⟨tr,e,o,h1,h2,h3,h4⟩:=Iy hΓ _ _ _ _ h;have⟨h5,h6⟩:=dN h2;simp only[Wk,aD,append_nil]at h5;obtain⟨⟨⟨⟨hd,hlex⟩,hE⟩,hO⟩,hnx⟩:=h5;have hle:s.nx+64*ao.size<=1000000:=of_decide_eq_true hnx;have C3:(tr.map (·.1)).Nodup:=by rw[h1];exact List.nodup_range
 have Lq:∀t x,lk e t=some x->∀j∈bj x,j<s.nx\/(1000000<=j/\j<1000000+64*ao.size):=by
  intro t x hx j hj;have:=all_eq_true.1 hE _ (sQ hx);exact Yo (all_eq_true.1 this j hj)
 have Dd:∀p∈o,(p.1<s.nx\/(1000000<=p.1/\p.1<1000000+64*ao.size))/\∀x,p.2=some x->∀j∈db x,j<s.nx\/(1000000<=j/\j<1000000+64*ao.size):=by
  intro p hp;have:=all_eq_true.1 hO _ hp;simp only[aD]at this;refine⟨Yo this.1,λx hx j hj=>?_⟩;have h2:=this.2;rw[hx]at h2;exact Yo (all_eq_true.1 h2 j hj)
 have hinj:∀p∈o,∀q∈o,fN s.nx p.1=fN s.nx q.1->p.1=q.1:=by
  intro p hp q hq he;have:=congrArg (gN s.nx) he
  rwa [LN hle (Dd p hp).1,LN hle (Dd q hq).1]at this
 have tm:∀j,(∃ q x,lk o q=some x/\fN s.nx q=j/\eE (fin s e o (64*ao.size)).obj j=x.map (lf (fN s.nx)))\/(eE (fin s e o (64*ao.size)).obj j=eE s.obj j/\∀p∈o,fN s.nx p.1≠j):=by
  intro j;obtain⟨i1,i2⟩:=YY (λ x:Option (bk X)=>x.map (lf (fN s.nx))) (fN s.nx) o j hinj;simp only[fin,eE,Gg];cases hj:lk (o.map λp=>(fN s.nx p.1,p.2.map (lf (fN s.nx)))) j with
  |none=>exact .inr ⟨rfl,i2 hj⟩
  |some y=>
   have⟨q,x,g1,g2,g3⟩:=i1 y hj;exact .inl ⟨q,x,g1,g2,by rw[g3];rfl⟩
 refine⟨fin s e o (64*ao.size),h6,?_,?_,?_⟩
 ·constructor
  ·exact hle
  ·have:=hl.ge;show 1000<=s.nx+64*ao.size;omega
  ·intro t j hj;rw[Qu]at hj;cases ht:lk e t with
   |none=>rw[ht]at hj;have:=hl.env t j hj;show j<s.nx+64*ao.size;omega
   |some x=>
    rw[ht,abY,Yq]at hj;obtain⟨q,hq,rfl⟩:=mem_map.1 hj;exact A5 hle (Lq t x ht q hq)
  ·intro j x hx;rcases tm j with ⟨q,y,g1,rfl,g3⟩ |⟨g1,_⟩
   ·rw[g3]at hx;rw[fq]at hx;obtain⟨z,rfl,rfl⟩:=hx;obtain⟨k1,k2⟩:=Dd _ (sQ g1);refine⟨A5 hle k1,λi hi=>?_⟩;rw[afD]at hi;obtain⟨i',hi',rfl⟩:=mem_map.1 hi;exact A5 hle (k2 z rfl i' hi')
   ·rw[g1]at hx;have⟨k1,k2⟩:=hl.obj j x hx;refine⟨show j<s.nx+64*ao.size by omega,λi hi=>?_⟩;have:=k2 i hi;show i<s.nx+64*ao.size;omega
 ·refine⟨λ t ht=> .inl ?_,⟨o.map (λ p=>fN s.nx p.1),rfl,λj hj hn=>?_⟩,by show s.nx<=s.nx+64*ao.size;omega⟩
  ·rw[Qu];cases hx:lk e t with
   |none=>rfl
   |some x=>
    rcases h3 _ (sQ hx)with h |h
    ·simp at h
    ·exact(ht h).elim
  ·rcases tm j with ⟨q,y,g1,g2,g3⟩ |⟨g1,_⟩
   ·exact(hn (mem_map.2 ⟨(q,y),sQ g1,g2⟩)).elim
   ·exact .inl g1
 ·have hst:iM s [] []=s.st:=rfl;have hex:=h4 (AI tr) (amT C3);rw[hst]at hex;intro w0 O0 β I a w hr ho;have done:∀(e':Exit)(a':Act)(w':World),(∃ β' I' σ1,Rel P w0 O0 N β' I' σ1 a' w'/\e'= .normal/\σ1=iM s e o)->∃ β' I' σ1,Rel P w0 O0 N β' I' σ1 a' w'/\pS σ1/\e'= .normal/\σ1=(fin s e o (64*ao.size)).st:=by
   rintro e' a' w' ⟨β',I',σ1,g1,rfl,rfl⟩;refine⟨_,I',(fin s e o (64*ao.size)).st,Rel.re (f:=fN s.nx) (g:=gN s.nx) (D:=λk=>k<s.nx\/(1000000<=k/\k<1000000+64*ao.size)) (λ k hk=>LN hle hk) (λ j hj=>by have:=hl.ge;unfold gN;rw[aP (by omega)]) g1 (λ t=>?_) (λ _=>rfl) (λ t=> .inr ?_) (λ j o' hj=>?_),?_,rfl,rfl⟩
   ·show(match lk e t with |some .skip=>some false |_=>none)=none\/den (d5 (fin s e o (64*ao.size)).env t)= .undef;rw[Qu];cases ht:lk e t with
    |none=>exact .inl rfl
    |some d=>cases d<;>first |exact .inl rfl |exact .inr rfl
   ·show(∀ k∈refs (den (lv e s.env t)),_)/\ip (eQ (fN s.nx) (den (lv e s.env t))) (den (d5 (fin s e o (64*ao.size)).env t));rw[Qu,iZ,<- Ea];unfold lv;cases ht:lk e t with
    |none=>
     refine⟨λ q hq=> .inl (hl.env t q hq),?_⟩;rw[Yp _ (λ q hq=>Hs (by omega) (hl.env t q hq))];exact ip.refl _
    |some x=>exact⟨Lq t x ht,by simp only[amR];exact ip.refl _⟩
   ·simp only[cV.st,fq]at hj;obtain⟨x,hx,rfl⟩:=hj;rcases tm j with ⟨q,y,i1,rfl,i3⟩ |⟨i1,i2⟩
    ·rw[i3,fq]at hx;obtain⟨z,rfl,rfl⟩:=hx;obtain⟨k1,k2⟩:=Dd _ (sQ i1);obtain⟨r1,r2⟩:=MQ (D:=λk=>k<s.nx\/(1000000<=k/\k<1000000+64*ao.size)) (fN s.nx) z (λ i hi=>k2 z rfl i hi);refine⟨q,bJ z,?_,k1,rfl,r1,r2⟩;simp only[iM,te,i1,Option.map_some]
    ·rw[i1]at hx;have⟨k1,k2⟩:=hl.obj j x hx;have hid:lf (fN s.nx) x=x:=by
      cases x with
      |cY c l=>rfl
      |map kc vc l=>rfl
      |cells sz rows=>
       simp only[lf];congr 1;have:∀q∈rows,Nn (fN s.nx) q=q:=λq hq=>Ec q λi hi=>Hs (by omega) (k2 i (by
        simp only[db,List.mem_flatten,mem_map];exact⟨_,⟨q,hq,rfl⟩,hi⟩))
       rw[map_congr_left this];simp
     obtain⟨r1,r2⟩:=MQ (D:=λk=>k<s.nx\/(1000000<=k/\k<1000000+64*ao.size)) (fN s.nx) x (λ i hi=> .inl (k2 i hi));rw[hid]at r1 r2;refine⟨j,bJ x,?_,.inl k1,Hs (by omega) k1,r1,r2⟩;simp only[iM,te];cases hlo:lk o j with
     |none=>simp[hx]
     |some y=>exact(i2 _ (sQ hlo) (Hs (by omega) k1)).elim
   ·have hL:Low (fin s e o (64*ao.size)):=by
     constructor
     ·exact hle
     ·have:=hl.ge;show 1000<=s.nx+64*ao.size;omega
     ·intro t j hj;rw[Qu]at hj;cases ht:lk e t with
      |none=>rw[ht]at hj;have:=hl.env t j hj;show j<s.nx+64*ao.size;omega
      |some x=>
       rw[ht,abY,Yq]at hj;obtain⟨q,hq,rfl⟩:=mem_map.1 hj;exact A5 hle (Lq t x ht q hq)
     ·intro j x hx;rcases tm j with ⟨q,y,g1,rfl,g3⟩ |⟨g1,_⟩
      ·rw[g3]at hx;rw[fq]at hx;obtain⟨z,rfl,rfl⟩:=hx;obtain⟨k1,k2⟩:=Dd _ (sQ g1);refine⟨A5 hle k1,λi hi=>?_⟩;rw[afD]at hi;obtain⟨i',hi',rfl⟩:=mem_map.1 hi;exact A5 hle (k2 z rfl i' hi')
      ·rw[g1]at hx;have⟨k1,k2⟩:=hl.obj j x hx;refine⟨show j<s.nx+64*ao.size by omega,λi hi=>?_⟩;have:=k2 i hi;show i<s.nx+64*ao.size;omega
    exact hL.old
  cases d with
  |false=>exact wp_mono (akp hT hd ho hex hr) done
  |true=>
   refine wp_mono (XG hT hm hd ?_ ho hex hr) done;rw[<- afC (apE C3)];simpa using hlex
end
end Go.Gb
namespace Go.Gb
open Go.RowKit
structure Sh(ι:Type) where
 slots:List (Nat×Pt ι)
 cw:List (Nat×OP ι)
 keep:List Nat
 cS:List Nat
 nx:Nat
 vm:List (Nat×CT ι)
def Sh.vars{ι:Type}(s:Sh ι):List (CT ι):=fx s.slots++cx s.cw
section
variable {X:SX}
def uA(s:cV X)(t:Nat)(c:CT X.ι):cV X:=
 match d5 s.env t with
 | .nil=>if s.nx<1000000 then⟨(t,.own s.nx 0 0)::s.env,(s.nx,some (.cY c []))::s.obj,s.nx+1,s.nx::s.log⟩else s
 |_=>s
def ux(s:cV X)(q j:Nat)(c:CT X.ι):cV X:=
 match eE s.obj q with
 |some (.cells sz [row])=>match row[j]? with
  |some .nil=>if s.nx<1000000 then⟨s.env,(q,some (.cells sz [row.set j (.own s.nx 0 0)]))::(s.nx,some (.cY c []))::s.obj,s.nx+1,q::s.nx::s.log⟩else s
  |_=>s
 |_=>s
def Yr:List (Nat×CT X.ι)->cV X->cV X
 |[],s=>s
 |(t,c)::r,s=>Yr r (bif Nat.ble 1000000 t then ux s ((t -1000000)/4096) ((t -1000000)%4096) c else uA s t c)
def SP:DV X->Bool
 | .undef | .skip=>true
 |_=>false
def encS(sh:Sh X.ι)(s0:cV X)(v:VT (X:=X) sh.vars):cV X:=
 let L:=yj sh.vars v
 let n:=(fx sh.slots).length
 let ol:=λk=>(lk (lens sh.cw (L.drop n)) k).getD 0
 ⟨OH ol sh.slots (L.take n)++sh.keep.map (λ t=>(t,d5 s0.env t)),dx ol sh.cw (L.drop n)++sh.cS.map (λ k=>(k,eE s0.obj k)),sh.nx,
  (List.range s0.nx).filter (λ k=>!sh.cS.contains k)++s0.log⟩
def Su(sh:Sh X.ι)(ds:List Nat)(s0 s':cV X)(m:MA X):Bool:=
 decide (m.nm.map (·.1)++sh.cS).Nodup&&decide (m.nm.map (·.2)++sh.cS).Nodup&&decide (sh.cw.map (·.1)).Nodup&&m.nm.all (λ q=>(sh.cw.map (·.1)).contains q.2&&decide (q.2<sh.nx)&&(decide (q.1=q.2) || decide (1000<=q.2)))&&
  sh.slots.all (λ p=>ds.contains p.1)&&sh.keep.all (λ t=>!ds.contains t&&!SP (d5 s'.env t)&&(bj (d5 s0.env t)).all λj=>sh.cS.contains j || m.nm.contains (j,j))&&
  sh.cS.all (λ k=>decide (k<s0.nx)&&!(s'.log.take (s'.log.length -s0.log.length)).contains k&&(eE s'.obj k).isSome&&match eE s0.obj k with |some o=>(db o).all λj=>sh.cS.contains j || m.nm.contains (j,j) |none=>false)&&
  decide (s0.nx<=sh.nx)&&decide (sh.nx<=1000000)
def OL{A:Type}(sh:Sh X.ι)(ds:List Nat)(s0 s':cV X)(k:VT (X:=X) sh.vars->Option A):Option A:=
 (K9 (eE s'.obj) (d5 s'.env) sh.slots ⟨[],[],[]⟩).bind λm=>(F9 (eE s'.obj) sh.cw m).bind λm=>bif Su sh ds s0 s' m then(sA sh.vars m.dC).bind λv=>XO m.f7 (k v)else none
def wJ{A:Type}(sh:Sh X.ι)(ds:List Nat)(s0 s':cV X)(k:VT (X:=X) sh.vars->Option A):Option A:=
 bif sh.vm.all (λ p=>ds.contains p.1 || Nat.ble 1000000 p.1)then OL sh ds s0 (Yr sh.vm s') k else none
end
section
variable {X:SX}
theorem ab0{d:DV X}{c:CT X.ι}{x:CT.T X.toSE c}(h:Nl d c=some x):bj d=[]:=by
 cases d
 case c=>rfl
 case nil=>rfl
 all_goals cases c<;>cases h
theorem U2:∀{ds:List (DV X)}{l:List (CT X.ι)}{h:HL X.toSE l},Bo ds l=some h->aV ds=[]
 |[],[],_,_=>rfl
 |d::ds,c::l,h,hr=>by
  simp only[Bo]at hr;have⟨x,h1,hr⟩:=aj.1 hr;have⟨g,h2,hr⟩:=aj.1 hr;simp only[aV,ab0 h1,U2 h2,append_nil]
 |[],_::_,_,hr=>by simp[Bo]at hr
 |_::_,[],_,hr=>by simp[Bo]at hr
theorem aox{d:DV X}{c:CT X.ι}{x:CT.T X.toSE c}(h:dat d c=some x):ip (den d) (den (.c c x:DV X))/\bj d=[]:=by
 cases c
 case st i=>
  replace h:yp d i=some x:=h
  cases d
  case agg cs=>
   simp only[yp]at h;have⟨g,h1,h⟩:=aj.1 h;cases h;refine⟨λ P β w I v hv=>?_,by simp only[bj,U2 h1]⟩;have h2:=(Bp h1 (X.flat i)).1;simp only[den,VR]at hv;obtain⟨vs,rfl,hv⟩:=hv;show VR P β w I (.agg ((X.row i (X.make i g)).map AV.t)) _;have h3:(X.row i (X.make i g)).map AV.t=(bM cs).map Gb.wk:=(by rw[h2];exact congrArg _ (X.eK i g));rw[h3];simp only[VR];exact⟨vs,rfl,be.wk _ _ hv⟩
  case c a y=>
   replace h:fZ a (.st i) y=some x:=h
   rw[(iY h).1];exact⟨ip.refl _,rfl⟩
  all_goals cases h
 all_goals
  have h1:=yc h;refine⟨λ P β w I v hv=>?_,ab0 h⟩;simp only[den];rw[<- h1];exact hv.wk
def fh(m m':MA X):Prop:=(∀ q∈m.nm,q∈m'.nm)/\(∀ c∈m.f7,c∈m'.f7)
theorem fh.refl(m:MA X):fh m m:=⟨λ _ h=>h,λ_ h=>h⟩
theorem fh.trans{a b c:MA X}(h:fh a b)(h':fh b c):fh a c:=⟨λ q hq=>h'.1 q (h.1 q hq),λq hq=>h'.2 q (h.2 q hq)⟩
theorem iB(m:MA X)(k' k:Nat):(addN m k' k).dC=m.dC/\(addN m k' k).f7=m.f7:=by unfold addN;split<;>exact⟨rfl,rfl⟩
theorem rf(m:MA X)(k' k:Nat):(k',k)∈(addN m k' k).nm:=by
 unfold addN;split
 ·rename_i h;simpa using h
 ·simp
theorem wK(m:MA X)(k' k:Nat):fh m (addN m k' k):=by
 unfold addN;split
 ·exact fh.refl m
 ·exact⟨λ q hq=>by simp[hq],λ_ h=>h⟩
variable {get:Nat->Option (bk X)}
mutual
theorem Ys:∀(p:Pt X.ι)(d:DV X)(m m':MA X),mP get p d m=some m'->fh m m'/\∃az,m'.dC=m.dC++az/\az.length=p.vars.length
 | .v c,d,m,m',h=>by
  simp only[mP]at h;rw[aj]at h;obtain⟨x,h1,h⟩:=h;cases h;exact⟨⟨λ _ h=>h,λ_ h=>h⟩,[⟨c,x⟩],rfl,rfl⟩
 | .o k,d,m,m',h=>by
  simp only[mP]at h;split at h
  ·rename_i k' len;have⟨o,h1,h⟩:=aj.1 h;split at h
   ·cases h;refine⟨fh.trans (b:=⟨m.nm,m.dC,m.f7++_⟩) ⟨λ _ h=>h,λ_ h=>by simp[h]⟩ (wK _ _ _),[],by rw[(iB _ _ _).1];simp,rfl⟩
   ·cases h
  ·cases h
 | .p k,d,m,m',h=>by
  simp only[mP]at h;split at h
  ·cases h;exact⟨wK _ _ _,[],by rw[(iB _ _ _).1];simp,rfl⟩
  ·cases h
 | .mp k,d,m,m',h=>by
  simp only[mP]at h;split at h
  ·cases h;exact⟨wK _ _ _,[],by rw[(iB _ _ _).1];simp,rfl⟩
  ·cases h
 | .nil,d,m,m',h=>by
  simp only[mP]at h;split at h
  ·cases h;exact⟨fh.refl _,[],by simp,rfl⟩
  ·cases h
 | .f F fs cs,d,m,m',h=>by
  simp only[mP]at h;split at h
  ·split at h
   ·rw[aj]at h;obtain⟨m1,h1,h⟩:=h;obtain⟨a1,n1,b1,c1⟩:=BA fs _ m m1 h1;obtain⟨a2,n2,b2,c2⟩:=BA cs _ m1 m' h;exact⟨a1.trans a2,n1++n2,by rw[b2,b1,aN],by simp[Pt.vars,c1,c2]⟩
   ·cases h
  ·cases h
 | .od k,d,m,m',h=>by
  simp only[mP]at h;split at h
  ·rename_i k' ae len;have⟨o,h1,h⟩:=aj.1 h;split at h
   ·cases h;refine⟨fh.trans (b:=⟨m.nm,m.dC++[⟨.int .i64,(ae:Int)⟩],m.f7++_⟩) ⟨λ _ h=>h,λ_ h=>by simp[h]⟩ (wK _ _ _),[⟨.int .i64,(ae:Int)⟩],by rw[(iB _ _ _).1],rfl⟩
   ·cases h
  ·cases h
 | .a ps,d,m,m',h=>by
  simp only[mP]at h;split at h
  ·exact BA ps _ m m' h
  ·cases h
theorem BA:∀(ps:List (Pt X.ι))(ds:List (DV X))(m m':MA X),ph get ps ds m=some m'->fh m m'/\∃az,m'.dC=m.dC++az/\az.length=(cC ps).length
 |[],[],m,m',h=>by
  simp only[ph,aC]at h;subst h;exact⟨fh.refl _,[],by simp,rfl⟩
 |p::ps,d::ds,m,m',h=>by
  simp only[ph]at h;have⟨m1,h1,h⟩:=aj.1 h;have⟨a1,n1,b1,c1⟩:=Ys p d m m1 h1;have⟨a2,n2,b2,c2⟩:=BA ps ds m1 m' h;exact⟨a1.trans a2,n1++n2,by rw[b2,b1,aN],by simp[cC,c1,c2]⟩
 |[],_::_,m,m',h=>by simp[ph]at h
 |_::_,[],m,m',h=>by simp[ph]at h
end
theorem BB:∀(rs:List (List (Pt X.ι)))(qs:List (List (DV X)))(m m':MA X),JR get rs qs m=some m'->fh m m'/\∃az,m'.dC=m.dC++az/\az.length=(yh rs).length
 |[],[],m,m',h=>by
  simp only[JR,aC]at h;subst h;exact⟨fh.refl _,[],by simp,rfl⟩
 |r::rs,q::qs,m,m',h=>by
  simp only[JR]at h;have⟨m1,h1,h⟩:=aj.1 h;have⟨a1,n1,b1,c1⟩:=BA r q m m1 h1;have⟨a2,n2,b2,c2⟩:=BB rs qs m1 m' h;exact⟨a1.trans a2,n1++n2,by rw[b2,b1,aN],by simp[yh,c1,c2]⟩
 |[],_::_,m,m',h=>by simp[JR]at h
 |_::_,[],m,m',h=>by simp[JR]at h
section
variable {NM:List (Nat×Nat)} {f:Nat->Nat} {dc:Nat->Nat}
def DN(NM:List (Nat×Nat))(j:Nat):Prop:=∃k,(j,k)∈NM
def SN(NM:List (Nat×Nat))(j:Nat):Prop:=∃k,(k,j)∈NM
theorem Qv{D:Nat->Prop}{f:Nat->Nat}{P:Program}{β:Nat->Option cA}{w:World}{I:Nat->Prop}:∀{a b:List AV}(_:ju D f a b)(u:List Value),be P β w I (CQ f a) u->be P β w I b u
 |[],[],_,u,hu=>hu
 |[],_::_,hr,_,_=>hr.elim
 |_::_,[],hr,_,_=>hr.elim
 |y::ys,z::zs,hr,[],hu=>by simp[CQ,be]at hu
 |y::ys,z::zs,hr,v::vs,hu=>by
  simp only[CQ,be]at hu ⊢;exact⟨hr.1.2 _ _ _ _ _ hu.1,Qv hr.2 vs hu.2⟩
mutual
theorem afG(hf:∀q∈NM,f q.1=q.2)(ho:∀q∈NM,∀c l,get q.1=some (.cY c l)->dc q.2=l.length):∀(p:Pt X.ι)(d:DV X)(m m':MA X),mP get p d m=some m'->(∀ q∈m'.nm,q∈NM)->(∀ c∈m'.f7,c=true)->
 ∃az,m'.dC=m.dC++az/\∃d',(∀ an,eP dc p (az++an)=(d',an))/\ip (eQ f (den d)) (den d')/\(∀ j∈bj d,DN NM j)/\(∀ j∈bj d',SN NM j)
 | .v c,d,m,m',h,_,_=>by
  simp only[mP]at h;rw[aj]at h;obtain⟨x,h1,h⟩:=h;cases h;have⟨h2,h3⟩:=aox h1;refine⟨[⟨c,x⟩],rfl,.c c x,λan=>rfl,?_,by simp[h3],by simp[bj]⟩;rw[<- Ea,Yp d (by simp[h3])];exact h2
 | .o k,d,m,m',h,hn,hc=>by
  simp only[mP]at h;split at h
  ·rename_i k' len;rw[aj]at h;obtain⟨o,h1,h⟩:=h;split at h
   ·rename_i c l;cases h;have hq:(k',k)∈NM:=hn _ (rf _ _ _);have he:len=l.length:=by
     have:=hc (bb len l.length) (by rw[(iB _ _ _).2];simp);simpa[bb]using this
    refine⟨[],by rw[(iB _ _ _).1];simp,.own k 0 (dc k),λan=>rfl,?_,?_,?_⟩
    ·simp only[den,eQ];rw[hf _ hq,ho _ hq c l h1,he];exact ip.refl _
    ·intro j hj;simp only[bj,aW]at hj;subst hj;exact⟨k,hq⟩
    ·intro j hj;simp only[bj,aW]at hj;subst hj;exact⟨k',hq⟩
   ·cases h
  ·cases h
 | .p k,d,m,m',h,hn,hc=>by
  simp only[mP]at h;split at h
  ·rename_i k';cases h;have hq:(k',k)∈NM:=hn _ (rf _ _ _);refine⟨[],by rw[(iB _ _ _).1];simp,.ptr k 0 0,λan=>rfl,?_,?_,?_⟩
   ·simp only[den,eQ];rw[hf _ hq];exact ip.refl _
   ·intro j hj;simp only[bj,aW]at hj;subst hj;exact⟨k,hq⟩
   ·intro j hj;simp only[bj,aW]at hj;subst hj;exact⟨k',hq⟩
  ·cases h
 | .mp k,d,m,m',h,hn,hc=>by
  simp only[mP]at h;split at h
  ·rename_i k';cases h;have hq:(k',k)∈NM:=hn _ (rf _ _ _);refine⟨[],by rw[(iB _ _ _).1];simp,.mp k,λan=>rfl,?_,?_,?_⟩
   ·simp only[den,eQ];rw[hf _ hq];exact ip.refl _
   ·intro j hj;simp only[bj,aW]at hj;subst hj;exact⟨k,hq⟩
   ·intro j hj;simp only[bj,aW]at hj;subst hj;exact⟨k',hq⟩
  ·cases h
 | .nil,d,m,m',h,_,_=>by
  simp only[mP]at h;split at h
  ·cases h;exact⟨[],by simp,.nil,λan=>rfl,ip.refl _,by simp[bj],by simp[bj]⟩
  ·cases h
 | .f F fs cs,d,m,m',h,hn,hc=>by
  simp only[mP]at h;split at h
  ·rename_i F' first caps
   split at h
   ·rename_i e;subst e;rw[aj]at h;obtain⟨m1,h1,h⟩:=h;have hm:=(BA cs _ m1 m' h).1;obtain⟨n1,a1,f',b1,c1,e1,g1⟩:=Gh hf ho fs _ m m1 h1 (λ q hq=>hn q (hm.1 q hq)) (λ q hq=>hc q (hm.2 q hq));obtain⟨n2,a2,c',b2,c2,e2,g2⟩:=Gh hf ho cs _ m1 m' h hn hc;refine⟨n1++n2,by rw[a2,a1,aN],.fn F f' c',λan=>by simp only[eP,aN,b1,b2],?_,?_,?_⟩
    ·intro P β w I v hv;simp only[den,eQ,VR]at hv ⊢;obtain⟨us,vs,rfl,hu,hv⟩:=hv;exact⟨us,vs,rfl,Qv c1 _ hu,Qv c2 _ hv⟩
    ·intro j hj;simp only[bj,bf]at hj;exact hj.elim (e1 j) (e2 j)
    ·intro j hj;simp only[bj,bf]at hj;exact hj.elim (g1 j) (g2 j)
   ·cases h
  ·cases h
 | .od k,d,m,m',h,hn,hc=>by
  simp only[mP]at h;split at h
  ·rename_i k' ae len;rw[aj]at h;obtain⟨o,h1,h⟩:=h;split at h
   ·rename_i c l;cases h;have hq:(k',k)∈NM:=hn _ (rf _ _ _);have he:ae+len=l.length:=by
     have:=hc (bb (ae+len) l.length) (by rw[(iB _ _ _).2];simp);simpa[bb]using this
    refine⟨[⟨.int .i64,(ae:Int)⟩],by rw[(iB _ _ _).1],.own k ae (dc k -ae),λan=>?_,?_,?_,?_⟩
    ·simp only[eP,cons_append,bI];have:Bk (X:=X) ⟨.int .i64,(ae:Int)⟩=ae:=by
      simp only[Bk];rw[X0];simp
     rw[this]
    ·simp only[den,eQ];rw[hf _ hq,ho _ hq c l h1,show l.length -ae=len by omega];exact ip.refl _
    ·intro j hj;simp only[bj,aW]at hj;subst hj;exact⟨k,hq⟩
    ·intro j hj;simp only[bj,aW]at hj;subst hj;exact⟨k',hq⟩
   ·cases h
  ·cases h
 | .a ps,d,m,m',h,hn,hc=>by
  simp only[mP]at h;split at h
  ·rename_i ds;have⟨az,h1,ds',h2,h3,h4,h5⟩:=Gh hf ho ps ds m m' h hn hc;refine⟨az,h1,.agg ds',λan=>by simp only[eP,h2],?_,by simpa[bj]using h4,by simpa[bj]using h5⟩;intro P β w I v hv;simp only[den,eQ,VR]at hv ⊢;obtain⟨vs,rfl,hv⟩:=hv;refine⟨vs,rfl,?_⟩;exact Qv h3 _ hv
  ·cases h
theorem Gh(hf:∀q∈NM,f q.1=q.2)(ho:∀q∈NM,∀c l,get q.1=some (.cY c l)->dc q.2=l.length):∀(ps:List (Pt X.ι))(ds:List (DV X))(m m':MA X),ph get ps ds m=some m'->(∀ q∈m'.nm,q∈NM)->(∀ c∈m'.f7,c=true)->
 ∃az,m'.dC=m.dC++az/\∃ds',(∀ an,ia dc ps (az++an)=(ds',an))/\ju (DN NM) f (bM ds) (bM ds')/\(∀ j∈aV ds,DN NM j)/\(∀ j∈aV ds',SN NM j)
 |[],[],m,m',h,_,_=>by
  simp only[ph,aC]at h;subst h;exact⟨[],by simp,[],λan=>rfl,trivial,by simp[aV],by simp[aV]⟩
 |p::ps,d::ds,m,m',h,hn,hc=>by
  simp only[ph]at h;have⟨m1,h1,h⟩:=aj.1 h;have hm:=(BA ps ds m1 m' h).1;obtain⟨n1,a1,d',b1,c1,e1,g1⟩:=afG hf ho p d m m1 h1 (λ q hq=>hn q (hm.1 q hq)) (λ q hq=>hc q (hm.2 q hq));have⟨n2,a2,ds',b2,c2,e2,g2⟩:=Gh hf ho ps ds m1 m' h hn hc;refine⟨n1++n2,by rw[a2,a1,aN],d'::ds',λan=>?_,⟨⟨λ k hk=>e1 k (by rwa [iZ]at hk),c1⟩,c2⟩,?_,?_⟩
  ·simp only[ia,aN,b1,b2]
  ·intro j hj;simp only[aV,bf]at hj;exact hj.elim (e1 j) (e2 j)
  ·intro j hj;simp only[aV,bf]at hj;exact hj.elim (g1 j) (g2 j)
 |[],_::_,m,m',h,_,_=>by simp[ph]at h
 |_::_,[],m,m',h,_,_=>by simp[ph]at h
end
theorem U3(hf:∀q∈NM,f q.1=q.2)(ho:∀q∈NM,∀c l,get q.1=some (.cY c l)->dc q.2=l.length):∀(rs:List (List (Pt X.ι)))(qs:List (List (DV X)))(m m':MA X),JR get rs qs m=some m'->(∀ q∈m'.nm,q∈NM)->(∀ c∈m'.f7,c=true)->
 ∃az,m'.dC=m.dC++az/\∃zv,(∀ an,yu dc rs (az++an)=(zv,an))/\fL (DN NM) f (qs.map bM) (zv.map bM)/\(∀ j∈(qs.map aV).flatten,DN NM j)/\(∀ j∈(zv.map aV).flatten,SN NM j)
 |[],[],m,m',h,_,_=>by
  simp only[JR,aC]at h;subst h;exact⟨[],by simp,[],λan=>rfl,trivial,by simp,by simp⟩
 |r::rs,q::qs,m,m',h,hn,hc=>by
  simp only[JR]at h;have⟨m1,h1,h⟩:=aj.1 h;have hm:=(BB rs qs m1 m' h).1;obtain⟨n1,a1,d',b1,c1,e1,g1⟩:=Gh hf ho r q m m1 h1 (λ q hq=>hn q (hm.1 q hq)) (λ q hq=>hc q (hm.2 q hq));have⟨n2,a2,ds',b2,c2,e2,g2⟩:=U3 hf ho rs qs m1 m' h hn hc;refine⟨n1++n2,by rw[a2,a1,aN],d'::ds',λan=>?_,⟨c1,c2⟩,?_,?_⟩
  ·simp only[yu,aN,b1,b2]
  ·intro j hj;simp only[aF,flatten_cons,bf]at hj;exact hj.elim (e1 j) (e2 j)
  ·intro j hj;simp only[aF,flatten_cons,bf]at hj;exact hj.elim (g1 j) (g2 j)
 |[],_::_,m,m',h,_,_=>by simp[JR]at h
 |_::_,[],m,m',h,_,_=>by simp[JR]at h
end
end
section
variable {X:SX} {get:Nat->Option (bk X)} {env:Nat->DV X}
theorem Ld:∀(sl:List (Nat×Pt X.ι))(m m':MA X),K9 get env sl m=some m'->fh m m'/\∃az,m'.dC=m.dC++az/\az.length=(fx sl).length
 |[],m,m',h=>by
  simp only[K9,aC]at h;subst h;exact⟨fh.refl _,[],by simp,rfl⟩
 |(t,p)::r,m,m',h=>by
  simp only[K9]at h;rw[aj]at h;obtain⟨m1,h1,h⟩:=h;obtain⟨a1,n1,b1,c1⟩:=Ys p _ m m1 h1;have⟨a2,n2,b2,c2⟩:=Ld r m1 m' h;exact⟨a1.trans a2,n1++n2,by rw[b2,b1,aN],by simp[fx,c1,c2]⟩
theorem lU:∀(os:List (Nat×OP X.ι))(m m':MA X),F9 get os m=some m'->fh m m'/\∃az,m'.dC=m.dC++az/\az.length=(cx os).length
 |[],m,m',h=>by
  simp only[F9,aC]at h;subst h;exact⟨fh.refl _,[],by simp,rfl⟩
 |(k,op)::r,m,m',h=>by
  simp only[F9]at h;rw[aj]at h;obtain⟨o,h1,h⟩:=h;split at h
  ·rename_i c c' l;rw[aj]at h;obtain⟨l',h2,h⟩:=h;obtain⟨a2,n2,b2,c2⟩:=lU r _ m' h;refine⟨fh.trans (fh.trans (b:=⟨m.nm,m.dC++[⟨.sl c,l'⟩],m.f7⟩) ⟨λ _ h=>h,λ_ h=>h⟩ (wK _ _ _)) a2,[⟨.sl c,l'⟩]++n2,?_,by simp[cx,c2]⟩;rw[b2,(iB _ _ _).1,aN]
  ·rename_i kc vc qe pZ l;rw[aj]at h;obtain⟨l',h2,h⟩:=h;obtain⟨a2,n2,b2,c2⟩:=lU r _ m' h;refine⟨fh.trans (fh.trans (b:=⟨m.nm,m.dC++[⟨.mp kc vc,l'⟩],m.f7⟩) ⟨λ _ h=>h,λ_ h=>h⟩ (wK _ _ _)) a2,[⟨.mp kc vc,l'⟩]++n2,?_,by simp[cx,c2]⟩;rw[b2,(iB _ _ _).1,aN]
  ·rename_i sz rows sz' rows';split at h
   ·rw[aj]at h;obtain⟨m1,h2,h⟩:=h;obtain⟨a1,n1,b1,c1⟩:=BB rows _ _ m1 h2;have⟨a2,n2,b2,c2⟩:=lU r m1 m' h;refine⟨((wK m _ _).trans a1).trans a2,n1++n2,?_,by simp[cx,c1,c2]⟩;rw[b2,b1,(iB _ _ _).1,aN]
   ·cases h
  ·cases h
variable {NM:List (Nat×Nat)} {f:Nat->Nat} {dc:Nat->Nat}
theorem Iz:∀(os:List (Nat×OP X.ι))(m m':MA X),F9 get os m=some m'->(∀ q∈m'.nm,q∈NM)->∃az,m'.dC=m.dC++az/\∀an,∀k∈os.map (·.1),∃k' o,(k',k)∈NM/\get k'=some o/\∀c l,o= .cY c l->(k,List.length l)∈lens os (az++an)
 |[],m,m',h,_=>by
  simp only[F9,aC]at h;subst h;exact⟨[],by simp,λan k hk=>by simp at hk⟩
 |(k,op)::r,m,m',h,hn=>by
  simp only[F9]at h;rw[aj]at h;obtain⟨o,h1,h⟩:=h;split at h
  ·rename_i c c' l;rw[aj]at h;obtain⟨l',h2,h⟩:=h;have hm:=(lU r _ m' h).1;obtain⟨n2,b2,c2⟩:=Iz r _ m' h hn;refine⟨[⟨.sl c,l'⟩]++n2,by rw[b2,(iB _ _ _).1,aN],λan j hj=>?_⟩;simp only[aF,aK]at hj;simp only[aN,cons_append,bI,lens];by_cases hjk:j=k
   ·subst hjk;refine⟨_,_,hn _ (hm.1 _ (rf _ _ _)),h1,λc2 l2 he=>?_⟩;injection he with e1 e2;subst e1;have e2:=eq_of_heq e2;subst e2;have:=congrArg List.length (kP h2).2;simp only[length_map]at this;rw[this];exact List.mem_cons_self
   ·rcases hj with rfl |hj
    ·exact(hjk rfl).elim
    ·have⟨k',o',g1,g2,g3⟩:=c2 an j hj;exact⟨k',o',g1,g2,λc l he=>dD _ (g3 c l he)⟩
  ·rename_i kc vc qe pZ l;rw[aj]at h;obtain⟨l',h2,h⟩:=h;have hm:=(lU r _ m' h).1;obtain⟨n2,b2,c2⟩:=Iz r _ m' h hn;refine⟨[⟨.mp kc vc,l'⟩]++n2,by rw[b2,(iB _ _ _).1,aN],λan j hj=>?_⟩;simp only[aF,aK]at hj;simp only[aN,cons_append,bI,lens,List.drop_succ_cons,List.drop_zero];by_cases hjk:j=k
   ·subst hjk;exact⟨_,_,hn _ (hm.1 _ (rf _ _ _)),h1,λc2 l2 he=>by cases he⟩
   ·rcases hj with rfl |hj
    ·exact(hjk rfl).elim
    ·exact c2 an j hj
  ·rename_i sz rows sz' rows';split at h
   ·have⟨m1,h2,h⟩:=aj.1 h;obtain⟨a1,n1,b1,c1⟩:=BB rows _ _ m1 h2;have hm:=(lU r _ m' h).1;obtain⟨n2,b2,c2⟩:=Iz r _ m' h hn;refine⟨n1++n2,by rw[b2,b1,(iB _ _ _).1,aN],λan j hj=>?_⟩;simp only[aF,aK]at hj;have hd:(n1++n2++an).drop (yh rows).length=n2++an:=(by rw[<- c1,aN,List.drop_left]);simp only[lens,hd];by_cases hjk:j=k
    ·subst hjk;exact⟨_,_,hn _ (hm.1 _ (a1.1 _ (rf _ _ _))),h1,λc2 l2 he=>by cases he⟩
    ·rcases hj with rfl |hj
     ·exact(hjk rfl).elim
     ·exact c2 an j hj
   ·cases h
  ·cases h
theorem MR:∀(os:List (Nat×OP X.ι))(L:List (DC X)),((lens os L).map (·.1)).Sublist (os.map (·.1))
 |[],_=>by simp[lens]
 |(k,.l c)::r,L=>by
  simp only[lens];split
  ·exact(MR r _).cons_cons _
  ·exact List.nil_sublist _
 |(k,.m kc vc)::r,L=>by
  simp only[lens];exact(MR r _).cons _
 |(k,.c sz rows)::r,L=>by
  simp only[lens];exact(MR r _).cons _
theorem Qw(hf:∀q∈NM,f q.1=q.2)(ho:∀q∈NM,∀c l,get q.1=some (.cY c l)->dc q.2=l.length):∀(sl:List (Nat×Pt X.ι))(m m':MA X),K9 get env sl m=some m'->(∀ q∈m'.nm,q∈NM)->(∀ c∈m'.f7,c=true)->
 ∃az,m'.dC=m.dC++az/\∃es,(∀ an,OH dc sl (az++an)=es)/\(∀ p∈es,p.1∈sl.map (·.1)/\ip (eQ f (den (env p.1))) (den p.2)/\(∀ j∈bj (env p.1),DN NM j)/\(∀ j∈bj p.2,SN NM j))
 |[],m,m',h,_,_=>by
  simp only[K9,aC]at h;subst h;exact⟨[],by simp,[],λan=>rfl,by simp⟩
 |(t,p)::r,m,m',h,hn,hc=>by
  simp only[K9]at h;have⟨m1,h1,h⟩:=aj.1 h;have hm:=(Ld r m1 m' h).1;obtain⟨n1,a1,d',b1,c1,e1,g1⟩:=afG hf ho p _ m m1 h1 (λ q hq=>hn q (hm.1 q hq)) (λ q hq=>hc q (hm.2 q hq));have⟨n2,a2,es,b2,c2⟩:=Qw hf ho r m1 m' h hn hc;refine⟨n1++n2,by rw[a2,a1,aN],(t,d')::es,λan=>by simp only[OH,aN,b1,b2],λq hq=>?_⟩;rcases aK.1 hq with rfl |hq
  ·exact⟨by simp,c1,e1,g1⟩
  ·have⟨i1,i2⟩:=c2 q hq;exact⟨by simp only[aF,aK];exact .inr i1,i2⟩
theorem ab1{D:Nat->Prop}(f:Nat->Nat):∀rows:List (List Tree),fL D f (aS rows) (aS rows)
 |[]=>trivial
 |r::rs=>by
  refine⟨?_,ab1 f rs⟩
  induction r with
  |nil=>trivial
  |cons y ys ih=>exact⟨⟨by simp[refs],ip.refl _⟩,ih⟩
theorem ab2{a b c d:CT X.ι}{l:List (CT.T X.toSE a×CT.T X.toSE b)}{l':List (CT.T X.toSE c×CT.T X.toSE d)}(h:fZ (.mp a b) (.mp c d) l=some l'):bJ (.map c d l':bk X)=bJ (.map a b l):=by
 have⟨e,h⟩:=lQ h;injection e with e1 e2;subst e1;subst e2;subst h;rfl
theorem ab3{D:Nat->Prop}(f:Nat->Nat){kc vc:CT X.ι}:∀l:List (CT.T X.toSE kc×CT.T X.toSE vc),fL D f (bJ (.map kc vc l:bk X)).rows (bJ (.map kc vc l:bk X)).rows
 |[]=>trivial
 |p::ps=>⟨⟨⟨by simp[Io],by rw[Yc];exact ip.refl _⟩,⟨by simp[Io],by rw[Yc];exact ip.refl _⟩,trivial⟩,ab3 f ps⟩
theorem Ed(hf:∀q∈NM,f q.1=q.2)(ho:∀q∈NM,∀c l,get q.1=some (.cY c l)->dc q.2=l.length):∀(os:List (Nat×OP X.ι))(m m':MA X),F9 get os m=some m'->(∀ q∈m'.nm,q∈NM)->(∀ c∈m'.f7,c=true)->
 ∃az,m'.dC=m.dC++az/\∃xs,(∀ an,dx dc os (az++an)=xs)/\(∀ p∈xs,p.1∈os.map (·.1)/\∃k' o o',p.2=some o'/\(k',p.1)∈NM/\get k'=some o/\(bJ o').sz=(bJ o).sz/\fL (DN NM) f (bJ o).rows (bJ o').rows/\(∀ j∈db o',SN NM j))
 |[],m,m',h,_,_=>by
  simp only[F9,aC]at h;subst h;exact⟨[],by simp,[],λan=>rfl,by simp⟩
 |(k,op)::r,m,m',h,hn,hc=>by
  simp only[F9]at h;rw[aj]at h;obtain⟨o,h1,h⟩:=h;split at h
  ·rename_i c c' l;rw[aj]at h;obtain⟨l',h2,h⟩:=h;have hm:=(lU r _ m' h).1;obtain⟨n2,a2,xs,b2,c2⟩:=Ed hf ho r _ m' h hn hc;refine⟨[⟨.sl c,l'⟩]++n2,by rw[a2,(iB _ _ _).1,aN],(k,some (.cY c l'))::xs,λan=>by simp only[aN,cons_append,bI,dx,b2],λq hq=>?_⟩;rcases aK.1 hq with rfl |hq
   ·refine⟨by simp,_,_,_,rfl,hn _ (hm.1 _ (rf _ _ _)),h1,?_,?_,by simp[db]⟩
    ·simp only[bJ,(kP h2).1]
    ·simp only[bJ,(kP h2).2];exact ab1 f _
   ·have⟨i1,i2⟩:=c2 q hq;exact⟨by simp only[aF,aK];exact .inr i1,i2⟩
  ·rename_i kc vc qe pZ l;rw[aj]at h;obtain⟨l',h2,h⟩:=h;have hm:=(lU r _ m' h).1;obtain⟨n2,a2,xs,b2,c2⟩:=Ed hf ho r _ m' h hn hc;refine⟨[⟨.mp kc vc,l'⟩]++n2,by rw[a2,(iB _ _ _).1,aN],(k,some (.map kc vc l'))::xs,λan=>by simp only[aN,cons_append,bI,dx,b2],λq hq=>?_⟩;rcases aK.1 hq with rfl |hq
   ·refine⟨by simp,_,_,_,rfl,hn _ (hm.1 _ (rf _ _ _)),h1,?_,?_,by simp[db]⟩
    ·rw[ab2 h2]
    ·rw[ab2 h2];exact ab3 f _
   ·have⟨i1,i2⟩:=c2 q hq;exact⟨by simp only[aF,aK];exact .inr i1,i2⟩
  ·rename_i sz rows sz' rows';split at h
   ·rename_i hsz;have⟨m1,h2,h⟩:=aj.1 h;have hm1:=(BB rows _ _ m1 h2).1;have hm:=(lU r _ m' h).1;obtain⟨n1,a1,qs,b1,c1,e1,g1⟩:=U3 hf ho rows _ _ m1 h2 (λ q hq=>hn q (hm.1 q hq)) (λ q hq=>hc q (hm.2 q hq));obtain⟨n2,a2,xs,b2,c2⟩:=Ed hf ho r _ m' h hn hc;refine⟨n1++n2,by rw[a2,a1,(iB _ _ _).1,aN],(k,some (.cells sz qs))::xs,λan=>by simp only[aN,dx,b1,b2],λq hq=>?_⟩;rcases aK.1 hq with rfl |hq
    ·exact⟨by simp,_,_,_,rfl,hn _ (hm.1 _ (hm1.1 _ (rf _ _ _))),h1,hsz,c1,g1⟩
    ·have⟨i1,i2⟩:=c2 q hq;exact⟨by simp only[aF,aK];exact .inr i1,i2⟩
   ·cases h
  ·cases h
theorem akM{d:DV X}(h:SP d=false)(h':d= .undef):False:=by subst h';cases h
theorem Qx{A:Type}{sh:Sh X.ι}{ds:List Nat}{s0 s':cV X}{k:VT (X:=X) sh.vars->Option A}{r:A}(hl0:Low s0)(hx:Ext (· ∈ds) s0 s')(h:OL sh ds s0 s' k=some r):
 ∃v,k v=some r/\Low (encS sh s0 v)/\Ext (· ∈ds) s0 (encS sh s0 v)/\∀(P:Program) (w0:World) (O0:gi) (N:Nat) (β:Nat->Option cA) (I:Nat->Prop) (a:Act) (w:World),Rel P w0 O0 N β I s'.st a w->∃ β',Rel P w0 O0 N β' I (encS sh s0 v).st a w:=by
 unfold OL at h;have⟨m1,h1,h⟩:=aj.1 h;have⟨m,h2,h⟩:=aj.1 h;have⟨h3,h⟩:=dN h;have⟨v,h4,h⟩:=aj.1 h;have⟨h5,h6⟩:=pV h;simp only[Su,aD,aG]at h3;obtain⟨⟨⟨⟨⟨⟨⟨⟨n1,n2⟩,n3⟩,n4⟩,n5⟩,n6⟩,n7⟩,n8⟩,n9⟩:=h3;have hm2:=(lU _ _ _ h2).1;have rx:=XZ h4;obtain⟨_,nA,dA,lA⟩:=Ld _ _ _ h1;simp only[bI]at dA;have Kp:(m.nm.map (·.1)).Nodup:=(List.nodup_append.1 n1).1;have Kf:(m.nm.map (·.2)).Nodup:=(List.nodup_append.1 n2).1;have hsw:((m.nm.map λq=>(q.2,q.1)).map (·.1)).Nodup:=by rw[map_map];exact Kf
 generalize hf':(λ j=>match lk m.nm j with |some q=>q |none=>j:Nat->Nat)=f;generalize hg':(λ j=>match lk (m.nm.map λq=>(q.2,q.1)) j with |some q=>q |none=>j:Nat->Nat)=g;have hf:∀q∈m.nm,f q.1=q.2:=by
  rintro⟨p,q⟩ hq;rw[<- hf'];simp only[wG Kp hq]
 have hg:∀q∈m.nm,g q.2=q.1:=by
  rintro⟨p,q⟩ hq;rw[<- hg'];have:(q,p)∈m.nm.map λq=>(q.2,q.1):=mem_map.2 ⟨(p,q),hq,rfl⟩;simp only[wG hsw this]
 have kw:∀j∈sh.cS,f j=j:=by
  intro j hj;rw[<- hf'];cases hh:lk m.nm j with
  |none=>simp[hh]
  |some q=>exact((List.nodup_append.1 n1).2.2 j (mem_map.2 ⟨(j,q),sQ hh,rfl⟩) j hj rfl).elim
 have hgk:∀j∈sh.cS,g j=j:=by
  intro j hj;rw[<- hg'];cases hh:lk (m.nm.map λq=>(q.2,q.1)) j with
  |none=>simp[hh]
  |some q=>
   have h1:=sQ hh;simp only[mem_map]at h1;obtain⟨z,hz,e⟩:=h1;injection e with e1 e2;exact((List.nodup_append.1 n2).2.2 j (mem_map.2 ⟨z,hz,e1⟩) j hj rfl).elim
 have hg0:∀j,j<1000->g j=j:=by
  intro j hj;rw[<- hg'];cases hh:lk (m.nm.map λq=>(q.2,q.1)) j with
  |none=>simp[hh]
  |some q=>
   have h1:=sQ hh;simp only[mem_map]at h1;obtain⟨z,hz,e⟩:=h1;injection e with e1 e2;have:=all_eq_true.1 n4 z hz;simp only[aD,Bool.or_eq_true,aG]at this;simp only[hh];omega
 have hgf:∀j,(DN m.nm j\/j∈sh.cS)->g (f j)=j:=by
  rintro j (⟨q,hq⟩ |hj)
  ·rw[hf _ hq];exact hg _ hq
  ·rw[kw j hj];exact hgk j hj
 obtain⟨nB,dB,lB⟩:=Iz (NM:=m.nm) _ _ _ h2 (λ q hq=>hq);have hL:m.dC=nA++nB:=by rw[dB,dA]
 have hdrop:(yj sh.vars v).drop (fx sh.slots).length=nB:=by rw[rx,hL,<- lA,List.drop_left]
 have htake:(yj sh.vars v).take (fx sh.slots).length=nA:=by rw[rx,hL,<- lA,List.take_left]
 generalize hol:(λ k=>(lk (lens sh.cw nB) k).getD 0:Nat->Nat)=dc;have ho:∀q∈m.nm,∀c l,eE s'.obj q.1=some (.cY c l)->dc q.2=l.length:=by
  rintro⟨p,q⟩ hq c l hl;have hqk:=all_eq_true.1 n4 _ hq;simp only[aD]at hqk;obtain⟨p',o,g1,g2,g3⟩:=lB [] q (by simpa using hqk.1.1);have:p'=p:=by
   have e1:=hg _ g1;have e2:=hg _ hq;simp only at e1 e2;rw[<- e1,e2]
  subst this;simp only at hl;rw[hl]at g2;injection g2 with g2;have h3:=g3 c l g2.symm;rw[append_nil]at h3;rw[<- hol];have hk:=(MR sh.cw nB).nodup n3;simp only[wG hk h3,Option.getD_some]
 obtain⟨IR,D4,es,eA,pA⟩:=Qw (NM:=m.nm) (f:=f) (dc:=dc) hf ho _ _ _ h1 (λ q hq=>hm2.1 q hq) (λ c hc=>h5 c (hm2.2 c hc));obtain⟨IP,L3,xs,eB,pB⟩:=Ed (NM:=m.nm) (f:=f) (dc:=dc) hf ho _ _ _ h2 (λ q hq=>hq) h5;have LS:IR=nA:=by simp only[bI]at D4;rw[<- D4,dA]
 have LR:IP=nB:=List.append_cancel_left (L3.symm.trans dB);subst LS LR;have DS:=eA [];have DQ:=eB [];rw[append_nil]at DS DQ;have hS:encS sh s0 v=⟨es++sh.keep.map (λ t=>(t,d5 s0.env t)),xs++sh.cS.map (λ k=>(k,eE s0.obj k)),sh.nx,(List.range s0.nx).filter (λ k=>!sh.cS.contains k)++s0.log⟩:=by simp only[encS,hdrop,htake,hol,DS,DQ]
 have hsn:∀j,SN m.nm j->j<sh.nx:=by
  rintro j ⟨p,hp⟩;have:=all_eq_true.1 n4 _ hp;simp only[aD,aG]at this;exact this.1.2
 have kp:∀j,(sh.cS.contains j || m.nm.contains (j,j))=true->j∈sh.cS\/(j,j)∈m.nm:=by
  intro j hj;simpa using hj
 have hfp:∀j,j∈sh.cS\/(j,j)∈m.nm->f j=j:=λj hj=>hj.elim (kw j) (λ h=>hf (j,j) h);have hdp:∀j,j∈sh.cS\/(j,j)∈m.nm->DN m.nm j\/j∈sh.cS:=λj hj=>hj.elim .inr (λ h=> .inl ⟨j,h⟩);have hko:∀j∈sh.cS,j<s0.nx/\(∃ o,eE s0.obj j=some o/\eE s'.obj j=some o/\∀i∈db o,i∈sh.cS\/(i,i)∈m.nm):=by
  intro j hj;have:=all_eq_true.1 n7 _ hj;simp only[aD,aG,Bool.not_eq_true']at this;obtain⟨⟨⟨a1,a2⟩,a3⟩,a4⟩:=this;refine⟨a1,?_⟩;cases ho0:eE s0.obj j with
  |none=>rw[ho0]at a4;cases a4
  |some o=>
   rw[ho0]at a4;refine⟨o,rfl,?_,λi hi=>kp i (all_eq_true.1 a4 i hi)⟩;obtain⟨d,hd,hd2⟩:=hx.obj;have hnd:j∉d:=by
    have e:s'.log.take (s'.log.length -s0.log.length)=d:=(by rw[hd,bW,Nat.add_sub_cancel,List.take_left]);rw[e]at a2;simpa using a2
   rcases hd2 j a1 hnd with h |h
   ·rw[h,ho0]
   ·rw[h]at a3;cases a3
 have hke:∀t∈sh.keep,t∉ds/\d5 s'.env t=d5 s0.env t/\∀j∈bj (d5 s0.env t),j∈sh.cS\/(j,j)∈m.nm:=by
  intro t ht;have:=all_eq_true.1 n6 _ ht;simp only[aD,Bool.not_eq_true']at this;obtain⟨⟨a1,a2⟩,a3⟩:=this;have a1':t∉ds:=by simpa using a1
  refine⟨a1',?_,λj hj=>kp j (all_eq_true.1 a3 j hj)⟩;rcases hx.env t a1' with h |h
  ·exact h
  ·exact(akM a2 h).elim
 have hks:∀q∈es,q.1∈ds:=by
  intro q hq;have h1:=(pA q hq).1;obtain⟨z,hz,e⟩:=mem_map.1 h1;have:=all_eq_true.1 n5 _ hz;rw[<- e];simpa using this
 have hkeep:∀t,lk (sh.keep.map λt=>(t,d5 s0.env t)) t=if t∈sh.keep then some (d5 s0.env t)else none:=by
  intro t
  induction sh.keep with
  |nil=>simp[lk]
  |cons q qs ih=>
   simp only[aF,lk,ih,aK];by_cases e:q=t
   ·subst e;simp
   ·rw[aM e];simp[Ne.symm e]
 have wc:∀t,lk (sh.cS.map λt=>(t,eE s0.obj t)) t=if t∈sh.cS then some (eE s0.obj t)else none:=by
  intro t
  induction sh.cS with
  |nil=>simp[lk]
  |cons q qs ih=>
   simp only[aF,lk,ih,aK];by_cases e:q=t
   ·subst e;simp
   ·rw[aM e];simp[Ne.symm e]
 have m8:∀t,(∃ d,(t,d)∈es/\d5 (encS sh s0 v).env t=d)\/(t∈sh.keep/\d5 (encS sh s0 v).env t=d5 s0.env t)\/d5 (encS sh s0 v).env t= .undef:=by
  intro t;have e1:d5 (encS sh s0 v).env t=(match lk es t with |some d=>some d |none=>if t∈sh.keep then some (d5 s0.env t)else none).getD .undef:=by
   rw[hS];show(lk (es++sh.keep.map (λ t=>(t,d5 s0.env t))) t).getD .undef=_;rw[Gg,hkeep t];cases lk es t<;>rfl
  rw[e1];cases he:lk es t with
  |some d=>exact .inl ⟨d,sQ he,rfl⟩
  |none=>
   by_cases ht:t∈sh.keep
   ·simp only[aP ht];exact .inr (.inl ⟨ht,rfl⟩)
   ·simp only[aM ht];exact .inr (.inr rfl)
 have f6:∀j o,eE (encS sh s0 v).obj j=some o->(∃ k' o1,(k',j)∈m.nm/\eE s'.obj k'=some o1/\(bJ o).sz=(bJ o1).sz/\fL (DN m.nm) f (bJ o1).rows (bJ o).rows/\(∀ i∈db o,SN m.nm i))\/(j∈sh.cS/\eE s0.obj j=some o):=by
  intro j o hjo;have e1:eE (encS sh s0 v).obj j=(match lk xs j with |some d=>some d |none=>if j∈sh.cS then some (eE s0.obj j)else none).join:=by
   rw[hS];show(lk (xs++sh.cS.map (λ k=>(k,eE s0.obj k))) j).join=_;rw[Gg,wc j];cases lk xs j<;>rfl
  rw[e1]at hjo;cases he:lk xs j with
  |some x=>
   rw[he]at hjo;obtain⟨_,k',o1,o',b1,b2,b3,b4,b5,b6⟩:=pB _ (sQ he);simp only at b1 b2 hjo;subst b1;simp only[Option.join_some,aC]at hjo;subst hjo;exact .inl ⟨k',o1,b2,b3,b4,b5,b6⟩
  |none=>
   rw[he]at hjo;by_cases hj:j∈sh.cS
   ·simp only[aP hj,Option.join_some]at hjo;exact .inr ⟨hj,hjo⟩
   ·simp[aM hj]at hjo
 have hnx:s0.nx<=sh.nx:=n8;have hkx:∀j,j∈sh.cS\/(j,j)∈m.nm->j<sh.nx:=λj hj=>hj.elim (λ hj=>Nat.lt_of_lt_of_le (hko j hj).1 hnx) (λ h=>hsn j ⟨j,h⟩);have hRW:∀{r q:List AV},ju (DN m.nm) f r q->ju (λ j=>DN m.nm j\/j∈sh.cS) f r q:=by
  intro r
  induction r with
  |nil=>intro q h;cases q with
   |nil=>trivial
   |cons=>exact h.elim
  |cons x xs ih=>intro q h;cases q with
   |nil=>exact h.elim
   |cons y ys=>exact⟨⟨λ k hk=> .inl (h.1.1 k hk),h.1.2⟩,ih h.2⟩
 have Lk:∀{r q:List (List AV)},fL (DN m.nm) f r q->fL (λ j=>DN m.nm j\/j∈sh.cS) f r q:=by
  intro r
  induction r with
  |nil=>intro q h;cases q with
   |nil=>trivial
   |cons=>exact h.elim
  |cons x xs ih=>intro q h;cases q with
   |nil=>exact h.elim
   |cons y ys=>exact⟨hRW h.1,ih h.2⟩
 refine⟨v,h6,?_,?_,?_⟩
 ·constructor
  ·rw[hS];exact n9
  ·rw[hS];exact Nat.le_trans hl0.ge n8
  ·intro t j hj;have vA:(encS sh s0 v).nx=sh.nx:=(by rw[hS]);rw[vA];rcases m8 t with ⟨d,h1,h2⟩ |⟨h1,h2⟩ |h2
   ·rw[h2]at hj;exact hsn j ((pA _ h1).2.2.2 j hj)
   ·rw[h2]at hj;exact hkx j ((hke t h1).2.2 j hj)
   ·rw[h2]at hj;simp[bj]at hj
  ·intro j o hjo;have vA:(encS sh s0 v).nx=sh.nx:=(by rw[hS]);rw[vA];rcases f6 j o hjo with ⟨k',o1,b1,b2,b3,b4,b5⟩ |⟨b1,b2⟩
   ·exact⟨hsn j ⟨k',b1⟩,λi hi=>hsn i (b5 i hi)⟩
   ·have⟨c1,o',c2,c3,c4⟩:=hko j b1;rw[b2]at c2;cases c2;exact⟨hkx j (.inl b1),λi hi=>hkx i (c4 i hi)⟩
 ·refine⟨λ t ht=>?_,⟨(List.range s0.nx).filter (λ k=>!sh.cS.contains k),by rw[hS],λj hj hn=>?_⟩,by rw[hS];exact hnx⟩
  ·rcases m8 t with ⟨d,h1,h2⟩ |⟨h1,h2⟩ |h2
   ·exact(ht (hks _ h1)).elim
   ·exact .inl h2
   ·exact .inr h2
  ·have hjk:j∈sh.cS:=(by simpa[hj]using hn);cases hjo:eE (encS sh s0 v).obj j with
   |none=>exact .inr rfl
   |some o=>
    rcases f6 j o hjo with ⟨k',o1,b1,_⟩ |⟨b1,b2⟩
    ·exact((List.nodup_append.1 n2).2.2 j (mem_map.2 ⟨(k',j),b1,rfl⟩) j hjk rfl).elim
    ·exact .inl b2.symm
 ·intro P w0 O0 N β I a w hr;refine⟨_,Rel.re (f:=f) (g:=g) (D:=λj=>DN m.nm j\/j∈sh.cS) hgf hg0 hr (λ _=> .inl rfl) (λ _=>rfl) (λ t=>?_) (λ j o' hj=>?_)⟩
  ·show den (d5 (encS sh s0 v).env t)= .undef\/((∀ k∈refs (den (d5 s'.env t)),_)/\ip (eQ f (den (d5 s'.env t))) (den (d5 (encS sh s0 v).env t)));rcases m8 t with ⟨d,h1,h2⟩ |⟨h1,h2⟩ |h2
   ·right;rw[h2];obtain⟨_,b1,b2,_⟩:=pA _ h1;exact⟨λ k hk=> .inl (b2 k (by rwa [iZ]at hk)),b1⟩
   ·right;have⟨_,b1,b2⟩:=hke t h1;rw[h2,b1];refine⟨λ k hk=>hdp k (b2 k (by rwa [iZ]at hk)),?_⟩;rw[<- Ea,Yp _ (λ k hk=>hfp k (b2 k hk))];exact ip.refl _
   ·left;rw[h2];rfl
  ·simp only[cV.st,fq]at hj;obtain⟨o,hjo,rfl⟩:=hj;rcases f6 j o hjo with ⟨k',o1,b1,b2,b3,b4,b5⟩ |⟨b1,b2⟩
   ·exact⟨k',bJ o1,by simp[cV.st,b2],.inl ⟨j,b1⟩,hf _ b1,b3,Lk b4⟩
   ·have⟨c1,o',c2,c3,c4⟩:=hko j b1;rw[b2]at c2;cases c2;have hid:lf f o=o:=by
     cases o with
     |cY c l=>rfl
     |map kc vc l=>rfl
     |cells sz rows=>
      simp only[lf];congr 1;have:∀q∈rows,Nn f q=q:=λq hq=>Ec q λi hi=>hfp i (c4 i (by
       simp only[db,List.mem_flatten,mem_map];exact⟨_,⟨q,hq,rfl⟩,hi⟩))
      rw[map_congr_left this];simp
    obtain⟨r1,r2⟩:=MQ (D:=λj=>DN m.nm j\/j∈sh.cS) f o (λ i hi=>hdp i (c4 i hi));rw[hid]at r1 r2;exact⟨j,bJ o,by simp[cV.st,c3],.inr b1,kw j b1,r1,r2⟩
theorem Ext.trans{ds:Nat->Prop}{a b c:cV X}(h:Ext ds a b)(h':Ext ds b c):Ext ds a c:=by
 refine⟨λ t ht=>?_,?_,Nat.le_trans h.nx h'.nx⟩
 ·rcases h'.env t ht with h1 |h1
  ·rcases h.env t ht with h2 |h2
   ·exact .inl (h1.trans h2)
   ·exact .inr (h1.trans h2)
  ·exact .inr h1
 ·obtain⟨d,h1,h2⟩:=h.obj;obtain⟨d',h3,h4⟩:=h'.obj;refine⟨d'++d,by rw[h3,h1,aN],λk hk hn=>?_⟩;simp only[bf,not_or]at hn;rcases h4 k (Nat.lt_of_lt_of_le hk h.nx) hn.1 with h5 |h5
  ·rcases h2 k hk hn.2 with h6 |h6
   ·exact .inl (h5.trans h6)
   ·exact .inr (h5.trans h6)
  ·exact .inr h5
theorem Ext.refl(ds:Nat->Prop)(s:cV X):Ext ds s s:=⟨λ _ _=> .inl rfl,⟨[],by simp,λ_ _ _=> .inl rfl⟩,aT _⟩
def Says(s s':cV X):Prop:=∀(P:Program) (w0:World) (O0:gi) (N:Nat) (β:Nat->Option cA) (I:Nat->Prop) (a:Act) (w:World),Rel P w0 O0 N β I s.st a w->∃ β',Rel P w0 O0 N β' I s'.st a w
theorem Low.room{s:cV X}{P:Program}{w0:World}{O0:gi}{N:Nat}{β:Nat->Option cA}{I:Nat->Prop}{a:Act}{w:World}(hl:Low s)(hr:Rel P w0 O0 N β I s.st a w):∃ β2,β2 s.nx=none/\Rel P w0 O0 N β2 I s.st a w:=by
 have hr1:=hr.restrict hl.old
 have hr2:=Rel.re (f:=id) (g:=λj=>if j<s.nx then j else 1000000) (D:=(· <s.nx)) (s':=s.st) (λ k hk=>aP hk) (λ j hj=>aP (by have:=hl.ge;omega)) hr1 (λ _=> .inl rfl) (λ _=>rfl)
  (λ q=> .inr ⟨λ k hk=>hl.env q k (by rw[<- iZ];exact hk),by
   show ip (eQ id (den (d5 s.env q))) (den (d5 s.env q));rw[<- Ea,Yp (f:=id) _ (λ _ _=>rfl)];exact ip.refl _⟩)
  (λ j o' hj=>by
   simp only[cV.st,fq]at hj;obtain⟨x,hx,rfl⟩:=hj;have⟨h1,h2⟩:=hl.obj j x hx;have⟨r1,r2⟩:=MQ (D:=(· <s.nx)) id x h2;have hid:lf id x=x:=by
    cases x with
    |cY c l=>rfl
    |map kc vc l=>rfl
    |cells sz rows=>
     simp only[lf];congr 1;have:∀q∈rows,Nn id q=q:=λq _=>Ec (f:=id) q λ_ _=>rfl;rw[map_congr_left this];simp
   rw[hid]at r1 r2;exact⟨j,bJ x,by simp[cV.st,hx],h1,rfl,r1,r2⟩)
 exact⟨_,by simp,hr2⟩
theorem ahT{ds:List Nat}{s:cV X}{t:Nat}{c:CT X.ι}(hl:Low s)(ht:t∈ds):Low (uA s t c)/\Ext (· ∈ds) s (uA s t c)/\Says s (uA s t c):=by
 unfold uA;split
 ·rename_i hn;split
  ·rename_i hlt;have he:∀q,d5 ((t,.own s.nx 0 0)::s.env) q=if t=q then .own s.nx 0 0 else d5 s.env q:=λq=>by
    simp only[d5,lk];by_cases e:t=q<;>simp[e]
   have hO:∀q,eE ((s.nx,some (.cY c []))::s.obj) q=if s.nx=q then some (.cY c [])else eE s.obj q:=λq=>by
    simp only[eE,lk];by_cases e:s.nx=q<;>simp[e]
   refine⟨⟨by show s.nx+1<=1000000;omega,by have:=hl.ge;show 1000<=s.nx+1;omega,λq k hk=>?_,λk o ho=>?_⟩,⟨λ q hq=>?_,⟨[s.nx],rfl,λk hk hnk=>?_⟩,by show s.nx<=s.nx+1;omega⟩,λP w0 O0 N β I a w hr=>?_⟩
   ·rw[he]at hk;split at hk
    ·simp only[bj,aW]at hk;subst hk;show s.nx<s.nx+1;omega
    ·have:=hl.env q k hk;show k<s.nx+1;omega
   ·rw[hO]at ho;split at ho
    ·rename_i e;cases ho;subst e;exact⟨by show s.nx<s.nx+1;omega,by simp[db]⟩
    ·have⟨h1,h2⟩:=hl.obj k o ho;exact⟨by show k<s.nx+1;omega,λj hj=>by have:=h2 j hj;show j<s.nx+1;omega⟩
   ·left;rw[he,aM];intro e;subst e;exact hq ht
   ·left;rw[hO,aM (by omega)]
   ·have⟨β2,zE,hr2⟩:=hl.room hr;have⟨hS,hM⟩:=Mem.lO (i:=s.nx) (o:=bJ (.cY c []:bk X)) hr2.mem zE rfl;refine⟨ins β2 s.nx .none,hr2.defers,hr2.size,λq=>?_,?_⟩
    ·have h1:=hr2.env q;show ee P _ w I (den (d5 ((t,.own s.nx 0 0)::s.env) q)) none _;rw[he];by_cases e:t=q
     ·subst e;rw[aP rfl];have h2:VR P _ w I (den (d5 s.env t)) (a.tmps.getD t undef):=h1;rw[hn]at h2;simp only[den,VR]at h2;simp only[ee,den,VR];exact .inl ⟨by simp[ins],h2,trivial,trivial⟩
     ·rw[aM e];exact ee.mono hS.ext hS.same hS.inc h1
    ·have e:(λ k=>(eE ((s.nx,some (.cY c []))::s.obj) k).map bJ)=cZ s.st.obj [(s.nx,some (bJ (.cY c []:bk X)))]:=by
      funext q;simp only[cZ,cV.st];rw[hO];by_cases e:s.nx=q
      ·simp[e]
      ·rw[aM e,aM (Ne.symm e)]
     show Mem P w0 O0 _ I (λ k=>(eE ((s.nx,some (.cY c []))::s.obj) k).map bJ) w;rw[e];exact hM
  ·exact⟨hl,Ext.refl _ s,λ_ _ _ _ β _ _ _ h=>⟨β,h⟩⟩
 ·exact⟨hl,Ext.refl _ s,λ_ _ _ _ β _ _ _ h=>⟨β,h⟩⟩
theorem Yt(y:DV X):∀(l:List (DV X))(j i:Nat),i∈aV (l.set j y)->i∈aV l\/i∈bj y
 |[],_,_,h=> .inl (by simpa using h)
 |x::l,0,i,h=>by
  simp only[List.set,aV,bf]at h ⊢;rcases h with h |h
  ·exact .inr h
  ·exact .inl (.inr h)
 |x::l,j+1,i,h=>by
  simp only[List.set,aV,bf]at h ⊢;rcases h with h |h
  ·exact .inl (.inl h)
  ·rcases Yt y l j i h with h |h
   ·exact .inl (.inr h)
   ·exact .inr h
theorem be.set{P:Program}{β:Nat->Option cA}{w:World}{I:Nat->Prop}{y:AV}:∀(xs:List AV)(vs:List Value)(j:Nat),(∀ x v,xs[j]? =some x->VR P β w I x v->VR P β w I y v)->be P β w I xs vs->be P β w I (xs.set j y) vs
 |[],vs,_,_,h=>by simpa using h
 |x::xs,[],_,_,h=>by simp[be]at h
 |x::xs,v::vs,0,hy,h=>by simp only[be,List.set]at h ⊢;exact⟨hy x v rfl h.1,h.2⟩
 |x::xs,v::vs,j+1,hy,h=>by simp only[be,List.set]at h ⊢;exact⟨h.1,be.set xs vs j (λ x v e=>hy x v (by simpa using e)) h.2⟩
theorem OR.set1{P:Program}{β:Nat->Option cA}{w:World}{I:Nat->Prop}{sz:Nat}{row:List AV}{j:Nat}{y:AV}{B:cA}(hy:∀x v,row[j]? =some x->VR P β w I x v->VR P β w I y v)(h:OR P β w I ⟨sz,[row]⟩ B):OR P β w I ⟨sz,[row.set j y]⟩ B:=by
 cases B with
 |none=>simp[OR]at h
 | «at» b s n=>
  obtain⟨h1,c,e,h2,h3,h4⟩:=h;refine⟨h1,c,e,h2,h3,?_⟩;simp only[bo,List.length_set]at h4 ⊢;refine⟨h4.1,?_,trivial⟩;rw[kU]at h4 ⊢;intro i x hx;rw[List.getElem?_set]at hx;split at hx
  ·rename_i e;subst e;split at hx
   ·cases hx;rename_i hlt;obtain⟨v,g1,g2,g3⟩:=h4.2.1 j _ (dI hlt);exact⟨v,g1,hy _ v (dI hlt) g2,g3⟩
   ·cases hx
  ·exact h4.2.1 i x hx
 |mp b=>
  obtain⟨es,cl,h1,hle,h2,h3⟩:=h;refine⟨es,cl,h1,hle,λe=>?_,h3⟩;have:=h2 e
  match hes:es.toList,this with
  |[e1],this=>simp only[co]at this ⊢;exact⟨be.set _ _ j hy this.1,trivial⟩
  |[],this=>simp[co]at this
  |_::_::_,this=>simp[co]at this
theorem afH(y:DV X):∀(l:List (DV X))(j:Nat),bM (l.set j y)=(bM l).set j (den y)
 |[],_=>by simp[bM]
 |x::l,0=>by simp[bM]
 |x::l,j+1=>by simp[bM,afH y l j]
theorem ahU{ds:List Nat}{s:cV X}{q j:Nat}{c:CT X.ι}(hl:Low s):Low (ux s q j c)/\Ext (· ∈ds) s (ux s q j c)/\Says s (ux s q j c):=by
 unfold ux;split
 ·rename_i sz row hq;split
  ·rename_i hn;split
   ·rename_i hlt;have SZ:q<s.nx:=(hl.obj q _ hq).1;have hrefs:∀k∈aV row,k<s.nx:=λk hk=>(hl.obj q _ hq).2 k (by simpa[db]using hk);have hO:∀k,eE ((q,some (.cells sz [row.set j (.own s.nx 0 0)]))::(s.nx,some (.cY c []))::s.obj) k=if q=k then some (.cells sz [row.set j (.own s.nx 0 0)])else if s.nx=k then some (.cY c [])else eE s.obj k:=λk=>by
     simp only[eE,lk];by_cases e:q=k
     ·simp[e]
     ·by_cases e':s.nx=k<;>simp[e,e']
    refine⟨⟨by show s.nx+1<=1000000;omega,by have:=hl.ge;show 1000<=s.nx+1;omega,λk i hk=>by have:=hl.env k i hk;show i<s.nx+1;omega,λk o ho=>?_⟩,⟨λ _ _=> .inl rfl,⟨[q,s.nx],rfl,λk hk hnk=>?_⟩,by show s.nx<=s.nx+1;omega⟩,λP w0 O0 N β I a w hr=>?_⟩
    ·rw[hO]at ho;split at ho
     ·rename_i e;cases ho;subst e;refine⟨by show q<s.nx+1;omega,λi hi=>?_⟩;show i<s.nx+1;simp only[db,aF,map_nil,flatten_cons,List.flatten_nil,append_nil]at hi;rcases Yt _ _ _ _ hi with h1 |h1
      ·have:=hrefs i h1;omega
      ·simp only[bj,aW]at h1;omega
     ·split at ho
      ·rename_i e;cases ho;subst e;exact⟨by show s.nx<s.nx+1;omega,by simp[db]⟩
      ·have⟨h1,h2⟩:=hl.obj k o ho;exact⟨by show k<s.nx+1;omega,λi hi=>by have:=h2 i hi;show i<s.nx+1;omega⟩
    ·left;simp only[aK,iw,or_false,not_or]at hnk;rw[hO,aM (Ne.symm hnk.1),aM (Ne.symm hnk.2)]
    ·have⟨β2,zE,hr2⟩:=hl.room hr;have⟨hS,hM⟩:=Mem.lO (i:=s.nx) (o:=bJ (.cY c []:bk X)) hr2.mem zE rfl;refine⟨ins β2 s.nx .none,hr2.defers,hr2.size,λk=>ee.mono hS.ext hS.same hS.inc (hr2.env k),?_⟩;refine hM.weak λk o' ho=>?_;simp only[cV.st]at ho;rw[hO]at ho;by_cases e:q=k
     ·subst e;rw[aP rfl,Option.map_some]at ho;cases ho;refine⟨bJ (.cells sz [row]),by simp only[cZ];rw[aM (by omega)];simp[cV.st,hq],λB _ hB=>?_⟩;simp only[bJ,aF,map_nil,afH]at hB ⊢;refine OR.set1 (λ x v hx hv=>?_) hB;rw[nQ,List.getElem?_map,hn]at hx;cases hx;simp only[den,VR]at hv ⊢;exact .inl ⟨by simp[ins],hv,trivial,trivial⟩
     ·rw[aM e]at ho;refine⟨o',?_,λ_ _ h=>h⟩;simp only[cZ];by_cases e':s.nx=k
      ·subst e';rw[aP rfl]at ho ⊢;simpa using ho
      ·rw[aM e']at ho;rw[aM (Ne.symm e')];exact ho
   ·exact⟨hl,Ext.refl _ s,λ_ _ _ _ β _ _ _ h=>⟨β,h⟩⟩
  ·exact⟨hl,Ext.refl _ s,λ_ _ _ _ β _ _ _ h=>⟨β,h⟩⟩
 ·exact⟨hl,Ext.refl _ s,λ_ _ _ _ β _ _ _ h=>⟨β,h⟩⟩
theorem Qy{ds:List Nat}:∀(l:List (Nat×CT X.ι)){s:cV X},Low s->(∀ p∈l,p.1∈ds\/1000000<=p.1)->Low (Yr l s)/\Ext (· ∈ds) s (Yr l s)/\Says s (Yr l s)
 |[],s,hl,_=>⟨hl,Ext.refl _ s,λ_ _ _ _ β _ _ _ h=>⟨β,h⟩⟩
 |(t,c)::r,s,hl,hd=>by
  have h0:Low (bif Nat.ble 1000000 t then ux s ((t -1000000)/4096) ((t -1000000)%4096) c else uA s t c)/\Ext (· ∈ds) s (bif Nat.ble 1000000 t then ux s ((t -1000000)/4096) ((t -1000000)%4096) c else uA s t c)/\Says s (bif Nat.ble 1000000 t then ux s ((t -1000000)/4096) ((t -1000000)%4096) c else uA s t c):=by
   cases hb:Nat.ble 1000000 t with
   |true=>exact ahU hl
   |false=>exact ahT hl ((hd (t,c) (by simp)).resolve_right λh=>by rw[Nat.ble_eq_true_of_le h]at hb;cases hb)
  obtain⟨h1,h2,h3⟩:=h0;obtain⟨g1,g2,g3⟩:=Qy r h1 (λ p hp=>hd p (by simp[hp]));refine⟨g1,h2.trans g2,λP w0 O0 N β I a w hr=>?_⟩;have⟨β',hr'⟩:=h3 P w0 O0 N β I a w hr;exact g3 P w0 O0 N β' I a w hr'
theorem ng{A:Type}{sh:Sh X.ι}{ds:List Nat}{s0 s':cV X}{k:VT (X:=X) sh.vars->Option A}{r:A}(hl0:Low s0)(hl':Low s')(hx:Ext (· ∈ds) s0 s')(h:wJ sh ds s0 s' k=some r):
 ∃v,k v=some r/\Low (encS sh s0 v)/\Ext (· ∈ds) s0 (encS sh s0 v)/\Says s' (encS sh s0 v):=by
 unfold wJ at h;have⟨h1,h2⟩:=dN h;obtain⟨g1,g2,g3⟩:=Qy (ds:=ds) sh.vm hl' (λ p hp=>by simpa using all_eq_true.1 h1 p hp);have⟨v,i1,i2,i3,i4⟩:=Qx hl0 (hx.trans g2) h2;refine⟨v,i1,i2,i3,λP w0 O0 N β I a w hr=>?_⟩;have⟨β',hr'⟩:=g3 P w0 O0 N β I a w hr;exact i4 P w0 O0 N β' I a w hr'
end
def gM:Code->List Nat
 | .region _ ao _=>ao.toList.filterMap (·.dst)
 | .seq a b=>gM a++gM b
 | .cond _ a b=>gM a++gM b
 | .block _ b=>gM b
 | .loop b=>gM b
 |_=>[]
section
variable {X:SX}
section
variable {P:Program} {N:Nat}
def N7{A:Type}(ds:List Nat)(s:cV X)(k:Exit->cV X->Option A)(r:A)(e:Exit)(σ:St):Prop:=∃s',Low s'/\Ext (· ∈ds) s s'/\σ=s'.st/\k e s'=some r
theorem X2{c:Code}{Q Q':Exit->St->Prop}{σ:St}(h:Ev P N c Q σ)(ht:∀e σ,Q e σ->∀w0 O0 β I a w,Rel P w0 O0 N β I σ a w->∃ β' σ',Rel P w0 O0 N β' I σ' a w/\pS σ'/\Q' e σ'):Ev P N c Q' σ:=by
 intro w0 O0 β I a w hr ho;refine wp_mono (h w0 O0 β I a w hr ho) ?_;rintro e a' w' ⟨β',I',σ',h1,_,h3⟩;have⟨β2,σ2,g1,g2,g3⟩:=ht e σ' h3 w0 O0 β' I' a' w' h1;exact⟨β2,I',σ2,g1,g2,g3⟩
end
end
inductive Hn(ι:Type) where
 |z
 |f (l:List Nat)
 |s (a b:Hn ι)
 |b (a:Hn ι)
 |j (sh:Sh ι) (a:Hn ι)
 |jx (sh:Sh ι) (a:Hn ι)
 |l (head:Sh ι) (id:Nat) (aa:Sh ι) (a:Hn ι)
 |lx (head:Sh ι) (id:Nat) (aa:Sh ι) (a:Hn ι)
 |rg (head:Sh ι) (a:Hn ι)
 |un (a r:Hn ι)
def Hn.fz{ι:Type}:Hn ι->List Nat
 | .f is=>is
 |_=>[]
def Hn.fst{ι:Type}:Hn ι->Hn ι
 | .s a _=>a
 |_=> .z
def Hn.snd{ι:Type}:Hn ι->Hn ι
 | .s _ y=>y
 |_=> .z
def Hn.sub{ι:Type}:Hn ι->Hn ι
 | .b a=>a
 |_=> .z
def iter{V O:Type}(step:V->Option (V⊕O)):Nat->V->Option O
 | 0,_=>none
 |n+1,v=>(step v).bind λr=>match r with
  | .inl v=>iter step n v
  | .inr o=>some o
def GF{X:SX}{A:Type}(body:Hn X.ι->cV X->(Exit->cV X->Option A)->Option A):Hn X.ι->cV X->(Exit->cV X->Option A)->Option A
 | .un a r,s,k=>body a s λe s'=>match e with
  | .normal=>GF body r s' k
  |e=>k e s'
 |_,_,_=>none
def dM{W A:Type}(o:Option (W⊕A))(f:W->Option A):Option A:=o.bind λr=>match r with
 | .inl w=>f w
 | .inr a=>some a
noncomputable def both{A:Type}(x y:Option A):Option A:=open Classical in if x=y then x else none
theorem akN{A:Type}{x y:Option A}{r:A}(h:both x y=some r):x=some r/\y=some r:=by
 unfold both at h;split at h
 ·rename_i e;exact⟨h,e ▸ h⟩
 ·cases h
theorem akO{A:Type}(x:Option A):both x x=x:=by simp[both]
section
variable {X:SX}
def By(ds:List Nat)(s:cV X)(h:Hn X.ι){A:Type}(k:Exit->cV X->Option A)(body:(B:Type)->Hn X.ι->(Exit->cV X->Option B)->Option B):Option A:=
 match h with
 | .j sh h'=>(body (VT (X:=X) sh.vars) h' λe s'=>match e with
  | .normal=>wJ sh ds s s' some
  |_=>none).bind λv=>k .normal (encS sh s v)
 | .jx sh h'=>dM (body (VT (X:=X) sh.vars⊕A) h' λe s'=>match e with
  | .normal=>wJ sh ds s s' λv=>some (.inl v)
  |e=>(k e s').map .inr) λv=>k .normal (encS sh s v)
 |h=>body A h k
variable (Γ:FuncId->Option (bt X)) (T:da) (aw:TypeId->Option (CT X.ι)) (N n:Nat)
noncomputable def run:Code->(A:Type)->Hn X.ι->cV X->(Exit->cV X->Option A)->Option A
 | .skip,_,_,s,k=>k .normal s
 | .region id ao d,A,h,s,k=>By (gM (.region id ao d)) s h k λ_ h k=>PH Γ h.fz T aw N ao d s (k .normal)
 | .seq x y,A,h,s,k=>By (gM (.seq x y)) s h k λB h k=>run x B h.fst s λe s'=>match e with
  | .normal=>run y B h.snd s' k
  |e=>k e s'
 | .cond c x y,A,h,s,k=>By (gM (.cond c x y)) s h k λB h k=>match sC (d5 s.env) c with
  | .c .bool v=>bif v then run x B h.fst s k else run y B h.snd s k
  | .ub=>both (run x B h.fst s k) (run y B h.snd s k)
  |_=>none
 | .block id b,A,h,s,k=>By (gM (.block id b)) s h k λB h k=>run b B h.sub s λe s'=>match e with
  | .exit j=>if j=id then k .normal s' else k (.exit j) s'
  |e=>k e s'
 | .loop b,A,h,s,k=>match h with
  | .l hd id aa h'=>wJ hd (gM b) s s λv0=>(iter (λ v=>run b (VT (X:=X) hd.vars⊕VT (X:=X) aa.vars) h' (encS hd s v) λe s'=>match e with
   | .normal=>wJ hd (gM b) s s' λv=>some (.inl v)
   | .exit j=>if j=id then wJ aa (gM b) s s' λw=>some (.inr w)else none
   |_=>none) n v0).bind λw=>k (.exit id) (encS aa s w)
  | .lx hd id aa h'=>wJ hd (gM b) s s λv0=>dM (iter (λ v=>run b (VT (X:=X) hd.vars⊕(VT (X:=X) aa.vars⊕A)) h' (encS hd s v) λe s'=>match e with
   | .normal=>wJ hd (gM b) s s' λv=>some (.inl v)
   | .exit j=>if j=id then wJ aa (gM b) s s' λw=>some (.inr (.inl w))else(k (.exit j) s').map λa=> .inr (.inr a)
   |e=>(k e s').map λa=> .inr (.inr a)) n v0) λw=>k (.exit id) (encS aa s w)
  | .un a r=>GF (λ h s k=>run b A h s k) (.un a r) s k
  |_=>none
 | .exit id,_,_,s,k=>k (.exit id) s
 | .ret,_,_,s,k=>k .ret s
 | .label _,_,_,s,k=>k .normal s
 |_,_,_,_,_=>none
section
variable {Γ:FuncId->Option (bt X)} {T:da} {aw:TypeId->Option (CT X.ι)} {N n:Nat} {P:Program}
theorem Ext.wide{ds ds':Nat->Prop}{a b:cV X}(h:Ext ds a b)(hd:∀t,ds t->ds' t):Ext ds' a b:=⟨λ t ht=>h.env t λhh=>ht (hd t hh),h.obj,h.nx⟩
theorem map_inr{α β:Type}{o:Option β}{r:α⊕β}(h:o.map Sum.inr=some r):∃b,o=some b/\r= .inr b:=by
 cases o with
 |none=>cases h
 |some b=>injection h with h;exact⟨b,rfl,h.symm⟩
theorem IA{c:Code}{s:cV X}{h:Hn X.ι}{A:Type}{k:Exit->cV X->Option A}{r:A}{body:(B:Type)->Hn X.ι->(Exit->cV X->Option B)->Option B}(hl:Low s)
 (hb:∀(B:Type)(h:Hn X.ι)(k:Exit->cV X->Option B)(r:B),body B h k=some r->Ev P N c (N7 (gM c) s k r) s.st) (hr:By (gM c) s h k body=some r):Ev P N c (N7 (gM c) s k r) s.st:=by
 unfold By at hr;split at hr
 ·rename_i sh h';rw[aj]at hr;obtain⟨v,h1,hr⟩:=hr;refine X2 (hb _ _ _ _ h1) ?_;rintro e σ ⟨s',g1,g2,rfl,g4⟩ w0 O0 β I a w hrel;cases e<;>simp only[reduceCtorEq]at g4;have⟨v',i1,i2,i3,i4⟩:=ng hl g1 g2 g4;cases i1;have⟨β',i5⟩:=i4 P w0 O0 N β I a w hrel;exact⟨β',_,i5,i2.old,_,i2,i3,rfl,hr⟩
 ·rename_i sh h';unfold dM at hr;have⟨v,h1,hr⟩:=aj.1 hr;refine X2 (hb _ _ _ _ h1) ?_;rintro e σ ⟨s',g1,g2,rfl,g4⟩ w0 O0 β I a w hrel;have other:(k e s').map Sum.inr=some v->∃ β' σ',Rel P w0 O0 N β' I σ' a w/\pS σ'/\N7 (gM c) s k r e σ':=by
   intro hm;obtain⟨b,hk,rfl⟩:=map_inr hm;cases hr;exact⟨β,_,hrel,g1.old,s',g1,g2,rfl,hk⟩
  cases e with
  |normal=>
   simp only at g4;have⟨v',i1,i2,i3,i4⟩:=ng hl g1 g2 g4;cases i1;have⟨β',i5⟩:=i4 P w0 O0 N β I a w hrel;exact⟨β',_,i5,i2.old,_,i2,i3,rfl,hr⟩
  |_=>exact other g4
 ·exact hb _ _ _ _ hr
theorem akP{id:Nat}{ao:Array Oper}{d:Bool}{t:Nat}(h:U1 ao t):t∈gM (.region id ao d):=by
 obtain⟨j,op,h1,h2⟩:=h;simp only[gM,List.mem_filterMap];exact⟨op,by rw[<- Array.getElem?_toList]at h1;exact eD h1,h2⟩
theorem Yu{b:Code}{s:cV X}{hd:Sh X.ι}{O:Type}{step:VT (X:=X) hd.vars->Option (VT (X:=X) hd.vars⊕O)}{kb:Exit->cV X->Option (VT (X:=X) hd.vars⊕O)}{Q:Exit->St->Prop}(hl:Low s)
 (hkn:∀s',kb .normal s'=wJ hd (gM b) s s' λv=>some (.inl v))
 (hstep:∀v r,Low (encS hd s v)->step v=some r->Ev P N b (N7 (gM b) (encS hd s v) kb r) (encS hd s v).st)
 {o:O} (hQ:∀e s',e≠ .normal->Low s'->Ext (· ∈gM b) s s'->kb e s'=some (.inr o)->∀w0 O0 β I a w,Rel P w0 O0 N β I s'.st a w->∃ β' σ',Rel P w0 O0 N β' I σ' a w/\pS σ'/\Q e σ')
 (hno:∀e s' v,e≠ .normal->kb e s'=some (.inl v)->False) (n:Nat) (v0:VT (X:=X) hd.vars) (h:iter step n v0=some o) (hl0:Low (encS hd s v0)) (hx0:Ext (· ∈gM b) s (encS hd s v0)):Ev P N (.loop b) Q (encS hd s v0).st:=by
 intro w0 O0 β I a w hr ho;refine abA (λ n a w=>∃ β I v,Rel P w0 O0 N β I (encS hd s v).st a w/\iter step n v=some o/\Low (encS hd s v)/\Ext (· ∈gM b) s (encS hd s v)) (λ a w ⟨_,_,v,_,h,_⟩=>by cases h) ?_ n a w ⟨β,I,v0,hr,h,hl0,hx0⟩;rintro n a w ⟨β,I,v,hr,hi,hlv,hxv⟩;simp only[iter]at hi;have⟨r,h1,hi⟩:=aj.1 hi;refine wp_mono (hstep v r hlv h1 w0 O0 β I a w hr hlv.old) ?_;rintro e a' w' ⟨β',I',σ',g1,_,s',g2,g3,rfl,g4⟩;have hxs:=hxv.trans g3;by_cases he:e= .normal
 ·subst he;rw[hkn]at g4;have⟨v',i1,i2,i3,i4⟩:=ng hl g2 hxs g4;cases i1;have⟨β2,i5⟩:=i4 P w0 O0 N β' I' a' w' g1;exact⟨β2,I',v',i5,hi,i2,i3⟩
 ·cases r with
  |inl v'=>exact(hno e s' v' he g4).elim
  |inr o'=>
   cases hi;have⟨β2,σ2,i1,i2,i3⟩:=hQ e s' he g2 hxs g4 w0 O0 β' I' a' w' g1;cases e with
   |normal=>exact(he rfl).elim
   |_=>exact⟨β2,I',σ2,i1,i2,i3⟩
theorem Yv{A:Type}{sh:Sh X.ι}{ds:List Nat}{s0 s':cV X}{k:VT (X:=X) sh.vars->Option A}{r:A}(h:wJ sh ds s0 s' k=some r):∃v,k v=some r:=by
 unfold wJ at h;have⟨_,h⟩:=dN h;unfold OL at h;have⟨m1,h1,h⟩:=aj.1 h;have⟨m,h2,h⟩:=aj.1 h;have⟨h3,h⟩:=dN h;have⟨v,h4,h⟩:=aj.1 h;exact⟨v,(pV h).2⟩
theorem afI{α β γ:Type}{o:Option γ}{r:α⊕(β⊕γ)}(h:o.map (λ a=>Sum.inr (Sum.inr a))=some r):∃b,o=some b/\r= .inr (.inr b):=by
 cases o with
 |none=>cases h
 |some b=>injection h with h;exact⟨b,rfl,h.symm⟩
def Hn.len{ι:Type}:Hn ι->Nat
 | .un _ r=>r.len+1
 |_=>0
theorem akQ{b:Code}{A:Type}{body:Hn X.ι->cV X->(Exit->cV X->Option A)->Option A}{s0:cV X}{k:Exit->cV X->Option A}{r:A}
 (hb:∀(h:Hn X.ι)(s:cV X)(k:Exit->cV X->Option A)(r:A),Low s->body h s k=some r->Ev P N b (N7 (gM b) s k r) s.st)
 {h:Hn X.ι} (hl:Low s0) (hr:GF body h s0 k=some r):Ev P N (.loop b) (N7 (gM (.loop b)) s0 k r) s0.st:=by
 refine aoj (λ n σ=>∃(h:Hn X.ι)(s:cV X),σ=s.st/\h.len=n/\Low s/\Ext (· ∈gM b) s0 s/\GF body h s k=some r) ?_ ?_ h.len ⟨h,s0,rfl,rfl,hl,Ext.refl _ s0,hr⟩
 ·rintro σ ⟨h,s,_,h1,_,_,h2⟩;cases h<;>first |cases h2 |cases h1
 ·rintro n σ ⟨h,s,rfl,h1,h2,h3,h4⟩;cases h<;>try cases h4
  rename_i a q;simp only[Hn.len,Nat.add_right_cancel_iff]at h1;refine(hb a s _ r h2 h4).mono ?_;rintro e σ ⟨s',g1,g2,rfl,g4⟩;have hx:=h3.trans g2;cases e with
  |normal=>exact⟨q,s',rfl,h1,g1,hx,g4⟩
  |_=>exact⟨s',g1,hx,rfl,g4⟩
theorem kQ(hT:fE P T)(hm:P.follows .mixedOrders=true)(hΓ:pb P Γ):∀(c:Code)(A:Type)(h:Hn X.ι)(s:cV X)(k:Exit->cV X->Option A)(r:A),Low s->run Γ T aw N n c A h s k=some r->Ev P N c (N7 (gM c) s k r) s.st
 | .skip,A,h,s,k,r,hl,hr=>aog ⟨s,hl,Ext.refl _ s,rfl,hr⟩
 | .exit id,A,h,s,k,r,hl,hr=>aoh ⟨s,hl,Ext.refl _ s,rfl,hr⟩
 | .ret,A,h,s,k,r,hl,hr=>apn ⟨s,hl,Ext.refl _ s,rfl,hr⟩
 | .label l,A,h,s,k,r,hl,hr=>amu ⟨s,hl,Ext.refl _ s,rfl,hr⟩
 | .region id ao d,A,h,s,k,r,hl,hr=>by
  refine IA hl (λ B h k r hb=>?_) hr;have⟨s',g1,g2,g3,g4⟩:=adv (id:=id) hT hm hΓ hl hb;exact g4.mono λe σ ⟨he,hσ⟩=>⟨s',g2,g3.wide λt ht=>akP ht,hσ,by rw[he];exact g1⟩
 | .seq x y,A,h,s,k,r,hl,hr=>by
  refine IA hl (λ B h k r hb=>?_) hr;refine apo ((kQ hT hm hΓ x B _ s _ r hl hb).mono ?_);rintro e σ ⟨s',g1,g2,rfl,g4⟩;have wide:Ext (· ∈gM (.seq x y)) s s':=g2.wide λt ht=>by simp[gM,ht]
  cases e with
  |normal=>
   exact(kQ hT hm hΓ y B _ s' k r g1 g4).mono λe σ ⟨s2,i1,i2,i3,i4⟩=>⟨s2,i1,wide.trans (i2.wide λt ht=>by simp[gM,ht]),i3,i4⟩
  |_=>exact⟨s',g1,wide,rfl,g4⟩
 | .cond c x y,A,h,s,k,r,hl,hr=>by
  refine IA hl (λ B h k r hb=>?_) hr;split at hb
  ·rename_i v hv;refine aoi v (λ _ _=>rfl) ?_ ?_
   ·have:=XM (d5 s.env) c;rw[hv]at this;exact this.symm
   ·cases v with
    |true=>exact(kQ hT hm hΓ x B _ s k r hl hb).mono λe σ ⟨s2,i1,i2,i3,i4⟩=>⟨s2,i1,i2.wide λt ht=>by simp[gM,ht],i3,i4⟩
    |false=>exact(kQ hT hm hΓ y B _ s k r hl hb).mono λe σ ⟨s2,i1,i2,i3,i4⟩=>⟨s2,i1,i2.wide λt ht=>by simp[gM,ht],i3,i4⟩
  ·rename_i hv;have⟨hb1,hb2⟩:=akN hb;refine ahp (λ _ _=>rfl) ?_ ?_ ?_
   ·have:=XM (d5 s.env) c;rw[hv]at this;exact this.symm
   ·exact(kQ hT hm hΓ x B _ s k r hl hb1).mono λe σ ⟨s2,i1,i2,i3,i4⟩=>⟨s2,i1,i2.wide λt ht=>by simp[gM,ht],i3,i4⟩
   ·exact(kQ hT hm hΓ y B _ s k r hl hb2).mono λe σ ⟨s2,i1,i2,i3,i4⟩=>⟨s2,i1,i2.wide λt ht=>by simp[gM,ht],i3,i4⟩
  ·cases hb
 | .block id b,A,h,s,k,r,hl,hr=>by
  refine IA hl (λ B h k r hb=>?_) hr;refine amv ((kQ hT hm hΓ b B _ s _ r hl hb).mono ?_);rintro e σ ⟨s',g1,g2,rfl,g4⟩;cases e with
  |exit j=>
   simp only[Pu];simp only at g4;split
   ·rw[aP ‹_›]at g4;exact⟨s',g1,g2,rfl,g4⟩
   ·rw[aM ‹_›]at g4;exact⟨s',g1,g2,rfl,g4⟩
  |_=>exact⟨s',g1,g2,rfl,g4⟩
 | .loop b,A,h,s,k,r,hl,hr=>by
  simp only[run]at hr;split at hr
  ·rename_i hd id aa h';obtain⟨v0,h1,h2,h3,h4⟩:=ng hl hl (Ext.refl _ s) hr;rw[aj]at h1;obtain⟨w,h5,h6⟩:=h1;intro w0 O0 β I a ww hrel ho;have⟨β',hrel'⟩:=h4 P w0 O0 N β I a ww hrel;refine Yu (Q:=N7 (gM (.loop b)) s k r) hl (λ s'=>rfl) (λ v r hlv hs=>kQ hT hm hΓ b _ h' (encS hd s v) _ r hlv hs) (λ e s' he hls hxs hk=>?_) (λ e s' v he hk=>?_) n v0 h5 h2 h3 w0 O0 β' I a ww hrel' h2.old
   ·cases e with
    |exit j=>
     simp only at hk;split at hk
     ·rename_i hj;subst hj;have⟨w',i1,i2,i3,i4⟩:=ng hl hls hxs hk;injection i1 with i1;cases i1;intro w0 O0 β I a ww hrel;have⟨β',hrel'⟩:=i4 P w0 O0 N β I a ww hrel;exact⟨β',_,hrel',i2.old,_,i2,i3,rfl,h6⟩
     ·cases hk
    |normal=>exact(he rfl).elim
    |_=>cases hk
   ·cases e with
    |exit j=>
     simp only at hk;split at hk
     ·have⟨w',i1⟩:=Yv hk;injection i1 with i1;cases i1
     ·cases hk
    |normal=>exact he rfl
    |_=>cases hk
  ·rename_i hd id aa h';obtain⟨v0,h1,h2,h3,h4⟩:=ng hl hl (Ext.refl _ s) hr;unfold dM at h1;rw[aj]at h1;obtain⟨w,h5,h6⟩:=h1;intro w0 O0 β I a ww hrel ho;have⟨β',hrel'⟩:=h4 P w0 O0 N β I a ww hrel;refine Yu (Q:=N7 (gM (.loop b)) s k r) hl (λ s'=>rfl) (λ v r hlv hs=>kQ hT hm hΓ b _ h' (encS hd s v) _ r hlv hs) (λ e s' he hls hxs hk=>?_) (λ e s' v he hk=>?_) n v0 h5 h2 h3 w0 O0 β' I a ww hrel' h2.old
   ·intro w0 O0 β I a ww hrel;have other:(k e s').map (λ a=>Sum.inr (Sum.inr a))=some (Sum.inr w:VT (X:=X) hd.vars⊕(VT (X:=X) aa.vars⊕A))->∃ β' σ',Rel P w0 O0 N β' I σ' a ww/\pS σ'/\N7 (gM (.loop b)) s k r e σ':=by
     intro hm;have⟨q,hq,hr⟩:=afI hm;cases hr;cases h6;exact⟨β,_,hrel,hls.old,s',hls,hxs,rfl,hq⟩
    cases e with
    |exit j=>
     simp only at hk;split at hk
     ·rename_i hj;subst hj;have⟨w',i1,i2,i3,i4⟩:=ng hl hls hxs hk;injection i1 with i1;cases i1;have⟨β',hrel'⟩:=i4 P w0 O0 N β I a ww hrel;exact⟨β',_,hrel',i2.old,_,i2,i3,rfl,h6⟩
     ·exact other hk
    |normal=>exact(he rfl).elim
    |_=>exact other hk
   ·have other:(k e s').map (λ a=>Sum.inr (Sum.inr a))=some (Sum.inl v:VT (X:=X) hd.vars⊕(VT (X:=X) aa.vars⊕A))->False:=by
     intro hm;have⟨q,hq,hr⟩:=afI hm;cases hr
    cases e with
    |exit j=>
     simp only at hk;split at hk
     ·have⟨w',i1⟩:=Yv hk;injection i1 with i1;cases i1
     ·exact other hk
    |normal=>exact he rfl
    |_=>exact other hk
  ·exact akQ (body:=λh s k=>run Γ T aw N n b A h s k) (λ h s k r hl h1=>kQ hT hm hΓ b A h s k r hl h1) hl hr
  ·cases hr
 | .rangeFunc ..,_,_,_,_,_,_,hr=>by cases hr
 | .scope _,_,_,_,_,_,_,hr=>by cases hr
 | .goto _,_,_,_,_,_,_,hr=>by cases hr
 | .refuse _,_,_,_,_,_,_,hr=>by cases hr
end
end
section
variable {X:SX}
def jJ:Nat->(l:List (AT X.ι))->jm X l->List (DV X)
 |_,[],_=>[]
 |n,.d c::l,a=> .c c a.1::jJ n l a.2
 |n,.ref c::l,a=> .rp c a.1 0::jJ n l a.2
 |n,.c6 as r::l,a=> .c6 as r a.1::jJ n l a.2
 |n,.mut _::l,a=> .own n 0 (List.length a.1)::jJ (n+1) l a.2
 |n,.d6 _::l,a=> .ptr n 0 0::jJ (n+1) l a.2
 |n,.nil::l,a=> .nil::jJ n l a.2
def E8:(l:List (AT X.ι))->jm X l->List (bk X)
 |[],_=>[]
 | .mut c::l,a=> .cY c a.1::E8 l a.2
 | .d6 c::l,a=> .cells (CT.sz X c) [wH c a.1]::E8 l a.2
 | .d _::l,a=>E8 l a.2
 | .ref _::l,a=>E8 l a.2
 | .c6 _ _::l,a=>E8 l a.2
 | .nil::l,a=>E8 l a.2
theorem tO:∀(n:Nat)(l:List (AT X.ι))(a:jm X l),bM (jJ n l a)=dS n l a
 |_,[],_=>rfl
 |n,.d c::l,a=>by simp only[jJ,bM,den,dS,tO n l a.2]
 |n,.ref c::l,a=>by simp only[jJ,bM,den,dS,tO n l a.2]
 |n,.c6 as r::l,a=>by simp only[jJ,bM,dS,tO n l a.2]
 |n,.mut c::l,a=>by simp only[jJ,bM,den,dS,tO (n+1) l a.2]
 |n,.d6 c::l,a=>by simp only[jJ,bM,den,dS,tO (n+1) l a.2]
 |n,.nil::l,a=>by simp only[jJ,bM,den,dS,tO n l a.2]
theorem yx:∀(l:List (AT X.ι))(a:jm X l),(E8 l a).map bJ=(qF l a).map fg
 |[],_=>rfl
 | .d _::l,a=>yx l a.2
 | .ref _::l,a=>yx l a.2
 | .c6 _ _::l,a=>yx l a.2
 | .nil::l,a=>yx l a.2
 | .mut c::l,a=>by simp only[E8,qF,aF,yx l a.2];rfl
 | .d6 c::l,a=>by simp only[E8,qF,aF,yx l a.2,bJ,fg,sS,aS,map_nil,mX]
theorem o6:∀(n:Nat)(l:List (AT X.ι))(a:jm X l),∀k∈aV (jJ n l a),k<n+qH l
 |_,[],_,k,hk=>by simp[jJ,aV]at hk
 |n,.d c::l,a,k,hk=>by
  have:=o6 n l a.2 k (by simpa[jJ,aV,bj]using hk);simpa[qH,AT.im]using this
 |n,.ref c::l,a,k,hk=>by
  have:=o6 n l a.2 k (by simpa[jJ,aV,bj]using hk);simpa[qH,AT.im]using this
 |n,.c6 as r::l,a,k,hk=>by
  have:=o6 n l a.2 k (by simpa[jJ,aV,bj]using hk);simpa[qH,AT.im]using this
 |n,.nil::l,a,k,hk=>by
  have:=o6 n l a.2 k (by simpa[jJ,aV,bj]using hk);simpa[qH,AT.im]using this
 |n,.mut c::l,a,k,hk=>by
  simp only[jJ,aV,bj,List.singleton_append,aK]at hk;simp only[qH,AT.im,if_true];rcases hk with rfl |hk
  ·omega
  ·have:=o6 (n+1) l a.2 k hk;omega
 |n,.d6 c::l,a,k,hk=>by
  simp only[jJ,aV,bj,List.singleton_append,aK]at hk;simp only[qH,AT.im,if_true];rcases hk with rfl |hk
  ·omega
  ·have:=o6 (n+1) l a.2 k hk;omega
theorem lg:∀(n:Nat)(l:List (AT X.ι))(a:jm X l),(dS n l a).length=l.length
 |_,[],_=>rfl
 |n,.d c::l,a=>by simp only[dS,bH,lg n l a.2]
 |n,.ref c::l,a=>by simp only[dS,bH,lg n l a.2]
 |n,.c6 as r::l,a=>by simp only[dS,bH,lg n l a.2]
 |n,.mut c::l,a=>by simp only[dS,bH,lg (n+1) l a.2]
 |n,.d6 c::l,a=>by simp only[dS,bH,lg (n+1) l a.2]
 |n,.nil::l,a=>by simp only[dS,bH,lg n l a.2]
theorem lm:∀(l:List (AT X.ι))(a:jm X l),(qF l a).length=qH l
 |[],_=>rfl
 | .d _::l,a=>by simpa[qH,AT.im,qF]using lm l a.2
 | .ref _::l,a=>by simpa[qH,AT.im,qF]using lm l a.2
 | .c6 _ _::l,a=>by simpa[qH,AT.im,qF]using lm l a.2
 | .nil::l,a=>by simpa[qH,AT.im,qF]using lm l a.2
 | .mut _::l,a=>by simp only[qF,bH,lm l a.2,qH,AT.im,if_true];omega
 | .d6 _::l,a=>by simp only[qF,bH,lm l a.2,qH,AT.im,if_true];omega
def tg(l:List (AT X.ι))(a:jm X l):cV X:=⟨(List.range l.length).zip (jJ 0 l a),(List.range (E8 l a).length).zip ((E8 l a).map some),1000,[]⟩
theorem X1(l:List (AT X.ι))(a:jm X l)(k:Nat):eE (tg l a).obj k=(E8 l a)[k]? :=by
 have h:(List.range (E8 l a).length).zip ((E8 l a).map some)=(List.range ((E8 l a).map some).length).zip ((E8 l a).map some):=by rw[length_map]
 simp only[tg,eE];rw[h,EW,List.getElem?_map];cases (E8 l a)[k]?<;>rfl
theorem apF(l:List (AT X.ι))(a:jm X l):(tg l a).st=nw.st ⟨(List.range (Br l a).length).zip (Br l a),(List.range ((qF l a).map fg).length).zip ((qF l a).map fg)⟩:=by
 have ho:∀k,((eE (tg l a).obj k).map bJ)=lk ((List.range ((qF l a).map fg).length).zip ((qF l a).map fg)) k:=by
  intro k;rw[EW,X1,<- yx,List.getElem?_map]
 simp only[cV.st,nw.st,St.mk.injEq,and_true];refine⟨?_,funext ho⟩;funext t;simp only[tg];rw[lg,Br,<- tO];generalize jJ 0 l a=ds;have:∀(ks:List Nat)(ds:List (DV X)),den (d5 (ks.zip ds) t)=(lk (ks.zip (bM ds)) t).getD .undef:=by
  intro ks
  induction ks with
  |nil=>intro ds;rfl
  |cons k ks ih=>
   intro ds;cases ds with
   |nil=>rfl
   |cons d ds=>
    simp only[List.zip_cons_cons,d5,lk,bM];by_cases h:k=t
    ·simp[h]
    ·simp only[aM h];exact ih ds
 exact this _ _
theorem aoy(l:List (AT X.ι))(a:jm X l)(hm:qH l<=1000):Low (tg l a):=by
 refine⟨by show 1000<=1000000;decide,aT _,λt k hk=>?_,λk o ho=>?_⟩
 ·have h0:=o6 0 l a;simp only[tg]at hk;generalize jJ 0 l a=ds at hk h0;have:∀(ks:List Nat)(ds:List (DV X)),(∀ k∈aV ds,k<0+qH l)->∀k∈bj (d5 (ks.zip ds) t),k<1000:=by
   intro ks
   induction ks with
   |nil=>intro ds _ k hk;simp[d5,lk,bj]at hk
   |cons k ks ih=>
    intro ds h j hj;cases ds with
    |nil=>simp[d5,lk,bj]at hj
    |cons d ds=>
     simp only[List.zip_cons_cons,d5,lk]at hj;by_cases e:k=t
     ·simp only[aP e,Option.getD_some]at hj;have:=h j (by simp[aV,hj]);omega
     ·simp only[aM e]at hj;exact ih ds (λ k hk=>h k (by simp[aV,hk])) j hj
  exact this _ _ h0 k hk
 ·rw[X1]at ho;have hl:(E8 l a).length=qH l:=by rw[<- lm l a];simpa using congrArg List.length (yx l a)
  refine⟨by have:=(fe.1 ho).1;show k<1000;omega,λj hj=>?_⟩;have hz:∀(l:List (AT X.ι))(a:jm X l),∀o∈E8 l a,db o=[]:=by
   intro l
   induction l with
   |nil=>intro a o ho;simp[E8]at ho
   |cons q l ih=>
    intro a o ho;cases q<;>simp only[E8,aK]at ho
    case «mut» c=>rcases ho with rfl |ho;rfl;exact ih _ o ho
    case d6 c=>
     rcases ho with rfl |ho
     ·have h1:aV (wH c a.1)=[]:=by
       rw[<- iy,mX];generalize CT.row X.toSE c a.1=r
       induction r with
       |nil=>rfl
       |cons y ys ih=>simp only[aF,fD,refs,ih,bI]
      simp[db,h1]
     ·exact ih _ o ho
    all_goals exact ih _ o ho
  rw[hz l a o (eD ho)]at hj;cases hj
variable (T:da)
def yy(s:cV X):ResultVar->Option (DV X)
 | .tmp t=>some (d5 s.env t)
 | .cell a t=>(T t).bind λti=>match d5 s.env a with
  | .ptr kk row ae=>(eE s.obj kk).bind λo=>match o with
   | .cells _ rows=>(rows[row]?).bind λr=>K3 ti.agg ti.size ((r.drop ae).take ti.size)
   | .cY b l=>(X.ar t).bind λa=>(fZ (.sl b) (.sl a.c) l).bind λl=>if row=0/\ae=0/\ti.agg=true/\(X.cQ a.i).length=ti.size/\2<=ti.size then(a.g (sub l 0 ti.size)).bind λy=>some (.c (.st a.i) y)else none
   |_=>none
  |_=>none
def U4(s:cV X):List ResultVar->Option (List (DV X))
 |[]=>some []
 |r::rs=>(yy T s r).bind λv=>(U4 s rs).bind λvs=>some (v::vs)
theorem amV{s:cV X}{r:ResultVar}{d:DV X}(h:yy T s r=some d):SF T s.st r=some (den d):=by
 cases r with
 |tmp t=>simp only[yy,aC]at h;subst h;rfl
 |cell a t=>
  simp only[yy]at h;rw[aj]at h;obtain⟨ti,h1,h⟩:=h;split at h
  ·rename_i kk row ae hp;rw[aj]at h;obtain⟨o,h2,h⟩:=h;split at h
   ·rename_i sz rows;rw[aj]at h;obtain⟨q,h3,h⟩:=h;have h4:=F5 h;rw[j4]at h4
    show(match MK T t (den (d5 s.env a)) (λ k=>(eE s.obj k).map bJ)with
     |some ⟨v,[],[]⟩=>some v
     |_=>none)=some (den d)
    simp only[MK,FY,h1,ah,hp,den,h2,Option.map_some,bJ,List.getElem?_map,h3,h4,pv]
   ·rename_i b l0;rw[aj]at h;obtain⟨ar,h3,h⟩:=h;rw[aj]at h;obtain⟨l,h4,h⟩:=h;split at h
    ·rename_i hc;obtain⟨rfl,rfl,c1,c2,c3⟩:=hc;have⟨y,h5,h⟩:=aj.1 h;cases h;have ho:=(X.i8 t ar h3).1;have hk:(λ k=>(eE s.obj k).map bJ) kk=some ⟨1,eX (l.map λx=>den (.c ar.c x:DV X))⟩:=by
      have h6:AM (eE s.obj) kk ar.c=some l:=(by unfold AM;rw[h2];exact h4);have⟨o,g1,g2⟩:=X9 ho h6;simp only[g1,Option.map_some,g2]
     have hA:=Ya (T:=T) (g:=λk=>(eE s.obj k).map bJ) h1 h3 c1 c2 hk h5;have hN:FY T t (den (.ptr kk 0 0:DV X)) .none (λ k=>(eE s.obj k).map bJ)=none:=by
      simp only[FY,h1,ah,den,hk];cases l with
      |nil=>rfl
      |cons z zs=>
       simp only[aF,eX,List.getElem?_cons_zero,ah,List.drop_zero];have:part' ti.agg ti.size (List.take ti.size [den (.c ar.c z:DV X)])=none:=by
        unfold part';rw[aM];simp only[List.length_take,bH,List.length_nil];omega
       show(part' ti.agg ti.size (List.take ti.size [den (.c ar.c z:DV X)])).bind pv=none;rw[this];rfl
     show(match MK T t (den (d5 s.env a)) (λ k=>(eE s.obj k).map bJ)with
      |some ⟨v,[],[]⟩=>some v
      |_=>none)=some (den (.c (.st ar.i) y:DV X))
     rw[hp];simp only[MK,hN,hA]
    ·cases h
   ·cases h
  ·cases h
def Yw{A:Type}(s:cV X):List ResultVar->(List (DV X)->Option A)->Option A
 |[],k=>k []
 | .tmp t::rs,k=>Yw s rs λvs=>k (d5 s.env t::vs)
 | .cell a t::rs,k=>(T t).bind λti=>match d5 s.env a with
  | .ptr kk row ae=>(eE s.obj kk).bind λo=>match o with
   | .cells _ rows=>(rows[row]?).bind λr=>(K3 ti.agg ti.size ((r.drop ae).take ti.size)).bind λv=>Yw s rs λvs=>k (v::vs)
   | .cY b l=>(X.ar t).bind λa=>(fZ (.sl b) (.sl a.c) l).bind λl=>if row=0/\ae=0/\ti.agg=true/\(X.cQ a.i).length=ti.size/\2<=ti.size then(a.g (sub l 0 ti.size)).bind λy=>Yw s rs λvs=>k (.c (.st a.i) y::vs)else none
   |_=>none
  |_=>none
theorem Gi{A:Type}{s:cV X}:∀{rs:List ResultVar}{k:List (DV X)->Option A}{r:A},Yw T s rs k=some r->∃ds,U4 T s rs=some ds/\k ds=some r
 |[],k,r,h=>⟨[],rfl,h⟩
 | .tmp t::rs,k,r,h=>by
  have⟨ds,h1,h2⟩:=Gi (rs:=rs) h;exact⟨_,by simp only[U4,yy,h1,ah],h2⟩
 | .cell a t::rs,k,r,h=>by
  simp only[Yw]at h;rw[aj]at h;obtain⟨ti,h1,h⟩:=h;split at h
  ·rename_i kk row ae hp;rw[aj]at h;obtain⟨o,h2,h⟩:=h;split at h
   ·rw[aj]at h;obtain⟨q,h3,h⟩:=h;rw[aj]at h;obtain⟨v,h4,h⟩:=h;have⟨ds,h5,h6⟩:=Gi (rs:=rs) h;exact⟨_,by simp only[U4,yy,h1,hp,h2,h3,h4,h5,ah],h6⟩
   ·rw[aj]at h;obtain⟨ar,h3,h⟩:=h;rw[aj]at h;obtain⟨l,h4,h⟩:=h;split at h
    ·rename_i hc;have⟨y,h5,h⟩:=aj.1 h;have⟨ds,h6,h7⟩:=Gi (rs:=rs) h;exact⟨_,by simp only[U4,yy,h1,hp,h2,h3,h4,h5,h6,ah];rw[aP hc];rfl,h7⟩
    ·cases h
   ·cases h
  ·cases h
theorem Tm{s:cV X}:∀{rs:List ResultVar}{ds:List (DV X)},U4 T s rs=some ds->mW T s.st rs=some (bM ds)
 |[],ds,h=>by simp only[U4,aC]at h;subst h;rfl
 |r::rs,ds,h=>by
  simp only[U4]at h;have⟨d,h1,h⟩:=aj.1 h;have⟨ds',h2,h⟩:=aj.1 h;cases h;simp only[mW,amV T h1,Tm h2,ah,bM]
def Tn:List (RT X.ι)->List (DV X)->Option Nat
 | .mu _::l,ds=>Tn l ds
 | .mr _::l,ds=>Tn l ds
 | .mv::l,ds=>Tn l ds
 | .fresh _::l,d::ds=>match d with
  | .own k _ _=>some k
  |_=>Tn l ds
 | .d _::l,_::ds=>Tn l ds
 | .whole _::l,_::ds=>Tn l ds
 |_,_=>none
def tW:List (RT X.ι)->List (DV X)->List (Nat×Nat)
 | .mu _::l,ds=>tW l ds
 | .mr _::l,ds=>tW l ds
 | .mv::l,ds=>tW l ds
 | .whole j::l,d::ds=>match d with
  | .own _ _ len=>(j,len)::tW l ds
  |_=>tW l ds
 | .d _::l,_::ds=>tW l ds
 | .fresh _::l,_::ds=>tW l ds
 |_,_=>[]
def yA:Nat->List (RT X.ι)->List Nat
 |_,[]=>[]
 |n,.mu _::l=>n::yA (n+1) l
 |n,.mr _::l=>n::yA (n+1) l
 |n,.mv::l=>yA (n+1) l
 |n,_::l=>yA n l
def oA:Nat->List (RT X.ι)->List Nat
 |_,[]=>[]
 |n,.mu _::l=>n::oA (n+1) l
 |n,.mr _::l=>oA (n+1) l
 |n,.mv::l=>oA (n+1) l
 |n,_::l=>oA n l
def F1(bad:List Nat)(ks:List Nat):Bool:=ks.all λk=>!bad.contains k
def P0(get:Nat->Option (bk X))(row:List (DV X))(c:CT X.ι):Option (CT.T X.toSE c×List Bool):=
 match c with
 | .st i=>(zi get row (X.cQ i)).bind λh=>some (X.make i h.1,h.2)
 |c=>match row with
  |[d]=>UU get d c
  |_=>none
def Le(get:Nat->Option (bk X))(c:CT X.ι):List (List (DV X))->Option (List (CT.T X.toSE c)×List Bool)
 |[]=>some ([],[])
 |r::rs=>(P0 get r c).bind λx=>(Le get c rs).bind λy=>some (x.1::y.1,x.2++y.2)
def Qz(get:Nat->Option (bk X))(bad nq:List Nat)(fk:Option Nat)(wl:List (Nat×Nat))(n:Nat):(q:RT X.ι)->List (DV X)->Option ((RT.T X q×List Bool)×List (DV X))
 | .d c,d::ds=>if F1 bad (bj d)then(JQ get d c).bind λx=>some (x,ds)else none
 | .fresh e,d::ds=>match d with
  | .nil=>some (([],[]),ds)
  | .own k 0 len=>if fk=some k then(get k).bind λo=>match o with
   | .cY b l=>(fZ (.sl b) (.sl e) l).bind λ(l:List (CT.T X.toSE e))=>some ((sub l 0 len,[bb (sub l 0 len).length len]),ds)
   | .cells sz rows=>if sz=CT.sz X e/\F1 bad (rows.map aV).flatten=true then(Le get e rows).bind λx=>some ((x.1,bb len (List.length x.1)::x.2),ds)else none
   | .map _ _ _=>none
   else none
  |_=>none
 | .whole j,d::ds=>match d with
  | .own k 0 len=>if k=j/\nq.contains j=true then(lk wl j).bind λdl=>some (((),[bb len dl]),ds)else none
  |_=>none
 | .mu c,ds=>(get n).bind λo=>match o with
  | .cY b l=>(fZ (.sl b) (.sl c) l).bind λ(l:List (CT.T X.toSE c))=>match lk wl n with
   |some len=>some ((sub l 0 len,[bb (sub l 0 len).length len]),ds)
   |none=>some ((l,[]),ds)
  |_=>none
 | .mr c,ds=>(get n).bind λo=>match o with
  | .cells sz [row]=>if sz=CT.sz X c/\F1 bad (aV row)=true then(P0 get row c).bind λx=>some (x,ds)else none
  |_=>none
 | .mv,ds=>some (((),[]),ds)
 |_,[]=>none
def QA(get:Nat->Option (bk X))(bad nq:List Nat)(fk:Option Nat)(wl:List (Nat×Nat)):Nat->(l:List (RT X.ι))->(ds:List (DV X))->Option (uh X l×List Bool)
 |_,[],ds=>match ds with
  |[]=>some ((),[])
  |_=>none
 |n,[q],ds=>(Qz get bad nq fk wl n q ds).bind λp=>match p.2 with
  |[]=>some p.1
  |_=>none
 |n,q::q'::l,ds=>(Qz get bad nq fk wl n q ds).bind λp=>(QA get bad nq fk wl (if q.out then n+1 else n) (q'::l) p.2).bind λy=>some ((p.1.1,y.1),p.1.2++y.2)
def HM(s:cV X)(l:List (RT X.ι))(ds:List (DV X)):Option (uh X l×List Bool):=
 if F1 (yA 0 l) (Tn l ds).toList then QA (eE s.obj) (yA 0 l++(Tn l ds).toList) (oA 0 l) (Tn l ds) (tW l ds) 0 l ds else none
def TZ(rs:List ResultVar)(l:List (RT X.ι)):Exit->cV X->Option (uh X l)
 | .normal,s=>Yw T s rs λds=>(HM s l ds).bind λx=>XO x.2 (some x.1)
 | .ret,s=>Yw T s rs λds=>(HM s l ds).bind λx=>XO x.2 (some x.1)
 |_,_=>none
def exit(A:Type)(k:cV X->Option A):Exit->cV X->Option A
 | .normal,s=>k s
 | .ret,s=>k s
 |_,_=>none
variable {T}
section
variable {get:Nat->Option (bk X)} {fk:Option Nat} {os':List (Option fF)} {bad:List Nat}
theorem IB{ks:List Nat}(h:F1 bad ks=true):∀j∈ks,j∉bad:=λj hj=>by simpa using all_eq_true.1 h j hj
theorem Tp(hbad:∀j,j∉bad->fk≠some j/\¬kept os' j){d:DV X}{c:CT X.ι}{x:CT.T X.toSE c×List Bool}(hc:c.one=true)(h:UU get d c=some x)(hb:∀b∈x.2,b=true)(kw:∀j∈bj d,j∉bad):∃t,CT.tv X.toSE c x.1= .s t/\VB (fJ get) fk os' (den d) t:=by
 obtain⟨t,h1,h2⟩:=row_one hc x.1;refine⟨t,h2,?_⟩;have hbase:∀y,Nl d c=some y->y=x.1->VB (fJ get) fk os' (den d) t:=by
  intro y hy he;subst he;have h3:=yc hy;rw[h2]at h3;have h4:=QQ hc hy;unfold Nl at hy;split at hy
  ·rw[(iY hy).1];simp only[den,h2,TV.av,VB]
  ·simp only[den,Gb.wk,TV.av,AV.t.injEq]at h3;simp only[den,VB];exact h3.symm
  ·simp only[den,Gb.wk,TV.av,AV.t.injEq]at h3;simp only[den,VB];exact h3.symm
  ·cases hy
 unfold UU at h;split at h
 ·rename_i kk ae len e;rw[aj]at h;obtain⟨o,h3,h⟩:=h;split at h
  ·rename_i b l0;rw[aj]at h;obtain⟨l,h4,h⟩:=h;cases h;have h5:(sub l ae len).length=len:=(by simpa[bb]using hb (bb (sub l ae len).length len) (by simp));have⟨h6,h7⟩:=kP h4;obtain⟨hf1,hf2⟩:=hbad kk (kw kk (by simp[bj]));simp only[den,VB];refine⟨hf1,hf2,bJ (.cY b l0),(sub l ae len).map (CT.row X.toSE e),by simp[fJ,h3],?_,by simpa using h5,?_⟩
   ·simp only[bJ,h7];simp[aS,sub,map_take,map_drop]
   ·simpa[CT.row]using h1.symm
  ·cases h
 ·rename_i kk ae len;rw[aj]at h;obtain⟨o,h3,h⟩:=h;split at h
  ·rename_i b l0;cases h;have h5:(sub l0 ae len).length=len:=(by simpa[bb]using hb (bb (sub l0 ae len).length len) (by simp));obtain⟨hf1,hf2⟩:=hbad kk (kw kk (by simp[bj]));simp only[den,VB];refine⟨hf1,hf2,bJ (.cY b l0),(sub l0 ae len).map (CT.row X.toSE b),by simp[fJ,h3],?_,by simpa using h5,?_⟩
   ·simp only[bJ];simp[aS,sub,map_take,map_drop]
   ·simpa[CT.row]using h1.symm
  ·cases h
 ·have⟨y,h3,h⟩:=aj.1 h;injection h with h;exact hbase y h3 (by rw[<- h])
theorem OM(hbad:∀j,j∉bad->fk≠some j/\¬kept os' j):∀{ds:List (DV X)}{l:List (CT X.ι)}{h:HL X.toSE l×List Bool},zi get ds l=some h->(∀ b∈h.2,b=true)->l.all CT.one=true->(∀ j∈aV ds,j∉bad)->hG (fJ get) fk os' (bM ds) (HL.row X.toSE l h.1)
 |[],[],h,_,_,_,_=>trivial
 |d::ds,c::l,h,hr,hb,ha,kw=>by
  simp only[zi]at hr;have⟨x,h1,hr⟩:=aj.1 hr;have⟨g,h2,hr⟩:=aj.1 hr;cases hr;simp only[all_cons,aD]at ha;obtain⟨t,i1,i2⟩:=Tp hbad ha.1 h1 (λ b hb'=>hb b (by simp[hb'])) (λ j hj=>kw j (by simp[aV,hj]));have i3:=OM hbad h2 (λ b hb'=>hb b (by simp[hb'])) ha.2 (λ j hj=>kw j (by simp[aV,hj]));obtain⟨t',j1,j2⟩:=row_one ha.1 x.1;rw[i1]at j2;cases j2;show hG (fJ get) fk os' (den d::bM ds) (CT.row X.toSE c x.1++HL.row X.toSE l g.1);rw[j1];exact⟨i2,i3⟩
 |[],_::_,_,hr,_,_,_=>by simp[zi]at hr
 |_::_,[],_,hr,_,_,_=>by simp[zi]at hr
theorem U5(hbad:∀j,j∉bad->fk≠some j/\¬kept os' j){row:List (DV X)}{c:CT X.ι}{x:CT.T X.toSE c×List Bool}(h:P0 get row c=some x)(hb:∀b∈x.2,b=true)(kw:∀j∈aV row,j∉bad):hG (fJ get) fk os' (bM row) (CT.row X.toSE c x.1):=by
 cases c
 case st i=>
  replace h:(zi get row (X.cQ i)).bind (λ h=>some (X.make i h.1,h.2))=some x:=h
  have⟨g,h1,h⟩:=aj.1 h;cases h;have:=OM hbad h1 hb (X.flat i) kw;show hG (fJ get) fk os' (bM row) (X.row i (X.make i g.1));rw[X.eK];exact this
 all_goals
  match row,h,kw with
  |[d],h,kw=>
   obtain⟨t,i1,i2⟩:=Tp (fk:=fk) hbad rfl h hb (λ j hj=>kw j (by simp[aV,hj]));obtain⟨t',j1,j2⟩:=row_one rfl x.1;rw[i1]at j2;cases j2;rw[j1];exact⟨i2,trivial⟩
  |[],h,_=>cases h
  |_::_::_,h,_=>cases h
theorem QB(hbad:∀j,j∉bad->fk≠some j/\¬kept os' j){c:CT X.ι}:∀{rows:List (List (DV X))}{x:List (CT.T X.toSE c)×List Bool},Le get c rows=some x->(∀ b∈x.2,b=true)->(∀ j∈(rows.map aV).flatten,j∉bad)->dp (fJ get) fk os' (rows.map bM) (x.1.map (CT.row X.toSE c))/\rows.length=List.length x.1
 |[],x,h,_,_=>by simp only[Le,aC]at h;subst h;exact⟨trivial,rfl⟩
 |r::rs,x,h,hb,kw=>by
  simp only[Le]at h;have⟨y,h1,h⟩:=aj.1 h;have⟨z,h2,h⟩:=aj.1 h;cases h;have i1:=U5 hbad h1 (λ b hb'=>hb b (by simp[hb'])) (λ j hj=>kw j (by simp[hj]));obtain⟨i2,i3⟩:=QB hbad h2 (λ b hb'=>hb b (by simp[hb'])) (λ j hj=>kw j (by simp only[aF,flatten_cons,bf];exact .inr hj));exact⟨⟨i1,i2⟩,by simp[i3]⟩
theorem amW{x:AV}{t:Tree}(h:VB (fJ get) fk os' x t):AD (fJ get) fk os' x (.d (.s t)):=by cases x<;>first |exact h |exact h.elim
theorem IC(sz:CT X.ι)(l:List (CT.T X.toSE sz)):dp (fJ get) fk os' (aS (l.map (CT.row X.toSE sz))) (l.map (CT.row X.toSE sz)):=by
 generalize l.map (CT.row X.toSE sz)=rows
 induction rows with
 |nil=>trivial
 |cons r rs ih=>
  refine⟨?_,ih⟩;show hG (fJ get) fk os' (r.map AV.t) r
  induction r with
  |nil=>trivial
  |cons y ys ih2=>exact⟨rfl,ih2⟩
theorem amX(hbad:∀j,j∉bad->fk≠some j/\¬kept os' j){c:CT X.ι}{d:DV X}{x:CT.T X.toSE c×List Bool}(h:JQ get d c=some x)(kw:∀j∈bj d,j∉bad)(hb:∀b∈x.2,b=true):AD (fJ get) fk os' (den d) (.d (CT.tv X.toSE c x.1)):=by
 cases c
 case st i=>
  replace h:Bi get d i=some x:=h
  cases d
  case agg cs=>
   simp only[Bi]at h;have⟨g,h1,h⟩:=aj.1 h;cases h;have:=OM (fk:=fk) hbad h1 hb (X.flat i) (by simpa[bj]using kw);show hG (fJ get) fk os' (bM cs) (X.row i (X.make i g.1));rw[X.eK];exact this
  case c a y=>
   simp only[Bi]at h;have⟨z,h1,h⟩:=aj.1 h;cases h;rw[(iY h1).1];show hG (fJ get) fk os' ((X.row i z).map AV.t) (X.row i z);generalize X.row i z=l
   induction l with
   |nil=>trivial
   |cons y ys ih=>exact⟨rfl,ih⟩
  all_goals cases h
 all_goals
  have⟨t,i1,i2⟩:=Tp (fk:=fk) hbad rfl h hb kw;rw[i1];exact amW i2
theorem Yx{nq:List Nat}{wl:List (Nat×Nat)}{ns:List Nat}{n:Nat}(hbad:∀j,j∉bad->fk≠some j/\¬kept os' j)(m7:∀k,fk=some k->¬kept os' k)(hns:∀j dl,j∈nq->lk wl j=some dl->ns.getD j 0=dl)(hmu:∀j∈nq,kept os' j){q:RT X.ι}{ds:List (DV X)}{p:(RT.T X q×List Bool)×List (DV X)}(h:Qz get bad nq fk wl n q ds=some p)(hb:∀b∈p.1.2,b=true):
 (∀ cs,ke (fJ get) fk os' (bM p.2) cs->ke (fJ get) fk os' (bM ds) (X4 ns q p.1.1++cs))/\
 (∀ t,qG q p.1.1=[some t]->∃o,get n=some o/\(bJ o).sz=t.1/\dp (fJ get) fk os' ((bJ o).rows.take t.2.length) t.2)/\
 (∀ dl c,q= .mu c->lk wl n=some dl->sy q p.1.1=[dl]):=by
 cases q
 case d c=>
  cases ds with
  |nil=>simp[Qz]at h
  |cons d ds=>
   simp only[Qz]at h;split at h
   ·rename_i hnb;rw[aj]at h;obtain⟨x,h1,h⟩:=h;cases h;exact⟨λ cs hcs=>⟨amX hbad h1 (IB hnb) hb,hcs⟩,λt ht=>by simp[qG]at ht,λ_ _ h=>by cases h⟩
   ·cases h
 case fresh e=>
  cases ds with
  |nil=>simp[Qz]at h
  |cons d ds=>
   refine⟨λ cs hcs=>?_,λt ht=>by simp[qG]at ht,λ_ _ h=>by cases h⟩;simp only[Qz]at h;split at h
   ·cases h;exact⟨rfl,hcs⟩
   ·rename_i k len;split at h
    ·rename_i kw;rw[aj]at h;obtain⟨o,h1,h⟩:=h;split at h
     ·rename_i b l0;rw[aj]at h;obtain⟨l,h2,h⟩:=h;cases h;have⟨h3,h4⟩:=kP h2;have h5:(sub l 0 len).length=len:=(by simpa[bb]using hb (bb (sub l 0 len).length len) (by simp));refine⟨⟨kw,m7 k kw,rfl,bJ (.cY b l0),by simp[fJ,h1],by simp only[bJ];exact h3,?_,by simpa using h5⟩,hcs⟩;have e1:(bJ (.cY b l0)).rows.take len=aS ((sub l 0 len).map (CT.row X.toSE e)):=by
       simp only[bJ,h4];simp[aS,sub,map_take]
      rw[e1];exact IC e _
     ·rename_i sz rows;split at h
      ·rename_i hc;rw[aj]at h;obtain⟨x,h2,h⟩:=h;cases h;obtain⟨i1,i2⟩:=QB (fk:=fk) hbad h2 (λ b hb'=>hb b (by simp[hb'])) (IB hc.2);have h5:len=List.length x.1:=(by simpa[bb]using hb (bb len (List.length x.1)) (by simp));refine⟨⟨kw,m7 k kw,rfl,bJ (.cells sz rows),by simp[fJ,h1],hc.1,?_,by simpa using h5.symm⟩,hcs⟩;simp only[bJ];rw[List.take_of_length_le (by simp;omega)];exact i1
      ·cases h
     ·cases h
    ·cases h
   ·cases h
 case whole j=>
  cases ds with
  |nil=>simp[Qz]at h
  |cons d ds=>
   refine⟨λ cs hcs=>?_,λt ht=>by simp[qG]at ht,λ_ _ h=>by cases h⟩;simp only[Qz]at h;split at h
   ·rename_i k len;split at h
    ·rename_i hc;obtain⟨rfl,hm⟩:=hc;rw[aj]at h;obtain⟨dl,h1,h⟩:=h;cases h;have h5:len=dl:=(by simpa[bb]using hb (bb len dl) (by simp));have hm:k∈nq:=(by simpa using hm);refine⟨⟨rfl,rfl,?_,hmu k hm⟩,hcs⟩;rw[h5];exact hns k dl hm h1
    ·cases h
   ·cases h
 case mu c=>
  simp only[Qz]at h;rw[aj]at h;obtain⟨o,h1,h⟩:=h;split at h
  ·rename_i b l0;rw[aj]at h;obtain⟨l,h2,h⟩:=h;have⟨h3,h4⟩:=kP h2;split at h
   ·rename_i len hl;cases h;have h5:(sub l 0 len).length=len:=(by simpa[bb]using hb (bb (sub l 0 len).length len) (by simp));refine⟨λ cs hcs=>hcs,λt ht=>?_,λdl c' _ hl'=>?_⟩
    ·simp only[qG,List.cons.injEq,aC,and_true]at ht;subst ht;refine⟨_,h1,by simp only[bJ,sS];exact h3,?_⟩;have e1:(bJ (.cY b l0)).rows.take (sS c (sub l 0 len)).2.length=aS (sS c (sub l 0 len)).2:=by
      simp only[bJ,h4,sS,length_map,h5];simp[aS,sub,map_take]
     rw[e1];exact IC c _
    ·rw[hl]at hl';injection hl' with hl';subst hl';simp only[sy,h5]
   ·rename_i hl;cases h;refine⟨λ cs hcs=>hcs,λt ht=>?_,λdl c' _ hl'=>by rw[hl]at hl';cases hl'⟩;simp only[qG,List.cons.injEq,aC,and_true]at ht;subst ht;refine⟨_,h1,by simp only[bJ,sS];exact h3,?_⟩;have e1:(bJ (.cY b l0)).rows.take (sS c l).2.length=aS (sS c l).2:=by
     simp only[bJ,h4,sS];rw[List.take_of_length_le (by simp[aS])]
    rw[e1];exact IC c _
  ·cases h
 case mr c=>
  simp only[Qz]at h;rw[aj]at h;obtain⟨o,h1,h⟩:=h;split at h
  ·rename_i sz row;split at h
   ·rename_i hc;have⟨x,h2,h⟩:=aj.1 h;cases h;refine⟨λ cs hcs=>hcs,λt ht=>?_,λ_ _ h=>by cases h⟩;simp only[qG,List.cons.injEq,aC,and_true]at ht;subst ht;refine⟨_,h1,by simp only[bJ,sS];exact hc.1,?_⟩;exact⟨U5 hbad h2 hb (IB hc.2),trivial⟩
   ·cases h
  ·cases h
 case mv=>
  simp only[Qz,aC]at h;subst h;exact⟨λ cs hcs=>hcs,λt ht=>by simp[qG]at ht,λ_ _ h=>by cases h⟩
theorem Lf{q:RT X.ι}{x:RT.T X q}:(qG q x).length=(if q.out then 1 else 0)/\(sy q x).length=(if q.out then 1 else 0):=by cases q<;>exact⟨rfl,rfl⟩
theorem Lg{n j:Nat}{q:RT X.ι}{l:List (RT X.ι)}:j∈oA n (q::l)->(j=n/\∃c,q= .mu c)\/j∈oA (if q.out then n+1 else n) l:=by
 cases q<;>simp only[oA,RT.out,if_true,Bool.false_eq_true,if_false,aK]
 case mu c=>exact λh=>h.imp (λ h=>⟨h,c,rfl⟩) id
 all_goals exact .inr
theorem PF{j:Nat}:∀{l:List (RT X.ι)}{n:Nat},j∈oA n l->n<=j
 |[],n,h=>by simp[oA]at h
 |q::l,n,h=>by
  rcases Lg h with ⟨rfl,_⟩ |h
  ·exact aT _
  ·have:=PF h;split at this<;>omega
theorem afK:∀{l:List (RT X.ι)}{x:uh X l}{n j:Nat},j∈oA n l->∃p,(nR l x)[j -n]? =some (some p)
 |[],x,n,j,h=>by simp[oA]at h
 |[q],x,n,j,h=>by
  rcases Lg h with ⟨rfl,c,rfl⟩ |h
  ·exact⟨_,by simp only[Nat.sub_self];rfl⟩
  ·simp[oA]at h
 |q::q'::l,x,n,j,h=>by
  rcases Lg h with ⟨rfl,c,rfl⟩ |h
  ·exact⟨_,by simp only[Nat.sub_self];rfl⟩
  ·have⟨p,hp⟩:=afK (l:=q'::l) (x:=x.2) h;have hge:=PF h;refine⟨p,?_⟩;show(qG q x.1++nR (q'::l) x.2)[j -n]? =_;have hl:=(Lf (q:=q) (x:=x.1)).1;split at hl
   ·rename_i e;rw[aP e]at hp hge;rw[fO (by omega),hl,show j -n -1=j -(n+1)by omega];exact hp
   ·rename_i e;rw[aM e]at hp hge;rw[fO (by omega),hl,Nat.sub_zero];exact hp
theorem Gj:∀{l:List (RT X.ι)}{x:uh X l}{n j:Nat}{p:fF},(nR l x)[j]? =some (some p)->n+j∈yA n l
 |[],x,n,j,p,h=>by simp[nR]at h
 |[q],x,n,j,p,h=>by
  have h:(qG q x)[j]? =some (some p):=h;cases q<;>simp only[qG,List.getElem?_nil,reduceCtorEq]at h
  case mu c=>cases j<;>simp at h<;>simp[yA]
  case mr c=>cases j<;>simp at h<;>simp[yA]
  case mv=>cases j<;>simp at h
 |q::q'::l,x,n,j,p,h=>by
  have h:(qG q x.1++nR (q'::l) x.2)[j]? =some (some p):=h;cases q
  case mu c=>
   cases j with
   |zero=>simp[yA]
   |succ j=>
    have:=Gj (l:=q'::l) (x:=x.2) (n:=n+1) (by simpa[qG]using h);simp only[yA,aK];right;rw[show n+(j+1)=n+1+j by omega];exact this
  case mr c=>
   cases j with
   |zero=>simp[yA]
   |succ j=>
    have:=Gj (l:=q'::l) (x:=x.2) (n:=n+1) (by simpa[qG]using h);simp only[yA,aK];right;rw[show n+(j+1)=n+1+j by omega];exact this
  case mv=>
   cases j with
   |zero=>simp[qG]at h
   |succ j=>
    have:=Gj (l:=q'::l) (x:=x.2) (n:=n+1) (by simpa[qG]using h);simp only[yA];rw[show n+(j+1)=n+1+j by omega];exact this
  all_goals
   simp only[yA];exact Gj (l:=q'::l) (x:=x.2) (by simpa[qG]using h)
theorem afL{nq:List Nat}{wl:List (Nat×Nat)}{n:Nat}{q:RT X.ι}{ds:List (DV X)}{p:(RT.T X q×List Bool)×List (DV X)}(h:Qz get bad nq fk wl n q ds=some p)(hb:∀b∈p.1.2,b=true):∀dl c,q= .mu c->lk wl n=some dl->sy q p.1.1=[dl]:=by
 rintro dl c rfl hl;simp only[Qz]at h;rw[aj]at h;obtain⟨o,h1,h⟩:=h;split at h
 ·rename_i b l0;have⟨l,h2,h⟩:=aj.1 h;rw[hl]at h;cases h;have h5:(sub l 0 dl).length=dl:=by simpa[bb]using hb (bb (sub l 0 dl).length dl) (by simp)
  simp only[sy,h5]
 ·cases h
theorem OO{nq:List Nat}{wl:List (Nat×Nat)}:∀{n:Nat}{l:List (RT X.ι)}{ds:List (DV X)}{x:uh X l×List Bool},QA get bad nq fk wl n l ds=some x->(∀ b∈x.2,b=true)->∀j dl,n+j∈oA n l->lk wl (n+j)=some dl->(tE l x.1).getD j 0=dl
 |n,[],ds,x,h,hb,j,dl,hm,_=>by simp[oA]at hm
 |n,[q],ds,x,h,hb,j,dl,hm,hl=>by
  simp only[QA]at h;have⟨p,h1,h⟩:=aj.1 h;split at h
  ·cases h;rcases Lg hm with ⟨e,c,rfl⟩ |hm
   ·have e:j=0:=(by omega);subst e;have:=(afL h1 hb) dl c rfl hl;show(sy _ p.1.1).getD 0 0=dl;rw[this];rfl
   ·simp[oA]at hm
  ·cases h
 |n,q::q'::l,ds,x,h,hb,j,dl,hm,hl=>by
  simp only[QA]at h;have⟨p,h1,h⟩:=aj.1 h;have⟨y,h2,h⟩:=aj.1 h;cases h;have hlen:=(Lf (q:=q) (x:=p.1.1)).2;rcases Lg hm with ⟨e,c,rfl⟩ |hm
  ·have e:j=0:=(by omega);subst e;have:=(afL h1 (λ b hb'=>hb b (by simp[hb']))) dl c rfl hl;show(sy _ p.1.1++tE (q'::l) y.1).getD 0 0=dl;rw[this];rfl
  ·have hge:=PF hm;show(sy _ p.1.1++tE (q'::l) y.1).getD j 0=dl;by_cases hq:q.out=true
   ·rw[aP hq]at h2 hm hge hlen;have:=OO h2 (λ b hb'=>hb b (by simp[hb'])) (j -1) dl (by rw[show n+1+(j -1)=n+j by omega];exact hm) (by rw[show n+1+(j -1)=n+j by omega];exact hl);rw[List.getD_eq_getElem?_getD,fO (by omega),hlen,<- List.getD_eq_getElem?_getD];exact this
   ·rw[aM hq]at h2 hm hge hlen;have:=OO h2 (λ b hb'=>hb b (by simp[hb'])) j dl hm hl;rw[List.getD_eq_getElem?_getD,fO (by omega),hlen,Nat.sub_zero,<- List.getD_eq_getElem?_getD];exact this
theorem ab5{nq:List Nat}{wl:List (Nat×Nat)}{ns:List Nat}(hbad:∀j,j∉bad->fk≠some j/\¬kept os' j)(m7:∀k,fk=some k->¬kept os' k)(hns:∀j dl,j∈nq->lk wl j=some dl->ns.getD j 0=dl)(hmu:∀j∈nq,kept os' j):∀{n:Nat}{l:List (RT X.ι)}{ds:List (DV X)}{x:uh X l×List Bool},QA get bad nq fk wl n l ds=some x->(∀ b∈x.2,b=true)->
 ke (fJ get) fk os' (bM ds) (EY ns l x.1)/\∀j t,(nR l x.1)[j]? =some (some t)->∃o,get (n+j)=some o/\(bJ o).sz=t.1/\dp (fJ get) fk os' ((bJ o).rows.take t.2.length) t.2
 |n,[],ds,x,h,_=>by
  simp only[QA]at h;split at h
  ·exact⟨trivial,λj t ht=>by simp[nR]at ht⟩
  ·cases h
 |n,[q],ds,x,h,hb=>by
  simp only[QA]at h;rw[aj]at h;obtain⟨p,h1,h⟩:=h;split at h
  ·rename_i hp;cases h;have⟨i1,i2,_⟩:=Yx (ns:=ns) hbad m7 hns hmu h1 hb;rw[hp]at i1;have:=i1 [] trivial;rw[append_nil]at this;refine⟨this,λj t ht=>?_⟩;have ht:(qG q p.1.1)[j]? =some (some t):=ht;have hl:=(Lf (q:=q) (x:=p.1.1)).1;have hj:=(fe.1 ht).1;have hj0:j=0:=(by split at hl<;>omega);subst hj0;refine i2 t ?_
   match ho:qG q p.1.1,ht,hl with
   |[z],ht,_=>simpa using ht
   |[],ht,_=>simp at ht
   |_::_::_,_,hl=>simp only[bH]at hl;split at hl<;>omega
  ·cases h
 |n,q::q'::l,ds,x,h,hb=>by
  simp only[QA]at h;have⟨p,h1,h⟩:=aj.1 h;have⟨y,h2,h⟩:=aj.1 h;cases h;obtain⟨i1,i2,_⟩:=Yx (ns:=ns) hbad m7 hns hmu h1 (λ b hb'=>hb b (by simp[hb']));obtain⟨k1,k2⟩:=ab5 (ns:=ns) hbad m7 hns hmu h2 (λ b hb'=>hb b (by simp[hb']));refine⟨i1 _ k1,λj t ht=>?_⟩;have ht:(qG q p.1.1++nR (q'::l) y.1)[j]? =some (some t):=ht;have hl:=(Lf (q:=q) (x:=p.1.1)).1;by_cases hq:q.out=true
  ·rw[aP hq]at k2 hl;cases j with
   |zero=>
    refine i2 t ?_
    match ho:qG q p.1.1,ht,hl with
    |[z],ht,_=>simpa using ht
    |[],_,hl=>simp at hl
    |_::_::_,_,hl=>simp at hl
   |succ j=>
    rw[fO (by omega),hl,Nat.add_sub_cancel]at ht;rw[show n+(j+1)=n+1+j by omega];exact k2 j t ht
  ·rw[aM hq]at k2 hl;rw[fO (by omega),hl,Nat.sub_zero]at ht;exact k2 j t ht
end
theorem ke.R{get:Nat->Option aX}{fk:Option Nat}{os':List (Option fF)}:∀{xs:List AV}{cs:List RC},ke get fk os' xs cs->AC get fk os' xs (match cs with |[c]=> .one c |cs=> .ey cs)
 |[],[],_=>rfl
 |[_],[_],h=>h.1
 |_::_::_,_::_::_,h=>h
 |[],_::_,h=>h.elim
 |_::_,[],h=>h.elim
 |[_],_::_::_,h=>h.2.elim
 |_::_::_,[_],h=>h.2.elim
theorem amY{s:cV X}{rs:List ResultVar}{l:List (RT X.ι)}{r:uh X l}(h:(Yw T s rs λds=>(HM s l ds).bind λx=>XO x.2 (some x.1))=some r):∃xs fk,mW T s.st rs=some xs/\AC s.st.obj fk (nR l r) xs (uD l r)/\Hb s.st.obj fk (nR l r):=by
 have⟨ds,h1,h⟩:=Gi T h;rw[aj]at h;obtain⟨x,h2,h⟩:=h;have⟨h3,h⟩:=pV h;cases h;unfold HM at h2;split at h2
 ·rename_i hnb;have hkn:∀j,kept (nR l x.1) j->j∈yA 0 l:=λj ⟨p,hp⟩=>by
   have:=Gj (n:=0) hp;simpa using this
  have hbad:∀j,j∉yA 0 l++(Tn l ds).toList->Tn l ds≠some j/\¬kept (nR l x.1) j:=by
   intro j hj;simp only[bf,Option.mem_toList,not_or]at hj;exact⟨hj.2,λh=>hj.1 (hkn j h)⟩
  have m7:∀k,Tn l ds=some k->¬kept (nR l x.1) k:=λk hk hkk=>IB hnb k (by simp[hk]) (hkn k hkk);have hmu:∀j∈oA 0 l,kept (nR l x.1) j:=λj hj=>by
   have⟨p,hp⟩:=afK (x:=x.1) hj;exact⟨p,by simpa using hp⟩
  obtain⟨i1,i2⟩:=ab5 (ns:=tE l x.1) hbad m7 (λ j dl hj hl=>OO h2 h3 j dl (by simpa using hj) (by simpa using hl)) hmu h2 h3;have f6:s.st.obj=fJ (eE s.obj):=rfl;refine⟨bM ds,Tn l ds,Tm T h1,?_,λj p hp=>?_⟩
  ·rw[f6];exact i1.R
  ·have⟨o,g1,g2,g3⟩:=i2 j p hp;rw[Nat.zero_add]at g1;exact⟨λ e=>m7 j e ⟨p,hp⟩,bJ o,by rw[f6];simp[fJ,g1],g2,by rw[f6];exact g3⟩
 ·cases h2
variable {Γ:FuncId->Option (bt X)} {aw:TypeId->Option (CT X.ι)} {P:Program}
theorem aqs(hT : fE P T)(hm : P.follows .mixedOrders = true)(hΓ : pb P Γ){f : FuncId}{fn : Func}{c : Code}(hfn : P.funcs[f]? = some fn)(hb : fn.body = some c)(hname : (fn.name == "runtime.NumGoroutine") = false)(sa : List (AT X.ι))(sr : List (RT X.ι))(hN : sa.length <= fn.ntmps /\ qH sa <= 1000 /\ (sr.filter RT.out).length = qH sa)
 (h:Hn X.ι) (n:Nat) {a:jm X sa} {r:uh X sr} (hr:run Γ T aw fn.ntmps n c (uh X sr) h (tg sa a) (TZ T fn.results.toList sr)=some r):pT P f (Br sa a) (qF sa a) (nR sr r) (uD sr r):=by
 have hl:(nR sr r).length=(qF sa a).length:=by
  rw[lm,<- hN.2.2];have:∀(sr:List (RT X.ι))(r:uh X sr),(nR sr r).length=(sr.filter RT.out).length:=by
   intro sr
   induction sr with
   |nil=>intro r;rfl
   |cons q l ih=>
    intro r;have hq:∀x:RT.T X q,(qG q x).length=(if q.out then 1 else 0):=λx=>Lf.1;cases l with
    |nil=>
     show(qG q r).length=_;rw[hq];by_cases e:q.out=true<;>simp[e]
    |cons q' l=>
     show(qG q r.1++nR (q'::l) r.2).length=_;rw[bW,hq,ih r.2];by_cases e:q.out=true<;>simp[List.filter_cons,e];omega
  exact this sr r
 refine aks hT hfn hb hname (by rw[lg];exact hN.1) (λ k hk=>?_) (by rw[lm];exact hN.2.1) hl ?_
 ·rw[Br,<- tO,iy]at hk;have:=o6 0 sa a k hk;have:=hN.2.1;omega
 ·rw[<- apF];refine(kQ hT hm hΓ c _ h _ _ r (aoy sa a hN.2.1) hr).mono ?_;rintro e σ ⟨s',_,_,rfl,g4⟩;cases e<;>first |exact amY g4 |cases g4
theorem mO{f : FuncId}{fn : Func}{c : Code}(hfn : P.funcs[f]? = some fn)(hb : fn.body = some c)(hname : (fn.name == "runtime.NumGoroutine") = false): kV P f := ⟨fn, hfn, by rw [hb]; rfl, hname⟩
abbrev sY(P:Program)(f:FuncId)(s:bt X):Prop:=kV P f/\(∀ a r,s.fn a=some r->pT P f (Br s.args a) (qF s.args a) (nR s.res r) (uD s.res r))/\∀g,s.gen=some g->Ax P f g
theorem Ek{P:Program}{f:FuncId}{s:bt X}(h:kV P f)(h1:∀a r,s.fn a=some r->pT P f (Br s.args a) (qF s.args a) (nR s.res r) (uD s.res r))(hg:s.gen=none):sY P f s:=⟨h,h1,λg e=>by rw[hg]at e;cases e⟩
theorem TX{P:Program}{f:FuncId}{g:cM X}(h:kV P f)(hg:Ax P f g):sY P f ⟨[],[.d .bool],λ_=>none,some g⟩:=⟨h,λ_ _ e=>(by cases e),λ_ e=>(by cases e;exact hg)⟩
def jn(s t:bt X):bt X:=⟨s.args,s.res,s.fn,t.gen⟩
theorem aqM{P:Program}{f:FuncId}{s t:bt X}(h:sY P f s)(h':sY P f t):sY P f (jn s t):=⟨h.1,h.2.1,h'.2.2⟩
def tw(l:List (FuncId×bt X)):FuncId->Option (bt X):=λf=>lk l f
theorem aA:pb P (tw ([]:List (FuncId×bt X))):=λ_ _ h=>by cases h
theorem au{f:FuncId}{s:bt X}{l:List (FuncId×bt X)}(h:sY P f s)(hl:pb P (tw l)):pb P (tw ((f,s)::l)):=by
 intro g q hg;simp only[tw,lk]at hg;split at hg
 ·rename_i e;cases hg;subst e;exact h
 ·exact hl g q hg
end
end Go.Gb
