import Derived.Test.YtbdekfpclohfnaaGreatW4
open List (mem_map all_eq_true length_map map_map map_nil)
namespace Go.Gb
open Go.RowKit
section
variable {X:SX} {T:da}
theorem OQ(ol:Nat->Nat):∀(ps:List (Pt X.ι))(L:List (DC X)),(ia ol ps L).1.length=ps.length
 |[],_=>rfl
 |p::ps,L=>by simp only[ia,bH,OQ ol ps]
def cM.vn(g:cM X):Bool:=
 decide (g.fW.map (·.1)=List.range g.fW.length)&&decide (g.fW.length<=1000)&&((EZ g.mf).all λk=>Nat.blt k 1000)&&g.fW.all λq=>q.2.refs.all λk=>Nat.blt k 1000
def AH(g:cM X)(v:VT (X:=X) (cC g.mf++cx g.fW)):cV X:=⟨(List.range g.mf.length).zip (g.args v),F0 g.mf g.fW (yj _ v),1000,[]⟩
theorem wL{ol:Nat->Nat}:∀(O:List (Nat×OP X.ι))(L:List (DC X)),dx ol O L=(dJ (dx ol O L)).map λp=>(p.1,some p.2)
 |[],L=>rfl
 |(k,.l c)::O,L=>by
  match L with
  |[]=>rfl
  |⟨.sl c',x⟩::L=>simp only[dx,dJ,aF];rw[<- wL O L]
  |⟨.int _,x⟩::L=>rfl
  |⟨.bool,x⟩::L=>rfl
  |⟨.str,x⟩::L=>rfl
  |⟨.any,x⟩::L=>rfl
  |⟨.st _,x⟩::L=>rfl
  |⟨.mp _ _,x⟩::L=>rfl
 |(k,.m kc vc)::O,L=>by
  match L with
  |[]=>rfl
  |⟨.mp _ _,x⟩::L=>simp only[dx,dJ,aF];rw[<- wL O L]
  |⟨.sl _,x⟩::L=>rfl
  |⟨.int _,x⟩::L=>rfl
  |⟨.bool,x⟩::L=>rfl
  |⟨.str,x⟩::L=>rfl
  |⟨.any,x⟩::L=>rfl
  |⟨.st _,x⟩::L=>rfl
 |(k,.c sz rows)::O,L=>by simp only[dx,dJ,aF];rw[<- wL O _]
theorem IE{ol:Nat->Nat}:∀(O:List (Nat×OP X.ι))(L:List (DC X)),L.map (·.c)=cx O->(dJ (dx ol O L)).map (·.1)=O.map (·.1)
 |[],L,_=>rfl
 |(k,.l c)::O,L,h=>by
  match L,h with
  |⟨.sl c',x⟩::L,h=>
   simp only[aF,cx,List.cons.injEq]at h;simp only[dx,dJ,aF,IE O L h.2]
  |[],h=>simp[cx]at h
  |⟨.int _,x⟩::L,h=>simp[cx]at h
  |⟨.bool,x⟩::L,h=>simp[cx]at h
  |⟨.str,x⟩::L,h=>simp[cx]at h
  |⟨.any,x⟩::L,h=>simp[cx]at h
  |⟨.st _,x⟩::L,h=>simp[cx]at h
  |⟨.mp _ _,x⟩::L,h=>simp[cx]at h
 |(k,.m kc vc)::O,L,h=>by
  match L,h with
  |⟨.mp _ _,x⟩::L,h=>
   simp only[aF,cx,List.cons.injEq]at h;simp only[dx,dJ,aF,IE O L h.2]
  |[],h=>simp[cx]at h
  |⟨.sl _,x⟩::L,h=>simp[cx]at h
  |⟨.int _,x⟩::L,h=>simp[cx]at h
  |⟨.bool,x⟩::L,h=>simp[cx]at h
  |⟨.str,x⟩::L,h=>simp[cx]at h
  |⟨.any,x⟩::L,h=>simp[cx]at h
  |⟨.st _,x⟩::L,h=>simp[cx]at h
 |(k,.c sz rows)::O,L,h=>by
  simp only[cx]at h;simp only[dx,dJ,aF,IE O _ (OI (ol:=ol) rows L _ h).1]
theorem akS(g:cM X)(v:VT (X:=X) (cC g.mf++cx g.fW))(h:g.fW.map (·.1)=List.range g.fW.length):(g.cw v).map (·.1)=List.range (g.cw v).length:=by
 have e:(g.cw v).map (·.1)=g.fW.map (·.1):=IE g.fW _ (by rw[List.map_drop,PJ,List.drop_left]);have l:=congrArg List.length e;rw[length_map,length_map]at l;rw[e,h,l]
theorem Yy(k:Nat):∀l:List (Nat×bk X),eE (l.map λp=>(p.1,some p.2)) k=pD l k
 |[]=>rfl
 |p::l=>by
  simp only[aF,eE,lk,pD];split
  ·rfl
  ·exact Yy k l
theorem Wf(t:Nat):∀(ks:List Nat)(ds:List (DV X)),den (d5 (ks.zip ds) t)=(lk (ks.zip (bM ds)) t).getD .undef:=by
 intro ks
 induction ks with
 |nil=>intro ds;rfl
 |cons k ks ih=>
  intro ds;cases ds with
  |nil=>rfl
  |cons d ds=>
   simp only[List.zip_cons_cons,d5,lk,bM];by_cases h:k=t
   ·simp[h]
   ·simp only[aM h];exact ih ds
theorem ab6(t:Nat):∀(ks:List Nat)(ds:List (DV X)),∀j∈bj (d5 (ks.zip ds) t),j∈aV ds:=by
 intro ks
 induction ks with
 |nil=>intro ds j hj;simp[d5,lk,bj]at hj
 |cons k ks ih=>
  intro ds j hj;cases ds with
  |nil=>simp[d5,lk,bj]at hj
  |cons d ds=>
   simp only[List.zip_cons_cons,d5,lk]at hj;simp only[aV,bf];by_cases e:k=t
   ·simp only[aP e,Option.getD_some]at hj;exact .inl hj
   ·simp only[aM e]at hj;exact .inr (ih ds j hj)
def Ee(g:cM X):Sh X.ι:=⟨jp 0 g.eC,g.gg,[],[],1000000,[]⟩
def UP(T:da)(rs:List ResultVar)(g:cM X):Exit->cV X->Option (VT (X:=X) (Ee g).vars)
 | .normal,s=>Yw T s rs λds=>bif decide (ds.length=g.eC.length)&&(aV ds).all (λ k=>Nat.blt k s.nx)then
  OL (Ee g) (List.range ds.length) ⟨(List.range ds.length).zip ds,s.obj,s.nx,s.log⟩ ⟨(List.range ds.length).zip ds,s.obj,s.nx,s.log⟩ some else none
 | .ret,s=>Yw T s rs λds=>bif decide (ds.length=g.eC.length)&&(aV ds).all (λ k=>Nat.blt k s.nx)then
  OL (Ee g) (List.range ds.length) ⟨(List.range ds.length).zip ds,s.obj,s.nx,s.log⟩ ⟨(List.range ds.length).zip ds,s.obj,s.nx,s.log⟩ some else none
 |_,_=>none
theorem Yz{ol:Nat->Nat}(t:Nat):∀(n:Nat)(ps:List (Pt X.ι))(L:List (DC X)),d5 (OH ol (jp n ps) L) (n+t)=((ia ol ps L).1[t]?).getD .undef
 |n,[],L=>by simp[jp,OH,d5,lk,ia]
 |n,p::ps,L=>by
  simp only[jp,OH,d5,lk,ia];cases t with
  |zero=>simp
  |succ t=>
   rw[aM (by omega)];have:=Yz (ol:=ol) t (n+1) ps (eP ol p L).2;rw[show n+1+t=n+(t+1)by omega]at this;simpa[d5]using this
theorem akT {P:Program} {g:cM X} {s:cV X} {rs:List ResultVar} {r:VT (X:=X) (Ee g).vars} (hl:Low s) (h:(Yw T s rs λds=>bif decide (ds.length=g.eC.length)&&(aV ds).all (λ k=>Nat.blt k s.nx)then
 OL (Ee g) (List.range ds.length) ⟨(List.range ds.length).zip ds,s.obj,s.nx,s.log⟩ ⟨(List.range ds.length).zip ds,s.obj,s.nx,s.log⟩ some else none)=some r):
 ∃xs,mW T s.st rs=some xs/\Ha P s.st.obj xs (q9 (g.outs r)) (den (g.res r)):=by
 have⟨ds,h1,h⟩:=Gi T h;have⟨h2,h⟩:=dN h;simp only[aD,aG]at h2;obtain⟨h2,h3⟩:=h2;have hl':Low (⟨(List.range ds.length).zip ds,s.obj,s.nx,s.log⟩:cV X):=⟨hl.le,hl.ge,λt k hk=>by
  have:=all_eq_true.1 h3 k (ab6 t _ _ k hk);exact Nat.blt_eq.mp this,hl.obj⟩
 obtain⟨v,h4,_,_,hrel⟩:=Qx hl' (Ext.refl _ _) h;injection h4 with h4;subst h4;refine⟨bM ds,Tm T h1,λw0 O0 β I w vs hM hv=>?_⟩;have hvl:=be.length _ _ hv;simp only[Array.length_toList,kX]at hvl;have hR:Rel P w0 O0 vs.size β I (⟨(List.range ds.length).zip ds,s.obj,s.nx,s.log⟩:cV X).st { tmps:=vs,defers:=[] } w:=by
  refine⟨rfl,rfl,λt=>?_,hM⟩;show VR P β w I (den (d5 ((List.range ds.length).zip ds) t)) (vs.getD t undef);rw[Wf,show List.range ds.length=List.range (bM ds).length by rw[kX],EW];cases ht:(bM ds)[t]? with
  |none=>simp[VR]
  |some x=>
   obtain⟨u,g1,g2⟩:=be.get _ _ t _ hv ht;rw[Array.getElem?_toList]at g1;simp only[Option.getD_some,Array.getD_eq_getD_getElem?,g1];exact g2
 obtain⟨β',hR'⟩:=hrel P w0 O0 _ β I _ w hR;have hn:(fx (jp 0 g.eC)).length=(cC g.eC).length:=by rw[S9]
 refine⟨β',I,?_,λ_ h=>h,?_⟩
 ·have:=hR'.mem;have e:(encS (Ee g) ⟨(List.range ds.length).zip ds,s.obj,s.nx,s.log⟩ v).st.obj=me (q9 (g.outs v)):=by
   funext k;simp only[cV.st,encS,Ee,map_nil,List.append_nil,Ti,cM.outs,F0,EX];rw[wL,Yy,<- hn];rfl
  rw[e]at this;exact this
 ·obtain⟨pv,hpv⟩:∃pv,pv=X3 g.eC g.gg (yj (Ee g).vars v):=⟨_,rfl⟩;have hres:g.res v=Bq pv:=by rw[hpv];rfl
  have m8:∀t,VR P β' w I (den ((pv[t]?).getD .undef)) (vs.getD t undef):=by
   intro t;have:=hR'.env t;simp only[cV.st,ee,encS,Ee,map_nil,List.append_nil]at this;have e:=Yz (ol:=EX g.gg ((yj (Ee g).vars v).drop (cC g.eC).length)) t 0 g.eC ((yj (Ee g).vars v).take (cC g.eC).length);rw[Nat.zero_add]at e;rw[hpv];simp only[X3];rw[<- e,<- hn];exact this
  have hpl:pv.length=g.eC.length:=by rw[hpv];exact OQ _ _ _
  have hsz:vs.size=pv.length:=by rw[hpl,<- h2,hvl]
  rw[hres];have hall:be P β' w I (bM pv) vs.toList:=by
   have gen:∀(pv:List (DV X)) (us:List Value),us.length=pv.length->(∀ t,t<pv.length->VR P β' w I (den ((pv[t]?).getD .undef)) (us.getD t undef))->be P β' w I (bM pv) us:=by
    intro pv
    induction pv with
    |nil=>intro us hl _;cases us<;>simp_all [bM,be]
    |cons d pv ih=>
     intro us hl hh;cases us with
     |nil=>simp at hl
     |cons u us=>
      simp only[bM,be];refine⟨by simpa using hh 0 (by simp),ih us (by simpa using hl) λt ht=>by simpa using hh (t+1) (by simpa using ht)⟩
   refine gen pv vs.toList (by simpa using hsz) λt ht=>?_;have e:vs.toList.getD t undef=vs.getD t undef:=(by simp[List.getD_eq_getElem?_getD,Array.getD_eq_getD_getElem?]);rw[e];exact m8 t
  match pv,hsz,hall with
  |[d],hsz,hall=>
   obtain⟨u,rfl⟩:=Array.size_eq_one_iff.1 (show vs.size=1 by simpa using hsz);simp only[bM,be]at hall;simpa[Bq]using hall.1
  |[],hsz,hall=>
   have h1:¬vs.size=1:=(by rw[hsz];simp);rw[dif_neg h1];simp only[Bq,den,VR];exact⟨vs,rfl,hall⟩
  |d::e::pv,hsz,hall=>
   have h1:¬vs.size=1:=(by rw[hsz];simp);rw[dif_neg h1];simp only[Bq,den,VR];exact⟨vs,rfl,hall⟩
variable {Γ:FuncId->Option (bt X)} {aw:TypeId->Option (CT X.ι)} {P:Program}
theorem apG(hT : fE P T)(hm : P.follows .mixedOrders = true)(hΓ : pb P Γ){f : FuncId}{fn : Func}{c : Code}(hfn : P.funcs[f]? = some fn)(hb : fn.body = some c)(hname : (fn.name == "runtime.NumGoroutine") = false)(g : cM X)(hN : g.mf.length <= fn.ntmps)(hin : g.vn = true)
 (h:Hn X.ι) (n:Nat) (hr:∀v (r:VT (X:=X) (Ee g).vars),g.fn v=some r->run Γ T aw fn.ntmps n c (VT (X:=X) (Ee g).vars) h (AH g v) (UP T fn.results.toList g)=some r):Ax P f g:=by
 intro v r hv;have hrun:=hr v r hv;simp only[cM.vn,aD,aG]at hin;obtain⟨⟨⟨i1,i2⟩,i3⟩,i4⟩:=hin;obtain⟨s1,s2,_⟩:=Bw (ol:=EX g.fW ((yj (cC g.mf++cx g.fW) v).drop (cC g.mf).length)) g.fW ((yj _ v).drop (cC g.mf).length);have hargs:∀k∈aV (g.args v),k<1000:=λk hk=>Nat.blt_eq.mp (all_eq_true.1 i3 k (Bv g.mf _ k hk));have py:∀p∈g.cw v,p.1<1000/\∀j∈db p.2,j<1000:=by
  intro p hp;have⟨op,g1,g2⟩:=s2 p hp;have hk:p.1∈g.fW.map (·.1):=mem_map.2 ⟨_,g1,rfl⟩;rw[i1]at hk;have:=List.mem_range.1 hk;exact⟨by omega,λj hj=>Nat.blt_eq.mp (all_eq_true.1 (all_eq_true.1 i4 _ g1) j (g2 j hj))⟩
 have hal:(g.args v).length=g.mf.length:=OQ _ _ _;have hkeys:(g.cw v).map (·.1)=List.range (g.cw v).length:=akS g v i1;have f6:∀k,eE (AH g v).obj k=pD (g.cw v) k:=by
  intro k;show eE (dx _ g.fW _) k=pD (dJ (dx _ g.fW _)) k;rw[wL,Yy,<- wL]
 have K1:∀(l:List (Nat×bk X))(n:Nat),l.map (·.1)=(List.range l.length).map (n+ ·)->∀k,pD l (n+k)=(l[k]?).map (·.2):=by
  intro l
  induction l with
  |nil=>intro n _ k;rfl
  |cons p l ih=>
   intro n hn k;rw[bH,List.range_succ_eq_map,aF,aF,map_map]at hn;injection hn with e1 e2;simp only[pD];cases k with
   |zero=>rw[aP (by omega)];rfl
   |succ k=>
    rw[aM (by omega),show n+(k+1)=(n+1)+k by omega,ih (n+1) (by rw[e2];refine List.map_congr_left λa _=>?_;simp only[Function.comp_apply];omega) k];rfl
 have hlow:Low (AH g v):=by
  refine⟨by show 1000<=1000000;decide,aT _,λt k hk=>hargs k (ab6 t _ _ k hk),λk o ho=>?_⟩;rw[f6]at ho;have hmem:∀(l:List (Nat×bk X)),pD l k=some o->(k,o)∈l:=by
   intro l
   induction l with
   |nil=>intro h;simp[pD]at h
   |cons p l ih=>
    intro h;simp only[pD]at h;split at h
    ·rename_i e;cases h;subst e;exact List.mem_cons_self
    ·exact dD _ (ih h)
  exact py _ (hmem _ ho)
 refine akt hT hfn hb hname (by rw[kX,hal];exact hN) (λ k hk=>hargs k (by rwa [iy]at hk)) (by rw[length_map,<- length_map (f:=Prod.fst),hkeys,List.length_range];have:=s1.length_le;rw[length_map,length_map]at this;exact Nat.le_trans this i2) ?_ ?_
 ·intro o ho r' hr' x hx j hj;obtain⟨p,hp,rfl⟩:=mem_map.1 ho;exact(py p hp).2 j (Ym hr' hx j hj)
 ·have e:nw.st ⟨(List.range (bM (g.args v)).length).zip (bM (g.args v)),(List.range ((g.cw v).map λp=>bJ p.2).length).zip ((g.cw v).map λp=>bJ p.2)⟩=(AH g v).st:=by
   simp only[cV.st,nw.st,St.mk.injEq,and_true];refine⟨?_,?_⟩
   ·funext t;simp only[AH];rw[Wf,kX,hal]
   ·funext k;rw[EW,f6,List.getElem?_map];have:=K1 (g.cw v) 0 (by rw[hkeys];simp) k;rw[Nat.zero_add]at this;rw[this,Option.map_map];rfl
  rw[e];refine(kQ hT hm hΓ c _ h _ _ r hlow hrun).mono ?_;rintro e σ ⟨s',hl',_,rfl,g4⟩;cases e<;>first |exact akT hl' g4 |cases g4
end
def encR{α:Type}(enc:α->Value)(l:List α):List (List Tree):=l.map λx=>[.sc (enc x)]
def uv{α:Type}(enc:α->Value)(d:α)(n₀:Nat)(W:World)(sv:Value)(zs:List α):Prop:=
 (∃ a cap,sv= .slice a 0 cap/\zs=[])\/∃b ae cap,sv= .slice (some ⟨b,ae,none⟩) zs.length cap/\b<n₀/\∀j,j<zs.length->W.cell? ⟨b,ae+j,none⟩=some (enc (zs[j]?.getD d))
theorem ab7{α:Type}{enc:α->Value}{d:α}{w:World}{I:Nat->Prop}:∀(l:List α)(b ae sz:Nat),cj w I (encR enc l) b ae sz->∀j,j<l.length->w.cell? ⟨b,ae+j,none⟩=some (enc (l[j]?.getD d))
 |[],_,_,_,_,j,h=>by simp at h
 |x::l,b,ae,sz,h,j,hj=>by
  simp only[encR,aF,cj,de,TR]at h;obtain⟨h1,⟨⟨c,h2,rfl,_⟩,_⟩,h3⟩:=h;obtain rfl:sz=1:=by simpa using h1.symm
  cases j with
  |zero=>simpa using h2
  |succ j=>
   have:=ab7 (d:=d) l b (ae+1) 1 h3 j (by simpa using hj);simpa[Nat.add_assoc,Nat.add_comm 1 j]using this
section
variable {P:Program} {f F:FuncId} {E:TypeId} {α:Type} {enc:α->Value} {d:α}
theorem aoz(h1c:∀x,oneCell (enc x))(hcall:kV P f)
 (h:∀(Bn:Nat)(sv:Value)(xs:List α),xs.length<=1000000->∀w:World,w.cell? ⟨Bn,0,none⟩=some sv->Bn<w.heap.size->uv enc d w.heap.size w sv xs->
  Calls P f #[.slice none 0 0,.func (.func F) #[] #[.pointer (some ⟨Bn,0,none⟩)]] w λe W'=>∃v,e= .returned v/\W'.ownsRow w.heap.size E 1 v xs.length (xs.map enc)/\Below w.heap.size w W')
 (l:List α) (hl:l.length<=1000000):
 u9 P f [.cG,.fn F [] [.ptr 0 0 0]] [⟨1,[[.t (.sl (encR enc l))]]⟩] [(0,⟨1,[[.t (.sl (encR enc l))]]⟩),(1000,⟨1,aS (encR enc l)⟩)] (.own 1000 0 l.length):=by
 refine⟨hcall,λw β I vs hβ hM hvs=>?_⟩;obtain⟨vs⟩:=vs
 match vs,hvs with
 |[a,b],hvs=>
  simp only[be,VR]at hvs;obtain⟨rfl,⟨⟨fs⟩,⟨cs⟩,rfl,hfs,hcs⟩,_⟩:=hvs
  match fs,hfs,cs,hcs with
  |[],_,[p],hcs=>
   simp only[be,VR]at hcs;obtain⟨⟨b,sz,n,hb,rfl⟩,_⟩:=hcs;obtain⟨B,hB,hO⟩:=hM.cw 0 _ rfl;rw[hb]at hB;cases hB;simp only[OR,bo,cI]at hO;obtain⟨rfl,c,e,hheap,hsz,⟨_,⟨⟨sv,hsv,hT,_⟩,_⟩,_⟩⟩:=hO;simp only[VR]at hT;have hcell:w.cell? ⟨b,0,none⟩=some sv:=(by simp[World.cell?,hheap,hsv]);have hblt:b<w.heap.size:=(Array.getElem?_eq_some_iff.1 hheap).1;have hI:uv enc d w.heap.size w sv l:=by
    simp only[TR]at hT;rcases hT with ⟨h1,a,cap,rfl,_⟩ |⟨b2,ae,cap,sz2,rfl,h2,h3,h4⟩
    ·exact .inl ⟨a,cap,rfl,by simpa[encR]using h1⟩
    ·exact .inr ⟨b2,ae,cap,by simp[encR],hM.lt b2 h3,ab7 (d:=d) l b2 ae sz2 h4⟩
   refine(h b sv l hl w hcell hblt hI).mono ?_;rintro e w' ⟨v,rfl,hown,hbel⟩;obtain⟨hs,hM'⟩:=hM.below hbel (I':=I) (λ _ h=>h) (λ b hb=>Nat.lt_of_lt_of_le (hM.lt b hb) hbel.size) (λ b k o B h1 h2 h3 h4=>(hM.ownB k o B b h2 h3 h4).1 h1) hM.up;have hf:PB P (λ b=>w.heap.size<=b) 1 (encR enc l) w' I v:=by
    rcases hown.2 with ⟨rfl,h0⟩ |⟨g,cap,cur,rfl,hg,hgb,hle,_,hcs,htk⟩
    ·exact .inl ⟨by simpa[encR]using h0,rfl⟩
    ·refine .inr ⟨g,cur,E,cap,0,by simp[encR],hg,λhi=>absurd (hM.lt g hi) (by omega),hgb,by simpa[encR]using hle,by omega,?_,λ_=>rfl⟩;rw[wC];intro i r hr;simp only[aS,encR,map_map,List.getElem?_map,fq]at hr;obtain⟨x,hx,rfl⟩:=hr;refine⟨rfl,?_⟩;have hi:i<l.length:=(fe.1 hx).1;have:=congrArg (λ q=>q[i]?) htk;simp only[List.getElem?_take,List.getElem?_map,hx,Option.map_some]at this;rw[aP (by omega)]at this;simp only[Function.comp,aF,map_nil,cI,VR,TR];exact⟨⟨_,by simpa using this,⟨rfl,h1c x⟩,h1c x⟩,trivial⟩
   obtain⟨β',hS,hM2,hV⟩:=hM'.fresh (i:=1000) (hβ 1000 (by simp)) (F:=λb=>w.heap.size<=b) (λ k o b h1 h2 h3=>absurd (hM.fS k o b h1 h2).2.1 (by omega)) (λ b h=> .inr h) hf;refine⟨v,β',I,rfl,?_,λ_ h=>h,by simpa[encR]using hV⟩;have e:me [(0,(⟨1,[[.t (.sl (encR enc l))]]⟩:aX)),(1000,⟨1,aS (encR enc l)⟩)]=cZ (ri [⟨1,[[.t (.sl (encR enc l))]]⟩]) [(1000,some ⟨1,aS (encR enc l)⟩)]:=by
    funext k;simp only[me,cZ,ri];by_cases h1:k=1000
    ·subst h1;simp
    ·rw[aM h1];cases k with
     |zero=>rfl
     |succ k=>simp;intro h;omega
   rw[e];exact hM2
end
def AG{α:Type}(a0:List α):Option (List α×List α):=bif Nat.ble a0.length 1000000 then some (a0,a0)else none
section
variable {X:SX}
def TO(c:CT X.ι)(F:FuncId):cM X:=⟨[.nil,.f F [] [.p 0]],[(0,.c 1 [[.v (.sl c)]])],[.o 1000],[(0,.c 1 [[.v (.sl c)]]),(1000,.l c)],λv=>AG v⟩
theorem am0{P:Program}{f F:FuncId}{E:TypeId}{c:CT X.ι}{enc:CT.T X.toSE c->Value}{d:CT.T X.toSE c}(hc:∀x,CT.row X.toSE c x=[.sc (enc x)])(h1c:∀x,oneCell (enc x))(hcall:kV P f)
 (h:∀(Bn:Nat)(sv:Value)(xs:List (CT.T X.toSE c)),xs.length<=1000000->∀w:World,w.cell? ⟨Bn,0,none⟩=some sv->Bn<w.heap.size->uv enc d w.heap.size w sv xs->
  Calls P f #[.slice none 0 0,.func (.func F) #[] #[.pointer (some ⟨Bn,0,none⟩)]] w λe W'=>∃v,e= .returned v/\W'.ownsRow w.heap.size E 1 v xs.length (xs.map enc)/\Below w.heap.size w W'):
 Ax P f (TO c F:cM X):=by
 intro v r hr;have hr':AG v=some r:=hr;unfold AG at hr';cases hb:Nat.ble (List.length v) 1000000 with
 |false=>rw[hb]at hr';cases hr'
 |true=>
  rw[hb]at hr';injection hr' with hr';subst hr';have h2:=aoz h1c hcall h v (Nat.le_of_ble_eq_true hb);have e:encR enc v=List.map (CT.row X.toSE c) v:=List.map_congr_left λx _=>(hc x).symm;have hz:CT.sz X c=1:=by have:=congrArg List.length (hc d);rw[Bh]at this;exact this
  rw[e]at h2;have e2:bJ (.cY c v:bk X)=⟨1,aS (List.map (CT.row X.toSE c) v)⟩:=by show(⟨CT.sz X c,aS (List.map (CT.row X.toSE c) v)⟩:aX)=_;rw[hz]
  show u9 P f _ _ (q9 [(0,.cells 1 [[.c (.sl c) v]]),(1000,.cY c v)]) _;simp only[q9,aF,map_nil,e2];exact h2
end
section
variable {X:SX}
def CU{α β:Type}(f:α->Option β):List α->Option (List β)
 |[]=>some []
 |x::xs=>(f x).bind λy=>(CU f xs).bind λys=>some (y::ys)
def j8(dq:(i j:X.ι)->Decidable (i=j))(i:X.ι):CT X.ι->Option CS
 | .int k=>some (.int k)
 | .bool=>some .bool
 | .str=>some .str
 | .sl (.st j)=>match dq j i with
  | .isTrue _=>some .back
  | .isFalse _=>none
 |_=>none
def Up(dq:(i j:X.ι)->Decidable (i=j))(i:X.ι):Bool:=(X.cQ i).any λc=>match c with
 | .sl (.st j)=>match dq j i with
  | .isTrue _=>true
  | .isFalse _=>false
 |_=>false
def Hi(dq:(i j:X.ι)->Decidable (i=j)):CT X.ι->Option (List CS)
 | .st i=>bif Up dq i then CU (j8 dq i) (X.cQ i)else none
 |_=>none
theorem apH(dq:(i j:X.ι)->Decidable (i=j)){i:X.ι}{row:List CS}(hm:CU (j8 dq i) (X.cQ i)=some row){x:Tree}(h:BE row x):∃l:List (CT.T X.toSE (.st i)),x= .sl (l.map (CT.row X.toSE (.st i))):=by
 refine BE.rec (row:=row) (motive_1:=λx _=>∃l:List (CT.T X.toSE (.st i)),x= .sl (l.map (CT.row X.toSE (.st i)))) (motive_2:=λrows _=>∃l:List (CT.T X.toSE (.st i)),rows=l.map (CT.row X.toSE (.st i)))
  (motive_3:=λcs r _=>∀codes:List (CT X.ι),CU (j8 dq i) codes=some cs->∃h:HL X.toSE codes,r=HL.row X.toSE codes h) ?_ ?_ ?_ ?_ ?_ ?_ h
 ·rintro rows _ _ ⟨l,rfl⟩;exact⟨l,rfl⟩
 ·exact⟨[],rfl⟩
 ·rintro r rs _ _ h1 ⟨l,rfl⟩;obtain⟨q,rfl⟩:=h1 _ hm;exact⟨(X.make i q:X.T i)::l,by rw[aF];congr 1;exact(X.eK i q).symm⟩
 ·intro codes hc;cases codes with
  |nil=>exact⟨(),rfl⟩
  |cons c codes=>
   simp only[CU,aj]at hc;obtain⟨_,_,_,_,h⟩:=hc;cases h
 ·intro cs x xs _ _ h1 h2 codes hc;obtain⟨l,rfl⟩:=h1;cases codes with
  |nil=>simp[CU]at hc
  |cons c codes=>
   simp only[CU,aj]at hc;obtain⟨c',g1,cs',g2,g3⟩:=hc;injection g3 with g3;injection g3 with g4 g5;subst g4 g5;obtain⟨q,rfl⟩:=h2 _ g2
   match c,g1 with
   | .sl (.st j),g1=>
    simp only[j8]at g1;split at g1
    ·rename_i hj _;subst hj;exact⟨(l,q),rfl⟩
    ·cases g1
   | .int _,g1=>simp[j8]at g1
   | .bool,g1=>simp[j8]at g1
   | .str,g1=>simp[j8]at g1
   | .any,g1=>simp[j8]at g1
   | .st _,g1=>simp[j8]at g1
   | .mp _ _,g1=>simp[j8]at g1
   | .sl (.int _),g1=>simp[j8]at g1
   | .sl .bool,g1=>simp[j8]at g1
   | .sl .str,g1=>simp[j8]at g1
   | .sl .any,g1=>simp[j8]at g1
   | .sl (.sl _),g1=>simp[j8]at g1
   | .sl (.mp _ _),g1=>simp[j8]at g1
 ·intro c' cs x xs hf _ h2 codes hc;cases codes with
  |nil=>simp[CU]at hc
  |cons c codes=>
   simp only[CU,aj]at hc;obtain⟨c2,g1,cs',g2,g3⟩:=hc;injection g3 with g3;injection g3 with g4 g5;subst g4 g5;obtain⟨q,rfl⟩:=h2 _ g2
   match c,g1 with
   | .int k,g1=>
    cases g1;obtain⟨n,rfl,_⟩:=hf;exact⟨(n,q),rfl⟩
   | .bool,g1=>
    cases g1;obtain⟨n,rfl⟩:=hf;exact⟨(n,q),rfl⟩
   | .str,g1=>
    cases g1;obtain⟨n,rfl,_⟩:=hf;exact⟨(n,q),rfl⟩
   | .sl (.st j),g1=>
    simp only[j8]at g1;split at g1
    ·cases g1;exact hf.elim
    ·cases g1
   | .any,g1=>simp[j8]at g1
   | .st _,g1=>simp[j8]at g1
   | .mp _ _,g1=>simp[j8]at g1
   | .sl (.int _),g1=>simp[j8]at g1
   | .sl .bool,g1=>simp[j8]at g1
   | .sl .str,g1=>simp[j8]at g1
   | .sl .any,g1=>simp[j8]at g1
   | .sl (.sl _),g1=>simp[j8]at g1
   | .sl (.mp _ _),g1=>simp[j8]at g1
def mi:Nat->CT X.ι->Option (List CS)
 | 0,_=>none
 |_+1,.int k=>some [.int k]
 |_+1,.bool=>some [.bool]
 |_+1,.str=>some [.str]
 |_+1,.any=>some [.any]
 |_+1,.mp _ _=>none
 |n+1,.sl e=>match Hi X.dec e with
  |some row=>some [.mu row]
  |none=>(mi n e).bind λr=>some [.sl r]
 |n+1,.st i=>(CU (mi n) (X.cQ i)).bind λl=>some l.flatten
def nz(n:Nat)(c:CT X.ι):Option VS:=
 match c with
 | .st i=>(mi n (.st i:CT X.ι)).map .agg
 |c=>(mi n c).bind λl=>match l with
  |[x]=>some (.one x)
  |_=>none
theorem U6:∀(a b:List CS)(ys:List Tree),cN (a++b) ys->∃ya yb,ys=ya++yb/\cN a ya/\cN b yb
 |[],b,ys,h=>⟨[],ys,rfl,trivial,h⟩
 |c::a,b,y::ys,h=>by
  simp only[List.cons_append,cN]at h;obtain⟨ya,yb,rfl,h1,h2⟩:=U6 a b ys h.2;exact⟨y::ya,yb,rfl,⟨h.1,h1⟩,h2⟩
 |_::_,_,[],h=>h.elim
theorem afN{c:CT X.ι}{cs:List CS}(h:∀ys,cN cs ys->∃x:CT.T X.toSE c,ys=CT.row X.toSE c x):∀rows:List (List Tree),(∀ r∈rows,cN cs r)->∃l:List (CT.T X.toSE c),rows=l.map (CT.row X.toSE c)
 |[],_=>⟨[],rfl⟩
 |r::rows,hr=>by
  obtain⟨x,hx⟩:=h r (hr r (by simp));obtain⟨l,hl⟩:=afN h rows λq hq=>hr q (dD _ hq);exact⟨x::l,by rw[aF,<- hx,<- hl]⟩
theorem WF{f:CT X.ι->Option (List CS)}(hf:∀c cs,f c=some cs->∀ys,cN cs ys->∃x:CT.T X.toSE c,ys=CT.row X.toSE c x):∀(l:List (CT X.ι))(css:List (List CS)),CU f l=some css->∀ys,cN css.flatten ys->∃h:HL X.toSE l,ys=HL.row X.toSE l h
 |[],css,h,ys,hy=>by
  simp only[CU,aC]at h;subst h;cases ys with
  |nil=>exact⟨(),rfl⟩
  |cons y ys=>exact hy.elim
 |c::l,css,h,ys,hy=>by
  simp only[CU]at h;rw[aj]at h;obtain⟨a,h1,h⟩:=h;rw[aj]at h;obtain⟨b,h2,h⟩:=h;cases h;simp only[List.flatten_cons]at hy;obtain⟨ya,yb,rfl,g1,g2⟩:=U6 _ _ _ hy;have⟨x,hx⟩:=hf c a h1 ya g1;have⟨q,hq⟩:=WF hf l b h2 yb g2;exact⟨(x,q),by rw[hx,hq];rfl⟩
theorem Wz:∀(n:Nat)(c:CT X.ι)(cs:List CS),mi n c=some cs->∀ys,cN cs ys->∃x:CT.T X.toSE c,ys=CT.row X.toSE c x
 | 0,_,_,h,_,_=>by cases h
 |n+1,.mp _ _,cs,h,ys,hy=>by simp[mi]at h
 |n+1,.int k,cs,h,ys,hy=>by
  simp only[mi,aC]at h;subst h
  match ys,hy with
  |[y],hy=>
   simp only[cN,Fit,and_true]at hy;obtain⟨m,rfl,_⟩:=hy;exact⟨m,rfl⟩
  |[],hy=>exact hy.elim
  |_::_::_,hy=>exact hy.2.elim
 |n+1,.bool,cs,h,ys,hy=>by
  simp only[mi,aC]at h;subst h
  match ys,hy with
  |[y],hy=>
   simp only[cN,Fit,and_true]at hy;obtain⟨m,rfl⟩:=hy;exact⟨m,rfl⟩
  |[],hy=>exact hy.elim
  |_::_::_,hy=>exact hy.2.elim
 |n+1,.str,cs,h,ys,hy=>by
  simp only[mi,aC]at h;subst h
  match ys,hy with
  |[y],hy=>
   simp only[cN,Fit,and_true]at hy;obtain⟨m,rfl,_⟩:=hy;exact⟨m,rfl⟩
  |[],hy=>exact hy.elim
  |_::_::_,hy=>exact hy.2.elim
 |n+1,.any,cs,h,ys,hy=>by
  simp only[mi,aC]at h;subst h
  match ys,hy with
  |[y],hy=>exact⟨y,rfl⟩
  |[],hy=>exact hy.elim
  |_::_::_,hy=>exact hy.2.elim
 |n+1,.sl e,cs,h,ys,hy=>by
  simp only[mi]at h;split at h
  ·rename_i row hm;cases h
   match ys,hy with
   |[y],hy=>
    simp only[cN,Fit,and_true]at hy;cases e with
    |st i=>
     simp only[Hi]at hm;cases hb:Up X.dec i with
     |false=>rw[hb]at hm;cases hm
     |true=>
      rw[hb]at hm;have⟨l,hl⟩:=apH X.dec hm hy;exact⟨l,by rw[hl];rfl⟩
    |_=>cases hm
   |[],hy=>exact hy.elim
   |_::_::_,hy=>exact hy.2.elim
  rw[aj]at h;obtain⟨r,h1,h⟩:=h;cases h
  match ys,hy with
  |[y],hy=>
   simp only[cN,Fit,and_true]at hy;obtain⟨rows,rfl,_,hr⟩:=hy;have⟨l,hl⟩:=afN (Wz n e r h1) rows hr;exact⟨l,by rw[hl];rfl⟩
  |[],hy=>exact hy.elim
  |_::_::_,hy=>exact hy.2.elim
 |n+1,.st i,cs,h,ys,hy=>by
  simp only[mi]at h;rw[aj]at h;obtain⟨css,h1,h⟩:=h;cases h;have⟨q,hq⟩:=WF (Wz n) (X.cQ i) css h1 ys hy;exact⟨X.make i q,by rw[hq];exact(X.eK i q).symm⟩
theorem aoB{n:Nat}{c:CT X.ι}{s:VS}(h:nz n c=some s){x:TV}(hx:SK s x):∃y:CT.T X.toSE c,x=CT.tv X.toSE c y:=by
 have one:∀c:CT X.ι,c.one=true->((mi n c).bind λl=>match l with
  |[x]=>some (VS.one x)
  |_=>none)=some s->∃y:CT.T X.toSE c,x=CT.tv X.toSE c y:=by
  intro c hc h;rw[aj]at h;obtain⟨l,h1,h⟩:=h;split at h
  ·rename_i z;cases h;simp only[SK]at hx;obtain⟨t,rfl,ht⟩:=hx;obtain⟨y,hy⟩:=Wz n c _ h1 [t] ⟨ht,trivial⟩;obtain⟨t',e1,e2⟩:=row_one hc y;rw[e1]at hy;cases hy;exact⟨y,e2.symm⟩
  ·cases h
 cases c
 case st i=>
  simp only[nz,fq]at h;obtain⟨cs,h1,rfl⟩:=h;simp only[SK]at hx;obtain⟨ys,rfl,hy⟩:=hx;obtain⟨y,hy⟩:=Wz n (.st i) _ h1 ys hy;exact⟨y,by rw[hy];rfl⟩
 all_goals exact one _ rfl h
theorem afO(n:Nat):∀(cs:List (CT X.ι))(ss:List VS),CU (nz n) cs=some ss->∀xs,NV ss xs->∃h:HL X.toSE cs,xs=HL.k6 X.toSE cs h
 |[],ss,h,xs,hx=>by
  simp only[CU,aC]at h;subst h;cases xs with
  |nil=>exact⟨(),rfl⟩
  |cons x xs=>exact hx.elim
 |c::cs,ss,h,xs,hx=>by
  simp only[CU]at h;rw[aj]at h;obtain⟨a,h1,h⟩:=h;rw[aj]at h;obtain⟨b,h2,h⟩:=h;cases h;cases xs with
  |nil=>exact hx.elim
  |cons x xs=>
   obtain⟨y,rfl⟩:=aoB h1 hx.1;obtain⟨q,rfl⟩:=afO n cs b h2 xs hx.2;exact⟨(y,q),rfl⟩
theorem am2{P:Program}{f:FuncId}{n:Nat}{cs:List (CT X.ι)}{ss:List VS}{fn:Nat->jm X (cs.map AT.d)->Option Bool}(hc:∀k,sY P f ⟨cs.map AT.d,[.d .bool],fn k,none⟩)(hs:CU (nz n) cs=some ss)(hl:∀q:HL X.toSE cs,NV ss (HL.k6 X.toSE cs q)->∃k,fn k (hlA cs q)=some true)(xs:List TV)(h:NV ss xs):
 pr P f (xs.map TV.av) (.one (.d (.s (.sc (.bool true))))):=by
 obtain⟨q,rfl⟩:=afO n cs ss hs xs h;have⟨k,hk⟩:=hl q h;have h1:=(hc k).2.1 (hlA cs q) true hk;have h2:=h1;rw[Bt (QP cs)]at h2;have h3:pT P f (Br (cs.map AT.d) (hlA cs q)) [] [] (.one (.d (.s (.sc (.bool true))))):=h2;have h4:=XK h3;rw[Br,Ta]at h4;exact h4
end
end Go.Gb
