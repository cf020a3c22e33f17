import Derived.Test.YtdpcmnckfpgejaaGreatW4
open List (mem_map all_eq_true length_map map_nil)
namespace Go.Gb
open Go.RowKit
section
variable {X:SX} {T:dC}
theorem Nl(ol:Nat->Nat):∀(ps:List (Pt X.ι))(L:List (DC X)),(lp ol ps L).1.length=ps.length
 |[],_=>rfl
 |p::ps,L=>by simp only[lp,bE,Nl ol ps]
def cT.yp(g:cT X):Bool:=
 decide (g.iz.map (·.1)=List.range g.iz.length)&&decide (g.iz.length<=1000)&&((Dr g.pn).all λk=>Nat.blt k 1000)&&g.iz.all λq=>q.2.refs.all λk=>Nat.blt k 1000
def DG(g:cT X)(v:VT (X:=X) (cL g.pn++cE g.iz)):dc X:=⟨(List.range g.pn.length).zip (g.args v),H2 g.pn g.iz (xh _ v),1000,[]⟩
theorem vS{ol:Nat->Nat}:∀(O:List (Nat×OP X.ι))(L:List (DC X)),bZ ol O L=(cZ (bZ ol O L)).map λp=>(p.1,some p.2)
 |[],L=>rfl
 |(k,.l c)::O,L=>by
  match L with
  |[]=>rfl
  |⟨.sl c',x⟩::L=>simp only[bZ,cZ,aC];rw[<- vS O L]
  |⟨.int _,x⟩::L=>rfl
  |⟨.bool,x⟩::L=>rfl
  |⟨.str,x⟩::L=>rfl
  |⟨.any,x⟩::L=>rfl
  |⟨.st _,x⟩::L=>rfl
  |⟨.mp _ _,x⟩::L=>rfl
 |(k,.m kc vc)::O,L=>by
  match L with
  |[]=>rfl
  |⟨.mp _ _,x⟩::L=>simp only[bZ,cZ,aC];rw[<- vS O L]
  |⟨.sl _,x⟩::L=>rfl
  |⟨.int _,x⟩::L=>rfl
  |⟨.bool,x⟩::L=>rfl
  |⟨.str,x⟩::L=>rfl
  |⟨.any,x⟩::L=>rfl
  |⟨.st _,x⟩::L=>rfl
 |(k,.c sz rows)::O,L=>by simp only[bZ,cZ,aC];rw[<- vS O _]
theorem GL{ol:Nat->Nat}:∀(O:List (Nat×OP X.ι))(L:List (DC X)),L.map (·.c)=cE O->(cZ (bZ ol O L)).map (·.1)=O.map (·.1)
 |[],L,_=>rfl
 |(k,.l c)::O,L,h=>by
  match L,h with
  |⟨.sl c',x⟩::L,h=>
   simp only[aC,cE,List.cons.injEq]at h;simp only[bZ,cZ,aC,GL O L h.2]
  |[],h=>simp[cE]at h
  |⟨.int _,x⟩::L,h=>simp[cE]at h
  |⟨.bool,x⟩::L,h=>simp[cE]at h
  |⟨.str,x⟩::L,h=>simp[cE]at h
  |⟨.any,x⟩::L,h=>simp[cE]at h
  |⟨.st _,x⟩::L,h=>simp[cE]at h
  |⟨.mp _ _,x⟩::L,h=>simp[cE]at h
 |(k,.m kc vc)::O,L,h=>by
  match L,h with
  |⟨.mp _ _,x⟩::L,h=>
   simp only[aC,cE,List.cons.injEq]at h;simp only[bZ,cZ,aC,GL O L h.2]
  |[],h=>simp[cE]at h
  |⟨.sl _,x⟩::L,h=>simp[cE]at h
  |⟨.int _,x⟩::L,h=>simp[cE]at h
  |⟨.bool,x⟩::L,h=>simp[cE]at h
  |⟨.str,x⟩::L,h=>simp[cE]at h
  |⟨.any,x⟩::L,h=>simp[cE]at h
  |⟨.st _,x⟩::L,h=>simp[cE]at h
 |(k,.c sz rows)::O,L,h=>by
  simp only[cE]at h;simp only[bZ,cZ,aC,GL O _ (Nh (ol:=ol) rows L _ h).1]
theorem ai1(g:cT X)(v:VT (X:=X) (cL g.pn++cE g.iz))(h:g.iz.map (·.1)=List.range g.iz.length):(g.cI v).map (·.1)=List.range (g.cI v).length:=by
 have e:(g.cI v).map (·.1)=g.iz.map (·.1):=GL g.iz _ (by rw[List.map_drop,T4,List.drop_left]);have l:=congrArg List.length e;rw[length_map,length_map]at l;rw[e,h,l]
theorem Xy(k:Nat):∀l:List (Nat×bu X),fY (l.map λp=>(p.1,some p.2)) k=s6 l k
 |[]=>rfl
 |p::l=>by
  simp only[aC,fY,lk,s6];split
  ·rfl
  ·exact Xy k l
theorem akA(t:Nat):∀(ks:List Nat)(ds:List (DV X)),den (eC (ks.zip ds) t)=(lk (ks.zip (bJ ds)) t).getD .undef:=by
 intro ks
 induction ks with
 |nil=>intro ds;rfl
 |cons k ks ih=>
  intro ds;cases ds with
  |nil=>rfl
  |cons d ds=>
   simp only[List.zip_cons_cons,eC,lk,bJ];by_cases h:k=t
   ·simp[h]
   ·simp only[aN h];exact ih ds
theorem aa0(t:Nat):∀(ks:List Nat)(ds:List (DV X)),∀j∈bo (eC (ks.zip ds) t),j∈aS ds:=by
 intro ks
 induction ks with
 |nil=>intro ds j hj;simp[eC,lk,bo]at hj
 |cons k ks ih=>
  intro ds j hj;cases ds with
  |nil=>simp[eC,lk,bo]at hj
  |cons d ds=>
   simp only[List.zip_cons_cons,eC,lk]at hj;simp only[aS,aW];by_cases e:k=t
   ·simp only[aO e,Option.getD_some]at hj;exact .inl hj
   ·simp only[aN e]at hj;exact .inr (ih ds j hj)
def GN(O:List (Nat×OP X.ι)):List (Nat×Pt X.ι)->List (Nat×CT X.ι)
 |[]=>[]
 |(t,.o k)::r=>match lk O k with
  |some (.l c)=>(t,c)::GN O r
  |_=>GN O r
 |(t,.oz k)::r=>match lk O k with
  |some (.l c)=>(t+1099511627776,c)::GN O r
  |_=>GN O r
 |_::r=>GN O r
def Xz(O:List (Nat×OP X.ι)):List (Nat×OP X.ι)->List (Nat×CT X.ι)
 |(q,.c _ [row])::r=>(GN O (lr (1000000+q*4096) row)).filter (λ p=>Nat.ble p.1 1000000000)++Xz O r
 |_::r=>Xz O r
 |[]=>[]
def Cx(g:cT X):Sh X.ι:=⟨lr 0 g.fy,g.ix,[],[],1000000,GN g.ix (lr 0 g.fy)++Xz g.ix g.ix⟩
def amS(T:dC)(rs:List ResultVar)(g:cT X):Exit->dc X->Option (VT (X:=X) (Cx g).vars)
 | .normal,s=>Xw T s rs λds=>bif decide (ds.length=g.fy.length)&&(aS ds).all (λ k=>Nat.blt k s.nx)then
  qO (Cx g) (List.range ds.length) ⟨(List.range ds.length).zip ds,s.obj,s.nx,s.log⟩ ⟨(List.range ds.length).zip ds,s.obj,s.nx,s.log⟩ some else none
 | .ret,s=>Xw T s rs λds=>bif decide (ds.length=g.fy.length)&&(aS ds).all (λ k=>Nat.blt k s.nx)then
  qO (Cx g) (List.range ds.length) ⟨(List.range ds.length).zip ds,s.obj,s.nx,s.log⟩ ⟨(List.range ds.length).zip ds,s.obj,s.nx,s.log⟩ some else none
 |_,_=>none
theorem XA{ol:Nat->Nat}(t:Nat):∀(n:Nat)(ps:List (Pt X.ι))(L:List (DC X)),eC (Nf ol (lr n ps) L) (n+t)=((lp ol ps L).1[t]?).getD .undef
 |n,[],L=>by simp[lr,Nf,eC,lk,lp]
 |n,p::ps,L=>by
  simp only[lr,Nf,eC,lk,lp];cases t with
  |zero=>simp
  |succ t=>
   rw[aN (by omega)];have:=XA (ol:=ol) t (n+1) ps (eP ol p L).2;rw[show n+1+t=n+(t+1)by omega]at this;simpa[eC]using this
theorem ai2 {P:Program} {g:cT X} {s:dc X} {rs:List ResultVar} {r:VT (X:=X) (Cx g).vars} (hl:Low s) (h:(Xw T s rs λds=>bif decide (ds.length=g.fy.length)&&(aS ds).all (λ k=>Nat.blt k s.nx)then
 qO (Cx g) (List.range ds.length) ⟨(List.range ds.length).zip ds,s.obj,s.nx,s.log⟩ ⟨(List.range ds.length).zip ds,s.obj,s.nx,s.log⟩ some else none)=some r):
 ∃xs,nQ T s.st rs=some xs/\I0 P s.st.obj xs (ul (g.outs r)) (den (g.res r)):=by
 have⟨ds,h1,h⟩:=Fg T h;have⟨h2,h⟩:=dD h;simp only[aJ,aT]at h2;obtain⟨h2,h3⟩:=h2;have hl':Low (⟨(List.range ds.length).zip ds,s.obj,s.nx,s.log⟩:dc X):=⟨hl.le,hl.ge,λt k hk=>by
  have:=all_eq_true.1 h3 k (aa0 t _ _ k hk);exact Nat.blt_eq.mp this,hl.obj⟩
 obtain⟨v,h4,_,_,hrel⟩:=lV hl' hl' (Ext.refl _ _) h;injection h4 with h4;subst h4;refine⟨bJ ds,Rp T h1,λw0 O0 β I w vs hM hv=>?_⟩;have hvl:=bk.length _ _ hv;simp only[Array.length_toList,lQ]at hvl;have hR:Rel P w0 O0 vs.size β I (⟨(List.range ds.length).zip ds,s.obj,s.nx,s.log⟩:dc X).st { tmps:=vs,defers:=[] } w:=by
  refine⟨rfl,rfl,λt=>?_,hM⟩;show VR P β w I (den (eC ((List.range ds.length).zip ds) t)) (vs.getD t undef);rw[akA,show List.range ds.length=List.range (bJ ds).length by rw[lQ],Dl];cases ht:(bJ ds)[t]? with
  |none=>simp[VR]
  |some x=>
   obtain⟨u,g1,g2⟩:=bk.get _ _ t _ hv ht;rw[Array.getElem?_toList]at g1;simp only[Option.getD_some,Array.getD_eq_getD_getElem?,g1];exact g2
 obtain⟨β',hR'⟩:=hrel P w0 O0 _ β I _ w hR;have hn:(ie (lr 0 g.fy)).length=(cL g.fy).length:=by rw[Rf]
 refine⟨β',I,?_,λ_ h=>h,?_⟩
 ·have:=hR'.mem;have e:(encS (Cx g) ⟨(List.range ds.length).zip ds,s.obj,s.nx,s.log⟩ v).st.obj=pm (ul (g.outs v)):=by
   funext k;simp only[dc.st,encS,Cx,map_nil,List.append_nil,Rl,cT.outs,H2,Dp];rw[vS,Xy,<- hn];rfl
  rw[e]at this;exact this
 ·obtain⟨pv,hpv⟩:∃pv,pv=WU g.fy g.ix (xh (Cx g).vars v):=⟨_,rfl⟩;have hres:g.res v=Aj pv:=by rw[hpv];rfl
  have qn:∀t,VR P β' w I (den ((pv[t]?).getD .undef)) (vs.getD t undef):=by
   intro t;have:=hR'.env t;simp only[dc.st,eK,encS,Cx,map_nil,List.append_nil]at this;have e:=XA (ol:=Dp g.ix ((xh (Cx g).vars v).drop (cL g.fy).length)) t 0 g.fy ((xh (Cx g).vars v).take (cL g.fy).length);rw[Nat.zero_add]at e;rw[hpv];simp only[WU];rw[<- e,<- hn];exact this
  have hpl:pv.length=g.fy.length:=by rw[hpv];exact Nl _ _ _
  have hsz:vs.size=pv.length:=by rw[hpl,<- h2,hvl]
  rw[hres];have hall:bk P β' w I (bJ pv) vs.toList:=by
   have gen:∀(pv:List (DV X)) (us:List Value),us.length=pv.length->(∀ t,t<pv.length->VR P β' w I (den ((pv[t]?).getD .undef)) (us.getD t undef))->bk P β' w I (bJ pv) us:=by
    intro pv
    induction pv with
    |nil=>intro us hl _;cases us<;>simp_all [bJ,bk]
    |cons d pv ih=>
     intro us hl hh;cases us with
     |nil=>simp at hl
     |cons u us=>
      simp only[bJ,bk];refine⟨by simpa using hh 0 (by simp),ih us (by simpa using hl) λt ht=>by simpa using hh (t+1) (by simpa using ht)⟩
   refine gen pv vs.toList (by simpa using hsz) λt ht=>?_;have e:vs.toList.getD t undef=vs.getD t undef:=(by simp[List.getD_eq_getElem?_getD,Array.getD_eq_getD_getElem?]);rw[e];exact qn t
  match pv,hsz,hall with
  |[d],hsz,hall=>
   obtain⟨u,rfl⟩:=Array.size_eq_one_iff.1 (show vs.size=1 by simpa using hsz);simp only[bJ,bk]at hall;simpa[Aj]using hall.1
  |[],hsz,hall=>
   have h1:¬vs.size=1:=(by rw[hsz];simp);rw[dif_neg h1];simp only[Aj,den,VR];exact⟨vs,rfl,hall⟩
  |d::e::pv,hsz,hall=>
   have h1:¬vs.size=1:=(by rw[hsz];simp);rw[dif_neg h1];simp only[Aj,den,VR];exact⟨vs,rfl,hall⟩
variable {Γ:FuncId->Option (b9 X)} {ao:TypeId->Option (CT X.ι)} {P:Program}
theorem anr(hT : eZ P T)(hm : P.follows .mixedOrders = true)(hΓ : rI P Γ){f : FuncId}{fn : Func}{c : Code}(hfn : P.funcs[f]? = some fn)(hb : fn.body = some c)(hname : (fn.name == "runtime.NumGoroutine") = false)(g : cT X)(hN : g.pn.length <= fn.ntmps)(hin : g.yp = true)
 (h:Hn X.ι) (n:Nat) (hr:∀v (r:VT (X:=X) (Cx g).vars),g.fn v=some r->run Γ T ao fn.ntmps n c (VT (X:=X) (Cx g).vars) h (DG g v) (amS T fn.results.toList g)=some r):HJ P f g:=by
 intro v r hv;have hrun:=hr v r hv;simp only[cT.yp,aJ,aT]at hin;obtain⟨⟨⟨i1,i2⟩,i3⟩,i4⟩:=hin;obtain⟨s1,s2,_⟩:=Ap (ol:=Dp g.iz ((xh (cL g.pn++cE g.iz) v).drop (cL g.pn).length)) g.iz ((xh _ v).drop (cL g.pn).length);have hargs:∀k∈aS (g.args v),k<1000:=λk hk=>Nat.blt_eq.mp (all_eq_true.1 i3 k (Ao g.pn _ k hk));have sY:∀p∈g.cI v,p.1<1000/\∀j∈d5 p.2,j<1000:=by
  intro p hp;have⟨op,g1,g2⟩:=s2 p hp;have hk:p.1∈g.iz.map (·.1):=mem_map.2 ⟨_,g1,rfl⟩;rw[i1]at hk;have:=List.mem_range.1 hk;exact⟨by omega,λj hj=>Nat.blt_eq.mp (all_eq_true.1 (all_eq_true.1 i4 _ g1) j (g2 j hj))⟩
 have hal:(g.args v).length=g.pn.length:=Nl _ _ _;have hkeys:(g.cI v).map (·.1)=List.range (g.cI v).length:=ai1 g v i1;have jp:∀k,fY (DG g v).obj k=s6 (g.cI v) k:=by
  intro k;show fY (bZ _ g.iz _) k=s6 (cZ (bZ _ g.iz _)) k;rw[vS,Xy,<- vS]
 have PR:∀(l:List (Nat×bu X))(n:Nat),l.map (·.1)=(List.range l.length).map (n+ ·)->∀k,s6 l (n+k)=(l[k]?).map (·.2):=by
  intro l
  induction l with
  |nil=>intro n _ k;rfl
  |cons p l ih=>
   intro n hn k;rw[bE,List.range_succ_eq_map,aC,aC,List.map_map]at hn;injection hn with e1 e2;simp only[s6];cases k with
   |zero=>rw[aO (by omega)];rfl
   |succ k=>
    rw[aN (by omega),show n+(k+1)=(n+1)+k by omega,ih (n+1) (by rw[e2];refine List.map_congr_left λa _=>?_;simp only[Function.comp_apply];omega) k];rfl
 have hlow:Low (DG g v):=by
  refine⟨by show 1000<=1000000;decide,aQ _,λt k hk=>hargs k (aa0 t _ _ k hk),λk o ho=>?_⟩;rw[jp]at ho;have hmem:∀(l:List (Nat×bu X)),s6 l k=some o->(k,o)∈l:=by
   intro l
   induction l with
   |nil=>intro h;simp[s6]at h
   |cons p l ih=>
    intro h;simp only[s6]at h;split at h
    ·rename_i e;cases h;subst e;exact List.mem_cons_self
    ·exact dR _ (ih h)
  exact sY _ (hmem _ ho)
 refine aiy hT hfn hb hname (by rw[lQ,hal];exact hN) (λ k hk=>hargs k (by rwa [iy]at hk)) (by rw[length_map,<- length_map (f:=Prod.fst),hkeys,List.length_range];have:=s1.length_le;rw[length_map,length_map]at this;exact Nat.le_trans this i2) ?_ ?_
 ·intro o ho r' hr' x hx j hj;obtain⟨p,hp,rfl⟩:=mem_map.1 ho;exact(sY p hp).2 j (Xm hr' hx j hj)
 ·have e:q6.st ⟨(List.range (bJ (g.args v)).length).zip (bJ (g.args v)),(List.range ((g.cI v).map λp=>bF p.2).length).zip ((g.cI v).map λp=>bF p.2)⟩=(DG g v).st:=by
   simp only[dc.st,q6.st,St.mk.injEq,and_true];refine⟨?_,?_⟩
   ·funext t;simp only[DG];rw[akA,lQ,hal]
   ·funext k;rw[Dl,jp,List.getElem?_map];have:=PR (g.cI v) 0 (by rw[hkeys];simp) k;rw[Nat.zero_add]at this;rw[this,Option.map_map];rfl
  rw[e];refine(lu hT hm hΓ c _ h _ _ r hlow hrun).mono ?_;rintro e σ ⟨s',hl',_,rfl,g4⟩;cases e<;>first |exact ai2 hl' g4 |cases g4
end
section
variable {P:Program} {f F:FuncId} {E:TypeId} {α:Type} {enc:α->Value} {d:α}
end
section
variable {X:SX}
end
section
variable {X:SX}
def IJ{α β:Type}(f:α->Option β):List α->Option (List β)
 |[]=>some []
 |x::xs=>(f x).bind λy=>(IJ f xs).bind λys=>some (y::ys)
def mT(dq:(i j:X.ι)->Decidable (i=j))(i:X.ι):CT X.ι->Option CS
 | .int k=>some (.int k)
 | .bool=>some .bool
 | .str=>some .str
 | .sl (.st j)=>match dq j i with
  | .isTrue _=>some .back
  | .isFalse _=>none
 |_=>none
def amT(dq:(i j:X.ι)->Decidable (i=j))(i:X.ι):Bool:=(X.cW i).any λc=>match c with
 | .sl (.st j)=>match dq j i with
  | .isTrue _=>true
  | .isFalse _=>false
 |_=>false
def an3(dq:(i j:X.ι)->Decidable (i=j)):CT X.ι->Option (List CS)
 | .st i=>bif amT dq i then IJ (mT dq i) (X.cW i)else none
 |_=>none
theorem ant(dq:(i j:X.ι)->Decidable (i=j)){i:X.ι}{row:List CS}(hm:IJ (mT dq i) (X.cW i)=some row){x:Tree}(h:E0 row x):∃l:List (CT.T X.toSE (.st i)),x= .sl (l.map (CT.row X.toSE (.st i))):=by
 refine E0.rec (row:=row) (motive_1:=λx _=>∃l:List (CT.T X.toSE (.st i)),x= .sl (l.map (CT.row X.toSE (.st i)))) (motive_2:=λrows _=>∃l:List (CT.T X.toSE (.st i)),rows=l.map (CT.row X.toSE (.st i)))
  (motive_3:=λcs r _=>∀codes:List (CT X.ι),IJ (mT dq i) codes=some cs->∃h:HL X.toSE codes,r=HL.row X.toSE codes h) ?_ ?_ ?_ ?_ ?_ ?_ h
 ·rintro rows _ _ ⟨l,rfl⟩;exact⟨l,rfl⟩
 ·exact⟨[],rfl⟩
 ·rintro r rs _ _ h1 ⟨l,rfl⟩;obtain⟨q,rfl⟩:=h1 _ hm;exact⟨(X.make i q:X.T i)::l,by rw[aC];congr 1;exact(X.gh i q).symm⟩
 ·intro codes hc;cases codes with
  |nil=>exact⟨(),rfl⟩
  |cons c codes=>
   simp only[IJ,ai]at hc;obtain⟨_,_,_,_,h⟩:=hc;cases h
 ·intro cs x xs _ _ h1 h2 codes hc;obtain⟨l,rfl⟩:=h1;cases codes with
  |nil=>simp[IJ]at hc
  |cons c codes=>
   simp only[IJ,ai]at hc;obtain⟨c',g1,cs',g2,g3⟩:=hc;injection g3 with g3;injection g3 with g4 g5;subst g4 g5;obtain⟨q,rfl⟩:=h2 _ g2
   match c,g1 with
   | .sl (.st j),g1=>
    simp only[mT]at g1;split at g1
    ·rename_i hj _;subst hj;exact⟨(l,q),rfl⟩
    ·cases g1
   | .int _,g1=>simp[mT]at g1
   | .bool,g1=>simp[mT]at g1
   | .str,g1=>simp[mT]at g1
   | .any,g1=>simp[mT]at g1
   | .st _,g1=>simp[mT]at g1
   | .mp _ _,g1=>simp[mT]at g1
   | .sl (.int _),g1=>simp[mT]at g1
   | .sl .bool,g1=>simp[mT]at g1
   | .sl .str,g1=>simp[mT]at g1
   | .sl .any,g1=>simp[mT]at g1
   | .sl (.sl _),g1=>simp[mT]at g1
   | .sl (.mp _ _),g1=>simp[mT]at g1
 ·intro c' cs x xs hf _ h2 codes hc;cases codes with
  |nil=>simp[IJ]at hc
  |cons c codes=>
   simp only[IJ,ai]at hc;obtain⟨c2,g1,cs',g2,g3⟩:=hc;injection g3 with g3;injection g3 with g4 g5;subst g4 g5;obtain⟨q,rfl⟩:=h2 _ g2
   match c,g1 with
   | .int k,g1=>
    cases g1;obtain⟨n,rfl,_⟩:=hf;exact⟨(n,q),rfl⟩
   | .bool,g1=>
    cases g1;obtain⟨n,rfl⟩:=hf;exact⟨(n,q),rfl⟩
   | .str,g1=>
    cases g1;obtain⟨n,rfl,_⟩:=hf;exact⟨(n,q),rfl⟩
   | .sl (.st j),g1=>
    simp only[mT]at g1;split at g1
    ·cases g1;exact hf.elim
    ·cases g1
   | .any,g1=>simp[mT]at g1
   | .st _,g1=>simp[mT]at g1
   | .mp _ _,g1=>simp[mT]at g1
   | .sl (.int _),g1=>simp[mT]at g1
   | .sl .bool,g1=>simp[mT]at g1
   | .sl .str,g1=>simp[mT]at g1
   | .sl .any,g1=>simp[mT]at g1
   | .sl (.sl _),g1=>simp[mT]at g1
   | .sl (.mp _ _),g1=>simp[mT]at g1
def tm:Nat->CT X.ι->Option (List CS)
 | 0,_=>none
 |_+1,.int k=>some [.int k]
 |_+1,.bool=>some [.bool]
 |_+1,.str=>some [.str]
 |_+1,.any=>some [.any]
 |_+1,.mp _ _=>none
 |n+1,.sl e=>match an3 X.dec e with
  |some row=>some [.mu row]
  |none=>(tm n e).bind λr=>some [.sl r]
 |n+1,.st i=>(IJ (tm n) (X.cW i)).bind λl=>some l.flatten
def E7(n:Nat)(c:CT X.ι):Option VS:=
 match c with
 | .st i=>(tm n (.st i:CT X.ι)).map .agg
 |c=>(tm n c).bind λl=>match l with
  |[x]=>some (.one x)
  |_=>none
theorem TD:∀(a b:List CS)(ys:List Tree),c9 (a++b) ys->∃ya yb,ys=ya++yb/\c9 a ya/\c9 b yb
 |[],b,ys,h=>⟨[],ys,rfl,trivial,h⟩
 |c::a,b,y::ys,h=>by
  simp only[List.cons_append,c9]at h;obtain⟨ya,yb,rfl,h1,h2⟩:=TD a b ys h.2;exact⟨y::ya,yb,rfl,⟨h.1,h1⟩,h2⟩
 |_::_,_,[],h=>h.elim
theorem aef{c:CT X.ι}{cs:List CS}(h:∀ys,c9 cs ys->∃x:CT.T X.toSE c,ys=CT.row X.toSE c x):∀rows:List (List Tree),(∀ r∈rows,c9 cs r)->∃l:List (CT.T X.toSE c),rows=l.map (CT.row X.toSE c)
 |[],_=>⟨[],rfl⟩
 |r::rows,hr=>by
  obtain⟨x,hx⟩:=h r (hr r (by simp));obtain⟨l,hl⟩:=aef h rows λq hq=>hr q (dR _ hq);exact⟨x::l,by rw[aC,<- hx,<- hl]⟩
theorem akB{f:CT X.ι->Option (List CS)}(hf:∀c cs,f c=some cs->∀ys,c9 cs ys->∃x:CT.T X.toSE c,ys=CT.row X.toSE c x):∀(l:List (CT X.ι))(css:List (List CS)),IJ f l=some css->∀ys,c9 css.flatten ys->∃h:HL X.toSE l,ys=HL.row X.toSE l h
 |[],css,h,ys,hy=>by
  simp only[IJ,aA]at h;subst h;cases ys with
  |nil=>exact⟨(),rfl⟩
  |cons y ys=>exact hy.elim
 |c::l,css,h,ys,hy=>by
  simp only[IJ]at h;rw[ai]at h;obtain⟨a,h1,h⟩:=h;rw[ai]at h;obtain⟨b,h2,h⟩:=h;cases h;simp only[List.flatten_cons]at hy;obtain⟨ya,yb,rfl,g1,g2⟩:=TD _ _ _ hy;have⟨x,hx⟩:=hf c a h1 ya g1;have⟨q,hq⟩:=akB hf l b h2 yb g2;exact⟨(x,q),by rw[hx,hq];rfl⟩
theorem Vm:∀(n:Nat)(c:CT X.ι)(cs:List CS),tm n c=some cs->∀ys,c9 cs ys->∃x:CT.T X.toSE c,ys=CT.row X.toSE c x
 | 0,_,_,h,_,_=>by cases h
 |n+1,.mp _ _,cs,h,ys,hy=>by simp[tm]at h
 |n+1,.int k,cs,h,ys,hy=>by
  simp only[tm,aA]at h;subst h
  match ys,hy with
  |[y],hy=>
   simp only[c9,Fit,and_true]at hy;obtain⟨m,rfl,_⟩:=hy;exact⟨m,rfl⟩
  |[],hy=>exact hy.elim
  |_::_::_,hy=>exact hy.2.elim
 |n+1,.bool,cs,h,ys,hy=>by
  simp only[tm,aA]at h;subst h
  match ys,hy with
  |[y],hy=>
   simp only[c9,Fit,and_true]at hy;obtain⟨m,rfl⟩:=hy;exact⟨m,rfl⟩
  |[],hy=>exact hy.elim
  |_::_::_,hy=>exact hy.2.elim
 |n+1,.str,cs,h,ys,hy=>by
  simp only[tm,aA]at h;subst h
  match ys,hy with
  |[y],hy=>
   simp only[c9,Fit,and_true]at hy;obtain⟨m,rfl,_⟩:=hy;exact⟨m,rfl⟩
  |[],hy=>exact hy.elim
  |_::_::_,hy=>exact hy.2.elim
 |n+1,.any,cs,h,ys,hy=>by
  simp only[tm,aA]at h;subst h
  match ys,hy with
  |[y],hy=>exact⟨y,rfl⟩
  |[],hy=>exact hy.elim
  |_::_::_,hy=>exact hy.2.elim
 |n+1,.sl e,cs,h,ys,hy=>by
  simp only[tm]at h;split at h
  ·rename_i row hm;cases h
   match ys,hy with
   |[y],hy=>
    simp only[c9,Fit,and_true]at hy;cases e with
    |st i=>
     simp only[an3]at hm;cases hb:amT X.dec i with
     |false=>rw[hb]at hm;cases hm
     |true=>
      rw[hb]at hm;have⟨l,hl⟩:=ant X.dec hm hy;exact⟨l,by rw[hl];rfl⟩
    |_=>cases hm
   |[],hy=>exact hy.elim
   |_::_::_,hy=>exact hy.2.elim
  rw[ai]at h;obtain⟨r,h1,h⟩:=h;cases h
  match ys,hy with
  |[y],hy=>
   simp only[c9,Fit,and_true]at hy;obtain⟨rows,rfl,_,hr⟩:=hy;have⟨l,hl⟩:=aef (Vm n e r h1) rows hr;exact⟨l,by rw[hl];rfl⟩
  |[],hy=>exact hy.elim
  |_::_::_,hy=>exact hy.2.elim
 |n+1,.st i,cs,h,ys,hy=>by
  simp only[tm]at h;rw[ai]at h;obtain⟨css,h1,h⟩:=h;cases h;have⟨q,hq⟩:=akB (Vm n) (X.cW i) css h1 ys hy;exact⟨X.make i q,by rw[hq];exact(X.gh i q).symm⟩
theorem al9{n:Nat}{c:CT X.ι}{s:VS}(h:E7 n c=some s){x:TV}(hx:C4 s x):∃y:CT.T X.toSE c,x=CT.tv X.toSE c y:=by
 have one:∀c:CT X.ι,c.one=true->((tm n c).bind λl=>match l with
  |[x]=>some (VS.one x)
  |_=>none)=some s->∃y:CT.T X.toSE c,x=CT.tv X.toSE c y:=by
  intro c hc h;rw[ai]at h;obtain⟨l,h1,h⟩:=h;split at h
  ·rename_i z;cases h;simp only[C4]at hx;obtain⟨t,rfl,ht⟩:=hx;obtain⟨y,hy⟩:=Vm n c _ h1 [t] ⟨ht,trivial⟩;obtain⟨t',e1,e2⟩:=row_one hc y;rw[e1]at hy;cases hy;exact⟨y,e2.symm⟩
  ·cases h
 cases c
 case st i=>
  simp only[E7,eU]at h;obtain⟨cs,h1,rfl⟩:=h;simp only[C4]at hx;obtain⟨ys,rfl,hy⟩:=hx;obtain⟨y,hy⟩:=Vm n (.st i) _ h1 ys hy;exact⟨y,by rw[hy];rfl⟩
 all_goals exact one _ rfl h
theorem aeg(n:Nat):∀(cs:List (CT X.ι))(ss:List VS),IJ (E7 n) cs=some ss->∀xs,Wz ss xs->∃h:HL X.toSE cs,xs=HL.nq X.toSE cs h
 |[],ss,h,xs,hx=>by
  simp only[IJ,aA]at h;subst h;cases xs with
  |nil=>exact⟨(),rfl⟩
  |cons x xs=>exact hx.elim
 |c::cs,ss,h,xs,hx=>by
  simp only[IJ]at h;rw[ai]at h;obtain⟨a,h1,h⟩:=h;rw[ai]at h;obtain⟨b,h2,h⟩:=h;cases h;cases xs with
  |nil=>exact hx.elim
  |cons x xs=>
   obtain⟨y,rfl⟩:=al9 h1 hx.1;obtain⟨q,rfl⟩:=aeg n cs b h2 xs hx.2;exact⟨(y,q),rfl⟩
theorem akC{P:Program}{f:FuncId}{n N:Nat}{cs:List (CT X.ι)}{ss:List VS}{fn:Nat->jf X (cs.map AT.d)->Option Bool}(hc:∀k,CC P f ⟨cs.map AT.d,[.d .bool],fn k,none⟩)(hs:IJ (E7 n) cs=some ss)(hl:∀q:HL X.toSE cs,Wz ss (HL.nq X.toSE cs q)->WA (HL.nq X.toSE cs q)<=N->∃k,fn k (hlA cs q)=some true)(xs:List TV)(h:Wz ss xs)(hb:WA xs<=N):
 sA P f (xs.map TV.av) (.one (.d (.s (.sc (.bool true))))):=by
 obtain⟨q,rfl⟩:=aeg n cs ss hs xs h;have⟨k,hk⟩:=hl q h hb;have h1:=(hc k).2.1 (hlA cs q) true hk;have h2:=h1;rw[Al (W7 cs)]at h2;have h3:rK P f (Ak (cs.map AT.d) (hlA cs q)) [] [] (.one (.d (.s (.sc (.bool true))))):=h2;have h4:=Wy h3;rw[Ak,Rh]at h4;exact h4
end
structure H4 where
 env:List (Nat×AV)
 obj:List (Nat×Option aU)
 ok:List (Nat×Option Bool)
def H4.st(F:Nat->Option aU)(L:H4):St:=
 ⟨λ t=>(lk L.env t).getD .undef,λk=>match lk L.obj k with |some o=>o |none=>F k,λt=>(lk L.ok t).join⟩
def H4.app(L:H4)(dst:Option Tmp)(p:Out×Option Bool):H4:=
 match dst with
 |some d=>⟨(d,p.1.v)::L.env,p.1.upd++L.obj,(d,p.2)::L.ok⟩
 |none=>⟨L.env,p.1.upd++L.obj,L.ok⟩
section
variable (P:Program) (T:dC) (am:Array Oper) (cR:Nat->mj) (F:Nat->Option aU)
end
section
variable {P:Program} {T:dC} {N:Nat} {Q:Exit->St->Prop} {am:Array Oper} {cR:Nat->mj} {σ σ' σ2:St}
structure Told(σ' σ2:St):Prop where
 re:∃(f g:Nat->Nat)(D:Nat->Prop),(∀ k,D k->g (f k)=k)/\(∀ j,j<1000->g j=j)/\
  (∀ t,σ2.env t= .undef\/(σ'.ok t=none/\(∀ k∈refs (σ'.env t),D k)/\k7 (eV f (σ'.env t)) (σ2.env t)))/\
  (∀ j o',σ2.obj j=some o'->∃k o,σ'.obj k=some o/\D k/\f k=j/\o'.sz=o.sz/\gO D f o.rows o'.rows)
 ok:∀t,σ2.ok t=none
 old:sx σ2
end
mutual
theorem ama{f:Nat->Nat}:∀x:AV,(∀ k∈refs x,f k=k)->eV f x=x
 | .own k aa len,h=>by simp only[eV];rw[h k (by simp[refs])]
 | .ptr k row aa,h=>by simp only[eV];rw[h k (by simp[refs])]
 | .mp k,h=>by simp only[eV];rw[h k (by simp[refs])]
 | .oz k len,h=>by simp only[eV];rw[h k (by simp[refs])]
 | .agg cs,h=>by simp only[eV];rw[Kg cs (by simpa[refs]using h)]
 | .fh cs,h=>by simp only[eV];rw[Kg cs (by simpa[refs]using h)]
 | .fn F first caps,h=>by simp only[eV];rw[Kg first (λ k hk=>h k (by simp[refs,hk])),Kg caps (λ k hk=>h k (by simp[refs,hk]))]
 | .t _,_=>rfl
 | .eo _ _,_=>rfl
 | .cV _,_=>rfl
 | .cN,_=>rfl
 | .ub,_=>rfl
 | .undef,_=>rfl
theorem Kg{f:Nat->Nat}:∀l:List AV,(∀ k∈eG l,f k=k)->y8 f l=l
 |[],_=>rfl
 |x::xs,h=>by simp only[y8];rw[ama x (λ k hk=>h k (by simp[eG,hk])),Kg xs (λ k hk=>h k (by simp[eG,hk]))]
end
section
variable {P:Program} {β:Nat->Option cH} {w:World} {I:Nat->Prop}
def mA(P:Program)(β:Nat->Option cH)(w:World)(I:Nat->Prop):List AV->List AV->Prop
 |[],[]=>True
 |x::xs,y::ys=>(∀ v,VR P β w I x v->VR P β w I y v)/\mA P β w I xs ys
 |_,_=>False
def mf(P:Program)(β:Nat->Option cH)(w:World)(I:Nat->Prop):List (List AV)->List (List AV)->Prop
 |[],[]=>True
 |r::rs,q::qs=>mA P β w I r q/\mf P β w I rs qs
 |_,_=>False
theorem mA.refl:∀r:List AV,mA P β w I r r
 |[]=>trivial
 |_::xs=>⟨λ _ h=>h,mA.refl xs⟩
theorem mf.app{q q':List AV}(h:mA P β w I q q'):∀R:List (List AV),mf P β w I (R++[q]) (R++[q'])
 |[]=>⟨h,trivial⟩
 |r::R=>⟨mA.refl r,mf.app h R⟩
theorem mA.row:∀{r q:List AV}{c:Array Value}{aa:Nat},mA P β w I r q->cQ P β w I r c aa->cQ P β w I q c aa
 |[],[],_,_,_,_=>trivial
 |_::_,_::_,_,_,h,⟨⟨v,h1,h2,h3⟩,h4⟩=>⟨⟨v,h1,h.1 v h2,h3⟩,mA.row h.2 h4⟩
 |[],_::_,_,_,h,_=>h.elim
 |_::_,[],_,_,h,_=>h.elim
theorem mA.length:∀{r q:List AV},mA P β w I r q->q.length=r.length
 |[],[],_=>rfl
 |_::_,_::_,h=>congrArg (· +1) (mA.length h.2)
 |[],_::_,h=>h.elim
 |_::_,[],h=>h.elim
theorem mf.rows:∀{rs qs:List (List AV)}{c:Array Value}{aa sz:Nat},mf P β w I rs qs->br P β w I rs c aa sz->br P β w I qs c aa sz
 |[],[],_,_,_,_,_=>trivial
 |_::_,_::_,_,_,_,h,⟨h1,h2,h3⟩=>⟨by rw[h.1.length];exact h1,h.1.row h2,h.2.rows h3⟩
 |[],_::_,_,_,_,h,_=>h.elim
 |_::_,[],_,_,_,h,_=>h.elim
theorem mf.length:∀{rs qs:List (List AV)},mf P β w I rs qs->qs.length=rs.length
 |[],[],_=>rfl
 |_::_,_::_,h=>congrArg (· +1) (mf.length h.2)
 |[],_::_,h=>h.elim
 |_::_,[],h=>h.elim
end
end Go.Gb
