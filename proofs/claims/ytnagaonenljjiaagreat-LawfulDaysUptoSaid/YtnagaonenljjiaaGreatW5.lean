import Derived.Test.YtnagaonenljjiaaGreatW4
open List (mem_map all_eq_true length_map map_nil)
namespace Go.Gb
open Go.RowKit
section
variable {X:SX} {T:dC}
theorem Nb(ol:Nat->Nat):∀(ps:List (Pt X.ι))(L:List (DC X)),(lj ol ps L).1.length=ps.length
 |[],_=>rfl
 |p::ps,L=>by simp only[lj,bE,Nb ol ps]
def cT.ym(g:cT X):Bool:=
 decide (g.ix.map (·.1)=List.range g.ix.length)&&decide (g.ix.length<=1000)&&((Dp g.pm).all λk=>Nat.blt k 1000)&&g.ix.all λq=>q.2.refs.all λk=>Nat.blt k 1000
def DE(g:cT X)(v:VT (X:=X) (cI g.pm++cA g.ix)):dc X:=⟨(List.range g.pm.length).zip (g.args v),HX g.pm g.ix (wY _ v),1000,[]⟩
theorem vN{ol:Nat->Nat}:∀(O:List (Nat×OP X.ι))(L:List (DC X)),bX ol O L=(cZ (bX ol O L)).map λp=>(p.1,some p.2)
 |[],L=>rfl
 |(k,.l c)::O,L=>by
  match L with
  |[]=>rfl
  |⟨.sl c',x⟩::L=>simp only[bX,cZ,aC];rw[<- vN O L]
  |⟨.int _,x⟩::L=>rfl
  |⟨.bool,x⟩::L=>rfl
  |⟨.str,x⟩::L=>rfl
  |⟨.any,x⟩::L=>rfl
  |⟨.st _,x⟩::L=>rfl
  |⟨.mp _ _,x⟩::L=>rfl
 |(k,.m kc vc)::O,L=>by
  match L with
  |[]=>rfl
  |⟨.mp _ _,x⟩::L=>simp only[bX,cZ,aC];rw[<- vN O L]
  |⟨.sl _,x⟩::L=>rfl
  |⟨.int _,x⟩::L=>rfl
  |⟨.bool,x⟩::L=>rfl
  |⟨.str,x⟩::L=>rfl
  |⟨.any,x⟩::L=>rfl
  |⟨.st _,x⟩::L=>rfl
 |(k,.c sz rows)::O,L=>by simp only[bX,cZ,aC];rw[<- vN O _]
theorem GH{ol:Nat->Nat}:∀(O:List (Nat×OP X.ι))(L:List (DC X)),L.map (·.c)=cA O->(cZ (bX ol O L)).map (·.1)=O.map (·.1)
 |[],L,_=>rfl
 |(k,.l c)::O,L,h=>by
  match L,h with
  |⟨.sl c',x⟩::L,h=>
   simp only[aC,cA,List.cons.injEq]at h;simp only[bX,cZ,aC,GH O L h.2]
  |[],h=>simp[cA]at h
  |⟨.int _,x⟩::L,h=>simp[cA]at h
  |⟨.bool,x⟩::L,h=>simp[cA]at h
  |⟨.str,x⟩::L,h=>simp[cA]at h
  |⟨.any,x⟩::L,h=>simp[cA]at h
  |⟨.st _,x⟩::L,h=>simp[cA]at h
  |⟨.mp _ _,x⟩::L,h=>simp[cA]at h
 |(k,.m kc vc)::O,L,h=>by
  match L,h with
  |⟨.mp _ _,x⟩::L,h=>
   simp only[aC,cA,List.cons.injEq]at h;simp only[bX,cZ,aC,GH O L h.2]
  |[],h=>simp[cA]at h
  |⟨.sl _,x⟩::L,h=>simp[cA]at h
  |⟨.int _,x⟩::L,h=>simp[cA]at h
  |⟨.bool,x⟩::L,h=>simp[cA]at h
  |⟨.str,x⟩::L,h=>simp[cA]at h
  |⟨.any,x⟩::L,h=>simp[cA]at h
  |⟨.st _,x⟩::L,h=>simp[cA]at h
 |(k,.c sz rows)::O,L,h=>by
  simp only[cA]at h;simp only[bX,cZ,aC,GH O _ (M7 (ol:=ol) rows L _ h).1]
theorem aiM(g:cT X)(v:VT (X:=X) (cI g.pm++cA g.ix))(h:g.ix.map (·.1)=List.range g.ix.length):(g.cH v).map (·.1)=List.range (g.cH v).length:=by
 have e:(g.cH v).map (·.1)=g.ix.map (·.1):=GH g.ix _ (by rw[List.map_drop,V0,List.drop_left]);have l:=congrArg List.length e;rw[length_map,length_map]at l;rw[e,h,l]
theorem Xk(k:Nat):∀l:List (Nat×br X),fY (l.map λp=>(p.1,some p.2)) k=sY l k
 |[]=>rfl
 |p::l=>by
  simp only[aC,fY,lk,sY];split
  ·rfl
  ·exact Xk k l
theorem akl(t:Nat):∀(ks:List Nat)(ds:List (DV X)),den (eC (ks.zip ds) t)=(lk (ks.zip (bJ ds)) t).getD .undef:=by
 intro ks
 induction ks with
 |nil=>intro ds;rfl
 |cons k ks ih=>
  intro ds;cases ds with
  |nil=>rfl
  |cons d ds=>
   simp only[List.zip_cons_cons,eC,lk,bJ];by_cases h:k=t
   ·simp[h]
   ·simp only[aM h];exact ih ds
theorem aaN(t:Nat):∀(ks:List Nat)(ds:List (DV X)),∀j∈bm (eC (ks.zip ds) t),j∈aS ds:=by
 intro ks
 induction ks with
 |nil=>intro ds j hj;simp[eC,lk,bm]at hj
 |cons k ks ih=>
  intro ds j hj;cases ds with
  |nil=>simp[eC,lk,bm]at hj
  |cons d ds=>
   simp only[List.zip_cons_cons,eC,lk]at hj;simp only[aS,aV];by_cases e:k=t
   ·simp only[aN e,Option.getD_some]at hj;exact .inl hj
   ·simp only[aM e]at hj;exact .inr (ih ds j hj)
def GI(O:List (Nat×OP X.ι)):List (Nat×Pt X.ι)->List (Nat×CT X.ι)
 |[]=>[]
 |(t,.o k)::r=>match lk O k with
  |some (.l c)=>(t,c)::GI O r
  |_=>GI O r
 |(t,.oz k)::r=>match lk O k with
  |some (.l c)=>(t+1099511627776,c)::GI O r
  |_=>GI O r
 |_::r=>GI O r
def Xl(O:List (Nat×OP X.ι)):List (Nat×OP X.ι)->List (Nat×CT X.ι)
 |(q,.c _ [row])::r=>(GI O (lp (1000000+q*4096) row)).filter (λ p=>Nat.ble p.1 1000000000)++Xl O r
 |_::r=>Xl O r
 |[]=>[]
def Cv(g:cT X):Sh X.ι:=⟨lp 0 g.fy,g.iv,[],[],1000000,GI g.iv (lp 0 g.fy)++Xl g.iv g.iv⟩
def amB(T:dC)(rs:List ResultVar)(g:cT X):Exit->dc X->Option (VT (X:=X) (Cv g).vars)
 | .normal,s=>Xi T s rs λds=>bif decide (ds.length=g.fy.length)&&(aS ds).all (λ k=>Nat.blt k s.nx)then
  qI (Cv g) (List.range ds.length) ⟨(List.range ds.length).zip ds,s.obj,s.nx,s.log⟩ ⟨(List.range ds.length).zip ds,s.obj,s.nx,s.log⟩ some else none
 | .ret,s=>Xi T s rs λds=>bif decide (ds.length=g.fy.length)&&(aS ds).all (λ k=>Nat.blt k s.nx)then
  qI (Cv g) (List.range ds.length) ⟨(List.range ds.length).zip ds,s.obj,s.nx,s.log⟩ ⟨(List.range ds.length).zip ds,s.obj,s.nx,s.log⟩ some else none
 |_,_=>none
theorem Xm{ol:Nat->Nat}(t:Nat):∀(n:Nat)(ps:List (Pt X.ι))(L:List (DC X)),eC (M5 ol (lp n ps) L) (n+t)=((lj ol ps L).1[t]?).getD .undef
 |n,[],L=>by simp[lp,M5,eC,lk,lj]
 |n,p::ps,L=>by
  simp only[lp,M5,eC,lk,lj];cases t with
  |zero=>simp
  |succ t=>
   rw[aM (by omega)];have:=Xm (ol:=ol) t (n+1) ps (eP ol p L).2;rw[show n+1+t=n+(t+1)by omega]at this;simpa[eC]using this
theorem aiN {P:Program} {g:cT X} {s:dc X} {rs:List ResultVar} {r:VT (X:=X) (Cv g).vars} (hl:Low s) (h:(Xi T s rs λds=>bif decide (ds.length=g.fy.length)&&(aS ds).all (λ k=>Nat.blt k s.nx)then
 qI (Cv g) (List.range ds.length) ⟨(List.range ds.length).zip ds,s.obj,s.nx,s.log⟩ ⟨(List.range ds.length).zip ds,s.obj,s.nx,s.log⟩ some else none)=some r):
 ∃xs,nL T s.st rs=some xs/\J0 P s.st.obj xs (tY (g.outs r)) (den (g.res r)):=by
 have⟨ds,h1,h⟩:=Fb T h;have⟨h2,h⟩:=dx h;simp only[aJ,aT]at h2;obtain⟨h2,h3⟩:=h2;have hl':Low (⟨(List.range ds.length).zip ds,s.obj,s.nx,s.log⟩:dc X):=⟨hl.le,hl.ge,λt k hk=>by
  have:=all_eq_true.1 h3 k (aaN t _ _ k hk);exact Nat.blt_eq.mp this,hl.obj⟩
 obtain⟨v,h4,_,_,hrel⟩:=lN hl' hl' (Ext.refl _ _) h;injection h4 with h4;subst h4;refine⟨bJ ds,Q7 T h1,λw0 O0 β I w vs hM hv=>?_⟩;have hvl:=bj.length _ _ hv;simp only[Array.length_toList,lJ]at hvl;have hR:Rel P w0 O0 vs.size β I (⟨(List.range ds.length).zip ds,s.obj,s.nx,s.log⟩:dc X).st { tmps:=vs,defers:=[] } w:=by
  refine⟨rfl,rfl,λt=>?_,hM⟩;show VR P β w I (den (eC ((List.range ds.length).zip ds) t)) (vs.getD t undef);rw[akl,show List.range ds.length=List.range (bJ ds).length by rw[lJ],Dj];cases ht:(bJ ds)[t]? with
  |none=>simp[VR]
  |some x=>
   obtain⟨u,g1,g2⟩:=bj.get _ _ t _ hv ht;rw[Array.getElem?_toList]at g1;simp only[Option.getD_some,Array.getD_eq_getD_getElem?,g1];exact g2
 obtain⟨β',hR'⟩:=hrel P w0 O0 _ β I _ w hR;have hn:(ia (lp 0 g.fy)).length=(cI g.fy).length:=by rw[QU]
 refine⟨β',I,?_,λ_ h=>h,?_⟩
 ·have:=hR'.mem;have e:(encS (Cv g) ⟨(List.range ds.length).zip ds,s.obj,s.nx,s.log⟩ v).st.obj=pj (tY (g.outs v)):=by
   funext k;simp only[dc.st,encS,Cv,map_nil,List.append_nil,QZ,cT.outs,HX,Dm];rw[vN,Xk,<- hn];rfl
  rw[e]at this;exact this
 ·obtain⟨pv,hpv⟩:∃pv,pv=WG g.fy g.iv (wY (Cv g).vars v):=⟨_,rfl⟩;have hres:g.res v=Ag pv:=by rw[hpv];rfl
  have qe:∀t,VR P β' w I (den ((pv[t]?).getD .undef)) (vs.getD t undef):=by
   intro t;have:=hR'.env t;simp only[dc.st,eK,encS,Cv,map_nil,List.append_nil]at this;have e:=Xm (ol:=Dm g.iv ((wY (Cv g).vars v).drop (cI g.fy).length)) t 0 g.fy ((wY (Cv g).vars v).take (cI g.fy).length);rw[Nat.zero_add]at e;rw[hpv];simp only[WG];rw[<- e,<- hn];exact this
  have hpl:pv.length=g.fy.length:=by rw[hpv];exact Nb _ _ _
  have hsz:vs.size=pv.length:=by rw[hpl,<- h2,hvl]
  rw[hres];have hall:bj P β' w I (bJ pv) vs.toList:=by
   have gen:∀(pv:List (DV X)) (us:List Value),us.length=pv.length->(∀ t,t<pv.length->VR P β' w I (den ((pv[t]?).getD .undef)) (us.getD t undef))->bj P β' w I (bJ pv) us:=by
    intro pv
    induction pv with
    |nil=>intro us hl _;cases us<;>simp_all [bJ,bj]
    |cons d pv ih=>
     intro us hl hh;cases us with
     |nil=>simp at hl
     |cons u us=>
      simp only[bJ,bj];refine⟨by simpa using hh 0 (by simp),ih us (by simpa using hl) λt ht=>by simpa using hh (t+1) (by simpa using ht)⟩
   refine gen pv vs.toList (by simpa using hsz) λt ht=>?_;have e:vs.toList.getD t undef=vs.getD t undef:=(by simp[List.getD_eq_getElem?_getD,Array.getD_eq_getD_getElem?]);rw[e];exact qe t
  match pv,hsz,hall with
  |[d],hsz,hall=>
   obtain⟨u,rfl⟩:=Array.size_eq_one_iff.1 (show vs.size=1 by simpa using hsz);simp only[bJ,bj]at hall;simpa[Ag]using hall.1
  |[],hsz,hall=>
   have h1:¬vs.size=1:=(by rw[hsz];simp);rw[dif_neg h1];simp only[Ag,den,VR];exact⟨vs,rfl,hall⟩
  |d::e::pv,hsz,hall=>
   have h1:¬vs.size=1:=(by rw[hsz];simp);rw[dif_neg h1];simp only[Ag,den,VR];exact⟨vs,rfl,hall⟩
variable {Γ:FuncId->Option (bz X)} {ao:TypeId->Option (CT X.ι)} {P:Program}
theorem am6(hT : eY P T)(hm : P.follows .mixedOrders = true)(hΓ : ry P Γ){f : FuncId}{fn : Func}{c : Code}(hfn : P.funcs[f]? = some fn)(hb : fn.body = some c)(hname : (fn.name == "runtime.NumGoroutine") = false)(g : cT X)(hN : g.pm.length <= fn.ntmps)(hin : g.ym = true)
 (h:Hn X.ι) (n:Nat) (hr:∀v (r:VT (X:=X) (Cv g).vars),g.fn v=some r->run Γ T ao fn.ntmps n c (VT (X:=X) (Cv g).vars) h (DE g v) (amB T fn.results.toList g)=some r):HK P f g:=by
 intro v r hv;have hrun:=hr v r hv;simp only[cT.ym,aJ,aT]at hin;obtain⟨⟨⟨i1,i2⟩,i3⟩,i4⟩:=hin;obtain⟨s1,s2,_⟩:=Al (ol:=Dm g.ix ((wY (cI g.pm++cA g.ix) v).drop (cI g.pm).length)) g.ix ((wY _ v).drop (cI g.pm).length);have hargs:∀k∈aS (g.args v),k<1000:=λk hk=>Nat.blt_eq.mp (all_eq_true.1 i3 k (Ak g.pm _ k hk));have sX:∀p∈g.cH v,p.1<1000/\∀j∈dE p.2,j<1000:=by
  intro p hp;have⟨op,g1,g2⟩:=s2 p hp;have hk:p.1∈g.ix.map (·.1):=mem_map.2 ⟨_,g1,rfl⟩;rw[i1]at hk;have:=List.mem_range.1 hk;exact⟨by omega,λj hj=>Nat.blt_eq.mp (all_eq_true.1 (all_eq_true.1 i4 _ g1) j (g2 j hj))⟩
 have hal:(g.args v).length=g.pm.length:=Nb _ _ _;have hkeys:(g.cH v).map (·.1)=List.range (g.cH v).length:=aiM g v i1;have jj:∀k,fY (DE g v).obj k=sY (g.cH v) k:=by
  intro k;show fY (bX _ g.ix _) k=sY (cZ (bX _ g.ix _)) k;rw[vN,Xk,<- vN]
 have P0:∀(l:List (Nat×br X))(n:Nat),l.map (·.1)=(List.range l.length).map (n+ ·)->∀k,sY l (n+k)=(l[k]?).map (·.2):=by
  intro l
  induction l with
  |nil=>intro n _ k;rfl
  |cons p l ih=>
   intro n hn k;rw[bE,List.range_succ_eq_map,aC,aC,List.map_map]at hn;injection hn with e1 e2;simp only[sY];cases k with
   |zero=>rw[aN (by omega)];rfl
   |succ k=>
    rw[aM (by omega),show n+(k+1)=(n+1)+k by omega,ih (n+1) (by rw[e2];refine List.map_congr_left λa _=>?_;simp only[Function.comp_apply];omega) k];rfl
 have hlow:Low (DE g v):=by
  refine⟨by show 1000<=1000000;decide,aP _,λt k hk=>hargs k (aaN t _ _ k hk),λk o ho=>?_⟩;rw[jj]at ho;have hmem:∀(l:List (Nat×br X)),sY l k=some o->(k,o)∈l:=by
   intro l
   induction l with
   |nil=>intro h;simp[sY]at h
   |cons p l ih=>
    intro h;simp only[sY]at h;split at h
    ·rename_i e;cases h;subst e;exact List.mem_cons_self
    ·exact eF _ (ih h)
  exact sX _ (hmem _ ho)
 refine aij hT hfn hb hname (by rw[lJ,hal];exact hN) (λ k hk=>hargs k (by rwa [iq]at hk)) (by rw[length_map,<- length_map (f:=Prod.fst),hkeys,List.length_range];have:=s1.length_le;rw[length_map,length_map]at this;exact Nat.le_trans this i2) ?_ ?_
 ·intro o ho r' hr' x hx j hj;obtain⟨p,hp,rfl⟩:=mem_map.1 ho;exact(sX p hp).2 j (W9 hr' hx j hj)
 ·have e:qS.st ⟨(List.range (bJ (g.args v)).length).zip (bJ (g.args v)),(List.range ((g.cH v).map λp=>bF p.2).length).zip ((g.cH v).map λp=>bF p.2)⟩=(DE g v).st:=by
   simp only[dc.st,qS.st,St.mk.injEq,and_true];refine⟨?_,?_⟩
   ·funext t;simp only[DE];rw[akl,lJ,hal]
   ·funext k;rw[Dj,jj,List.getElem?_map];have:=P0 (g.cH v) 0 (by rw[hkeys];simp) k;rw[Nat.zero_add]at this;rw[this,Option.map_map];rfl
  rw[e];refine(kW hT hm hΓ c _ h _ _ r hlow hrun).mono ?_;rintro e σ ⟨s',hl',_,rfl,g4⟩;cases e<;>first |exact aiN hl' g4 |cases g4
end
section
variable {P:Program} {f F:FuncId} {E:TypeId} {α:Type} {enc:α->Value} {d:α}
end
section
variable {X:SX}
end
section
variable {X:SX}
def IA{α β:Type}(f:α->Option β):List α->Option (List β)
 |[]=>some []
 |x::xs=>(f x).bind λy=>(IA f xs).bind λys=>some (y::ys)
def mS(dq:(i j:X.ι)->Decidable (i=j))(i:X.ι):CT X.ι->Option CS
 | .int k=>some (.int k)
 | .bool=>some .bool
 | .str=>some .str
 | .sl (.st j)=>match dq j i with
  | .isTrue _=>some .back
  | .isFalse _=>none
 |_=>none
def amC(dq:(i j:X.ι)->Decidable (i=j))(i:X.ι):Bool:=(X.cW i).any λc=>match c with
 | .sl (.st j)=>match dq j i with
  | .isTrue _=>true
  | .isFalse _=>false
 |_=>false
def anL(dq:(i j:X.ι)->Decidable (i=j)):CT X.ι->Option (List CS)
 | .st i=>bif amC dq i then IA (mS dq i) (X.cW i)else none
 |_=>none
theorem am7(dq:(i j:X.ι)->Decidable (i=j)){i:X.ι}{row:List CS}(hm:IA (mS dq i) (X.cW i)=some row){x:Tree}(h:E6 row x):∃l:List (CT.T X.toSE (.st i)),x= .sl (l.map (CT.row X.toSE (.st i))):=by
 refine E6.rec (row:=row) (motive_1:=λx _=>∃l:List (CT.T X.toSE (.st i)),x= .sl (l.map (CT.row X.toSE (.st i)))) (motive_2:=λrows _=>∃l:List (CT.T X.toSE (.st i)),rows=l.map (CT.row X.toSE (.st i)))
  (motive_3:=λcs r _=>∀codes:List (CT X.ι),IA (mS dq i) codes=some cs->∃h:HL X.toSE codes,r=HL.row X.toSE codes h) ?_ ?_ ?_ ?_ ?_ ?_ h
 ·rintro rows _ _ ⟨l,rfl⟩;exact⟨l,rfl⟩
 ·exact⟨[],rfl⟩
 ·rintro r rs _ _ h1 ⟨l,rfl⟩;obtain⟨q,rfl⟩:=h1 _ hm;exact⟨(X.make i q:X.T i)::l,by rw[aC];congr 1;exact(X.gh i q).symm⟩
 ·intro codes hc;cases codes with
  |nil=>exact⟨(),rfl⟩
  |cons c codes=>
   simp only[IA,ai]at hc;obtain⟨_,_,_,_,h⟩:=hc;cases h
 ·intro cs x xs _ _ h1 h2 codes hc;obtain⟨l,rfl⟩:=h1;cases codes with
  |nil=>simp[IA]at hc
  |cons c codes=>
   simp only[IA,ai]at hc;obtain⟨c',g1,cs',g2,g3⟩:=hc;injection g3 with g3;injection g3 with g4 g5;subst g4 g5;obtain⟨q,rfl⟩:=h2 _ g2
   match c,g1 with
   | .sl (.st j),g1=>
    simp only[mS]at g1;split at g1
    ·rename_i hj _;subst hj;exact⟨(l,q),rfl⟩
    ·cases g1
   | .int _,g1=>simp[mS]at g1
   | .bool,g1=>simp[mS]at g1
   | .str,g1=>simp[mS]at g1
   | .any,g1=>simp[mS]at g1
   | .st _,g1=>simp[mS]at g1
   | .mp _ _,g1=>simp[mS]at g1
   | .sl (.int _),g1=>simp[mS]at g1
   | .sl .bool,g1=>simp[mS]at g1
   | .sl .str,g1=>simp[mS]at g1
   | .sl .any,g1=>simp[mS]at g1
   | .sl (.sl _),g1=>simp[mS]at g1
   | .sl (.mp _ _),g1=>simp[mS]at g1
 ·intro c' cs x xs hf _ h2 codes hc;cases codes with
  |nil=>simp[IA]at hc
  |cons c codes=>
   simp only[IA,ai]at hc;obtain⟨c2,g1,cs',g2,g3⟩:=hc;injection g3 with g3;injection g3 with g4 g5;subst g4 g5;obtain⟨q,rfl⟩:=h2 _ g2
   match c,g1 with
   | .int k,g1=>
    cases g1;obtain⟨n,rfl,_⟩:=hf;exact⟨(n,q),rfl⟩
   | .bool,g1=>
    cases g1;obtain⟨n,rfl⟩:=hf;exact⟨(n,q),rfl⟩
   | .str,g1=>
    cases g1;obtain⟨n,rfl,_⟩:=hf;exact⟨(n,q),rfl⟩
   | .sl (.st j),g1=>
    simp only[mS]at g1;split at g1
    ·cases g1;exact hf.elim
    ·cases g1
   | .any,g1=>simp[mS]at g1
   | .st _,g1=>simp[mS]at g1
   | .mp _ _,g1=>simp[mS]at g1
   | .sl (.int _),g1=>simp[mS]at g1
   | .sl .bool,g1=>simp[mS]at g1
   | .sl .str,g1=>simp[mS]at g1
   | .sl .any,g1=>simp[mS]at g1
   | .sl (.sl _),g1=>simp[mS]at g1
   | .sl (.mp _ _),g1=>simp[mS]at g1
def tj:Nat->CT X.ι->Option (List CS)
 | 0,_=>none
 |_+1,.int k=>some [.int k]
 |_+1,.bool=>some [.bool]
 |_+1,.str=>some [.str]
 |_+1,.any=>some [.any]
 |_+1,.mp _ _=>none
 |n+1,.sl e=>match anL X.dec e with
  |some row=>some [.mu row]
  |none=>(tj n e).bind λr=>some [.sl r]
 |n+1,.st i=>(IA (tj n) (X.cW i)).bind λl=>some l.flatten
def Fc(n:Nat)(c:CT X.ι):Option VS:=
 match c with
 | .st i=>(tj n (.st i:CT X.ι)).map .agg
 |c=>(tj n c).bind λl=>match l with
  |[x]=>some (.one x)
  |_=>none
theorem Tk:∀(a b:List CS)(ys:List Tree),c9 (a++b) ys->∃ya yb,ys=ya++yb/\c9 a ya/\c9 b yb
 |[],b,ys,h=>⟨[],ys,rfl,trivial,h⟩
 |c::a,b,y::ys,h=>by
  simp only[List.cons_append,c9]at h;obtain⟨ya,yb,rfl,h1,h2⟩:=Tk a b ys h.2;exact⟨y::ya,yb,rfl,⟨h.1,h1⟩,h2⟩
 |_::_,_,[],h=>h.elim
theorem adZ{c:CT X.ι}{cs:List CS}(h:∀ys,c9 cs ys->∃x:CT.T X.toSE c,ys=CT.row X.toSE c x):∀rows:List (List Tree),(∀ r∈rows,c9 cs r)->∃l:List (CT.T X.toSE c),rows=l.map (CT.row X.toSE c)
 |[],_=>⟨[],rfl⟩
 |r::rows,hr=>by
  obtain⟨x,hx⟩:=h r (hr r (by simp));obtain⟨l,hl⟩:=adZ h rows λq hq=>hr q (eF _ hq);exact⟨x::l,by rw[aC,<- hx,<- hl]⟩
theorem akm{f:CT X.ι->Option (List CS)}(hf:∀c cs,f c=some cs->∀ys,c9 cs ys->∃x:CT.T X.toSE c,ys=CT.row X.toSE c x):∀(l:List (CT X.ι))(css:List (List CS)),IA f l=some css->∀ys,c9 css.flatten ys->∃h:HL X.toSE l,ys=HL.row X.toSE l h
 |[],css,h,ys,hy=>by
  simp only[IA,aA]at h;subst h;cases ys with
  |nil=>exact⟨(),rfl⟩
  |cons y ys=>exact hy.elim
 |c::l,css,h,ys,hy=>by
  simp only[IA]at h;rw[ai]at h;obtain⟨a,h1,h⟩:=h;rw[ai]at h;obtain⟨b,h2,h⟩:=h;cases h;simp only[List.flatten_cons]at hy;obtain⟨ya,yb,rfl,g1,g2⟩:=Tk _ _ _ hy;have⟨x,hx⟩:=hf c a h1 ya g1;have⟨q,hq⟩:=akm hf l b h2 yb g2;exact⟨(x,q),by rw[hx,hq];rfl⟩
theorem U8:∀(n:Nat)(c:CT X.ι)(cs:List CS),tj n c=some cs->∀ys,c9 cs ys->∃x:CT.T X.toSE c,ys=CT.row X.toSE c x
 | 0,_,_,h,_,_=>by cases h
 |n+1,.mp _ _,cs,h,ys,hy=>by simp[tj]at h
 |n+1,.int k,cs,h,ys,hy=>by
  simp only[tj,aA]at h;subst h
  match ys,hy with
  |[y],hy=>
   simp only[c9,Fit,and_true]at hy;obtain⟨m,rfl,_⟩:=hy;exact⟨m,rfl⟩
  |[],hy=>exact hy.elim
  |_::_::_,hy=>exact hy.2.elim
 |n+1,.bool,cs,h,ys,hy=>by
  simp only[tj,aA]at h;subst h
  match ys,hy with
  |[y],hy=>
   simp only[c9,Fit,and_true]at hy;obtain⟨m,rfl⟩:=hy;exact⟨m,rfl⟩
  |[],hy=>exact hy.elim
  |_::_::_,hy=>exact hy.2.elim
 |n+1,.str,cs,h,ys,hy=>by
  simp only[tj,aA]at h;subst h
  match ys,hy with
  |[y],hy=>
   simp only[c9,Fit,and_true]at hy;obtain⟨m,rfl,_⟩:=hy;exact⟨m,rfl⟩
  |[],hy=>exact hy.elim
  |_::_::_,hy=>exact hy.2.elim
 |n+1,.any,cs,h,ys,hy=>by
  simp only[tj,aA]at h;subst h
  match ys,hy with
  |[y],hy=>exact⟨y,rfl⟩
  |[],hy=>exact hy.elim
  |_::_::_,hy=>exact hy.2.elim
 |n+1,.sl e,cs,h,ys,hy=>by
  simp only[tj]at h;split at h
  ·rename_i row hm;cases h
   match ys,hy with
   |[y],hy=>
    simp only[c9,Fit,and_true]at hy;cases e with
    |st i=>
     simp only[anL]at hm;cases hb:amC X.dec i with
     |false=>rw[hb]at hm;cases hm
     |true=>
      rw[hb]at hm;have⟨l,hl⟩:=am7 X.dec hm hy;exact⟨l,by rw[hl];rfl⟩
    |_=>cases hm
   |[],hy=>exact hy.elim
   |_::_::_,hy=>exact hy.2.elim
  rw[ai]at h;obtain⟨r,h1,h⟩:=h;cases h
  match ys,hy with
  |[y],hy=>
   simp only[c9,Fit,and_true]at hy;obtain⟨rows,rfl,_,hr⟩:=hy;have⟨l,hl⟩:=adZ (U8 n e r h1) rows hr;exact⟨l,by rw[hl];rfl⟩
  |[],hy=>exact hy.elim
  |_::_::_,hy=>exact hy.2.elim
 |n+1,.st i,cs,h,ys,hy=>by
  simp only[tj]at h;rw[ai]at h;obtain⟨css,h1,h⟩:=h;cases h;have⟨q,hq⟩:=akm (U8 n) (X.cW i) css h1 ys hy;exact⟨X.make i q,by rw[hq];exact(X.gh i q).symm⟩
theorem alR{n:Nat}{c:CT X.ι}{s:VS}(h:Fc n c=some s){x:TV}(hx:De s x):∃y:CT.T X.toSE c,x=CT.tv X.toSE c y:=by
 have one:∀c:CT X.ι,c.one=true->((tj n c).bind λl=>match l with
  |[x]=>some (VS.one x)
  |_=>none)=some s->∃y:CT.T X.toSE c,x=CT.tv X.toSE c y:=by
  intro c hc h;rw[ai]at h;obtain⟨l,h1,h⟩:=h;split at h
  ·rename_i z;cases h;simp only[De]at hx;obtain⟨t,rfl,ht⟩:=hx;obtain⟨y,hy⟩:=U8 n c _ h1 [t] ⟨ht,trivial⟩;obtain⟨t',e1,e2⟩:=row_one hc y;rw[e1]at hy;cases hy;exact⟨y,e2.symm⟩
  ·cases h
 cases c
 case st i=>
  simp only[Fc,eO]at h;obtain⟨cs,h1,rfl⟩:=h;simp only[De]at hx;obtain⟨ys,rfl,hy⟩:=hx;obtain⟨y,hy⟩:=U8 n (.st i) _ h1 ys hy;exact⟨y,by rw[hy];rfl⟩
 all_goals exact one _ rfl h
theorem ad1(n:Nat):∀(cs:List (CT X.ι))(ss:List VS),IA (Fc n) cs=some ss->∀xs,Wl ss xs->∃h:HL X.toSE cs,xs=HL.np X.toSE cs h
 |[],ss,h,xs,hx=>by
  simp only[IA,aA]at h;subst h;cases xs with
  |nil=>exact⟨(),rfl⟩
  |cons x xs=>exact hx.elim
 |c::cs,ss,h,xs,hx=>by
  simp only[IA]at h;rw[ai]at h;obtain⟨a,h1,h⟩:=h;rw[ai]at h;obtain⟨b,h2,h⟩:=h;cases h;cases xs with
  |nil=>exact hx.elim
  |cons x xs=>
   obtain⟨y,rfl⟩:=alR h1 hx.1;obtain⟨q,rfl⟩:=ad1 n cs b h2 xs hx.2;exact⟨(y,q),rfl⟩
theorem akn{P:Program}{f:FuncId}{n N:Nat}{cs:List (CT X.ι)}{ss:List VS}{fn:Nat->jc X (cs.map AT.d)->Option Bool}(hc:∀k,CC P f ⟨cs.map AT.d,[.d .bool],fn k,none⟩)(hs:IA (Fc n) cs=some ss)(hl:∀q:HL X.toSE cs,Wl ss (HL.np X.toSE cs q)->Wm (HL.np X.toSE cs q)<=N->∃k,fn k (hlA cs q)=some true)(xs:List TV)(h:Wl ss xs)(hb:Wm xs<=N):
 sy P f (xs.map TV.av) (.one (.d (.s (.sc (.bool true))))):=by
 obtain⟨q,rfl⟩:=ad1 n cs ss hs xs h;have⟨k,hk⟩:=hl q h hb;have h1:=(hc k).2.1 (hlA cs q) true hk;have h2:=h1;rw[Ai (WF cs)]at h2;have h3:rI P f (Ah (cs.map AT.d) (hlA cs q)) [] [] (.one (.d (.s (.sc (.bool true))))):=h2;have h4:=Wj h3;rw[Ah,QV]at h4;exact h4
end
structure H5 where
 env:List (Nat×AV)
 obj:List (Nat×Option aU)
 ok:List (Nat×Option Bool)
def H5.st(F:Nat->Option aU)(L:H5):St:=
 ⟨λ t=>(lk L.env t).getD .undef,λk=>match lk L.obj k with |some o=>o |none=>F k,λt=>(lk L.ok t).join⟩
def H5.app(L:H5)(dst:Option Tmp)(p:Out×Option Bool):H5:=
 match dst with
 |some d=>⟨(d,p.1.v)::L.env,p.1.upd++L.obj,(d,p.2)::L.ok⟩
 |none=>⟨L.env,p.1.upd++L.obj,L.ok⟩
section
variable (P:Program) (T:dC) (am:Array Oper) (cR:Nat->mi) (F:Nat->Option aU)
end
section
variable {P:Program} {T:dC} {N:Nat} {Q:Exit->St->Prop} {am:Array Oper} {cR:Nat->mi} {σ σ' σ2:St}
structure Told(σ' σ2:St):Prop where
 re:∃(f g:Nat->Nat)(D:Nat->Prop),(∀ k,D k->g (f k)=k)/\(∀ j,j<1000->g j=j)/\
  (∀ t,σ2.env t= .undef\/(σ'.ok t=none/\(∀ k∈refs (σ'.env t),D k)/\k5 (eV f (σ'.env t)) (σ2.env t)))/\
  (∀ j o',σ2.obj j=some o'->∃k o,σ'.obj k=some o/\D k/\f k=j/\o'.sz=o.sz/\gO D f o.rows o'.rows)
 ok:∀t,σ2.ok t=none
 old:sq σ2
end
mutual
theorem alS{f:Nat->Nat}:∀x:AV,(∀ k∈refs x,f k=k)->eV f x=x
 | .own k aa len,h=>by simp only[eV];rw[h k (by simp[refs])]
 | .ptr k row aa,h=>by simp only[eV];rw[h k (by simp[refs])]
 | .mp k,h=>by simp only[eV];rw[h k (by simp[refs])]
 | .oz k len,h=>by simp only[eV];rw[h k (by simp[refs])]
 | .agg cs,h=>by simp only[eV];rw[J8 cs (by simpa[refs]using h)]
 | .fh cs,h=>by simp only[eV];rw[J8 cs (by simpa[refs]using h)]
 | .fn F first caps,h=>by simp only[eV];rw[J8 first (λ k hk=>h k (by simp[refs,hk])),J8 caps (λ k hk=>h k (by simp[refs,hk]))]
 | .t _,_=>rfl
 | .ek _ _,_=>rfl
 | .cV _,_=>rfl
 | .cM,_=>rfl
 | .ub,_=>rfl
 | .undef,_=>rfl
theorem J8{f:Nat->Nat}:∀l:List AV,(∀ k∈eD l,f k=k)->yZ f l=l
 |[],_=>rfl
 |x::xs,h=>by simp only[yZ];rw[alS x (λ k hk=>h k (by simp[eD,hk])),J8 xs (λ k hk=>h k (by simp[eD,hk]))]
end
section
variable {P:Program} {β:Nat->Option cE} {w:World} {I:Nat->Prop}
def mz(P:Program)(β:Nat->Option cE)(w:World)(I:Nat->Prop):List AV->List AV->Prop
 |[],[]=>True
 |x::xs,y::ys=>(∀ v,VR P β w I x v->VR P β w I y v)/\mz P β w I xs ys
 |_,_=>False
def me(P:Program)(β:Nat->Option cE)(w:World)(I:Nat->Prop):List (List AV)->List (List AV)->Prop
 |[],[]=>True
 |r::rs,q::qs=>mz P β w I r q/\me P β w I rs qs
 |_,_=>False
theorem mz.refl:∀r:List AV,mz P β w I r r
 |[]=>trivial
 |_::xs=>⟨λ _ h=>h,mz.refl xs⟩
theorem me.app{q q':List AV}(h:mz P β w I q q'):∀R:List (List AV),me P β w I (R++[q]) (R++[q'])
 |[]=>⟨h,trivial⟩
 |r::R=>⟨mz.refl r,me.app h R⟩
theorem mz.row:∀{r q:List AV}{c:Array Value}{aa:Nat},mz P β w I r q->cP P β w I r c aa->cP P β w I q c aa
 |[],[],_,_,_,_=>trivial
 |_::_,_::_,_,_,h,⟨⟨v,h1,h2,h3⟩,h4⟩=>⟨⟨v,h1,h.1 v h2,h3⟩,mz.row h.2 h4⟩
 |[],_::_,_,_,h,_=>h.elim
 |_::_,[],_,_,h,_=>h.elim
theorem mz.length:∀{r q:List AV},mz P β w I r q->q.length=r.length
 |[],[],_=>rfl
 |_::_,_::_,h=>congrArg (· +1) (mz.length h.2)
 |[],_::_,h=>h.elim
 |_::_,[],h=>h.elim
theorem me.rows:∀{rs qs:List (List AV)}{c:Array Value}{aa sz:Nat},me P β w I rs qs->bp P β w I rs c aa sz->bp P β w I qs c aa sz
 |[],[],_,_,_,_,_=>trivial
 |_::_,_::_,_,_,_,h,⟨h1,h2,h3⟩=>⟨by rw[h.1.length];exact h1,h.1.row h2,h.2.rows h3⟩
 |[],_::_,_,_,_,h,_=>h.elim
 |_::_,[],_,_,_,h,_=>h.elim
theorem me.length:∀{rs qs:List (List AV)},me P β w I rs qs->qs.length=rs.length
 |[],[],_=>rfl
 |_::_,_::_,h=>congrArg (· +1) (me.length h.2)
 |[],_::_,h=>h.elim
 |_::_,[],h=>h.elim
end
end Go.Gb
