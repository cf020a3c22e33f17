import Derived.Test.YtoiaceohobeemaaGreatW4
open List (mem_map all_eq_true length_map map_nil)
namespace Go.Gb
open Go.RowKit
section
variable {X:SX} {T:dy}
theorem Nw(ol:Nat->Nat):∀(ps:List (Pt X.ι))(L:List (DC X)),(lp ol ps L).1.length=ps.length
 |[],_=>rfl
 |p::ps,L=>by simp only[lp,bF,Nw ol ps]
def cR.yv(g:cR X):Bool:=
 decide (g.iz.map (·.1)=List.range g.iz.length)&&decide (g.iz.length<=1000)&&((Dx g.pn).all λk=>Nat.blt k 1000)&&g.iz.all λq=>q.2.refs.all λk=>Nat.blt k 1000
def C6(g:cR X)(v:VT (X:=X) (cJ g.pn++cD g.iz)):da X:=⟨(List.range g.pn.length).zip (g.args v),H5 g.pn g.iz (xB _ v),1000,[]⟩
theorem vW{ol:Nat->Nat}:∀(O:List (Nat×OP X.ι))(L:List (DC X)),cu ol O L=(dn (cu ol O L)).map λp=>(p.1,some p.2)
 |[],L=>rfl
 |(k,.l c)::O,L=>by
  match L with
  |[]=>rfl
  |⟨.sl c',x⟩::L=>simp only[cu,dn,aC];rw[<- vW O L]
  |⟨.int _,x⟩::L=>rfl
  |⟨.bool,x⟩::L=>rfl
  |⟨.str,x⟩::L=>rfl
  |⟨.any,x⟩::L=>rfl
  |⟨.st _,x⟩::L=>rfl
  |⟨.mp _ _,x⟩::L=>rfl
 |(k,.m kc vc)::O,L=>by
  match L with
  |[]=>rfl
  |⟨.mp _ _,x⟩::L=>simp only[cu,dn,aC];rw[<- vW O L]
  |⟨.sl _,x⟩::L=>rfl
  |⟨.int _,x⟩::L=>rfl
  |⟨.bool,x⟩::L=>rfl
  |⟨.str,x⟩::L=>rfl
  |⟨.any,x⟩::L=>rfl
  |⟨.st _,x⟩::L=>rfl
 |(k,.c sz rows)::O,L=>by simp only[cu,dn,aC];rw[<- vW O _]
theorem GV{ol:Nat->Nat}:∀(O:List (Nat×OP X.ι))(L:List (DC X)),L.map (·.c)=cD O->(dn (cu ol O L)).map (·.1)=O.map (·.1)
 |[],L,_=>rfl
 |(k,.l c)::O,L,h=>by
  match L,h with
  |⟨.sl c',x⟩::L,h=>
   simp only[aC,cD,List.cons.injEq]at h;simp only[cu,dn,aC,GV O L h.2]
  |[],h=>simp[cD]at h
  |⟨.int _,x⟩::L,h=>simp[cD]at h
  |⟨.bool,x⟩::L,h=>simp[cD]at h
  |⟨.str,x⟩::L,h=>simp[cD]at h
  |⟨.any,x⟩::L,h=>simp[cD]at h
  |⟨.st _,x⟩::L,h=>simp[cD]at h
  |⟨.mp _ _,x⟩::L,h=>simp[cD]at h
 |(k,.m kc vc)::O,L,h=>by
  match L,h with
  |⟨.mp _ _,x⟩::L,h=>
   simp only[aC,cD,List.cons.injEq]at h;simp only[cu,dn,aC,GV O L h.2]
  |[],h=>simp[cD]at h
  |⟨.sl _,x⟩::L,h=>simp[cD]at h
  |⟨.int _,x⟩::L,h=>simp[cD]at h
  |⟨.bool,x⟩::L,h=>simp[cD]at h
  |⟨.str,x⟩::L,h=>simp[cD]at h
  |⟨.any,x⟩::L,h=>simp[cD]at h
  |⟨.st _,x⟩::L,h=>simp[cD]at h
 |(k,.c sz rows)::O,L,h=>by
  simp only[cD]at h;simp only[cu,dn,aC,GV O _ (Ns (ol:=ol) rows L _ h).1]
theorem aje(g:cR X)(v:VT (X:=X) (cJ g.pn++cD g.iz))(h:g.iz.map (·.1)=List.range g.iz.length):(g.cH v).map (·.1)=List.range (g.cH v).length:=by
 have e:(g.cH v).map (·.1)=g.iz.map (·.1):=GV g.iz _ (by rw[List.map_drop,VC,List.drop_left]);have l:=congrArg List.length e;rw[length_map,length_map]at l;rw[e,h,l]
theorem XH(k:Nat):∀l:List (Nat×br X),f5 (l.map λp=>(p.1,some p.2)) k=sY l k
 |[]=>rfl
 |p::l=>by
  simp only[aC,f5,lk,sY];split
  ·rfl
  ·exact XH k l
theorem akP(t:Nat):∀(ks:List Nat)(ds:List (DV X)),den (eE (ks.zip ds) t)=(lk (ks.zip (bK ds)) t).getD .undef:=by
 intro ks
 induction ks with
 |nil=>intro ds;rfl
 |cons k ks ih=>
  intro ds;cases ds with
  |nil=>rfl
  |cons d ds=>
   simp only[List.zip_cons_cons,eE,lk,bK];by_cases h:k=t
   ·simp[h]
   ·simp only[aO h];exact ih ds
theorem abd(t:Nat):∀(ks:List Nat)(ds:List (DV X)),∀j∈bm (eE (ks.zip ds) t),j∈aS ds:=by
 intro ks
 induction ks with
 |nil=>intro ds j hj;simp[eE,lk,bm]at hj
 |cons k ks ih=>
  intro ds j hj;cases ds with
  |nil=>simp[eE,lk,bm]at hj
  |cons d ds=>
   simp only[List.zip_cons_cons,eE,lk]at hj;simp only[aS,aX];by_cases e:k=t
   ·simp only[aP e,Option.getD_some]at hj;exact .inl hj
   ·simp only[aO e]at hj;exact .inr (ih ds j hj)
def GX(O:List (Nat×OP X.ι)):List (Nat×Pt X.ι)->List (Nat×CT X.ι)
 |[]=>[]
 |(t,.o k)::r=>match lk O k with
  |some (.l c)=>(t,c)::GX O r
  |_=>GX O r
 |(t,.oz k)::r=>match lk O k with
  |some (.l c)=>(t+1099511627776,c)::GX O r
  |_=>GX O r
 |_::r=>GX O r
def XI(O:List (Nat×OP X.ι)):List (Nat×OP X.ι)->List (Nat×CT X.ι)
 |(q,.c _ [row])::r=>(GX O (lr (1000000+q*4096) row)).filter (λ p=>Nat.ble p.1 1000000000)++XI O r
 |_::r=>XI O r
 |[]=>[]
def CJ(g:cR X):Sh X.ι:=⟨lr 0 g.fL,g.ix,[],[],1000000,GX g.ix (lr 0 g.fL)++XI g.ix g.ix⟩
def am8(T:dy)(rs:List ResultVar)(g:cR X):Exit->da X->Option (VT (X:=X) (CJ g).vars)
 | .normal,s=>XF T s rs λds=>bif decide (ds.length=g.fL.length)&&(aS ds).all (λ k=>Nat.blt k s.nx)then
  qQ (CJ g) (List.range ds.length) ⟨(List.range ds.length).zip ds,s.obj,s.nx,s.log⟩ ⟨(List.range ds.length).zip ds,s.obj,s.nx,s.log⟩ some else none
 | .ret,s=>XF T s rs λds=>bif decide (ds.length=g.fL.length)&&(aS ds).all (λ k=>Nat.blt k s.nx)then
  qQ (CJ g) (List.range ds.length) ⟨(List.range ds.length).zip ds,s.obj,s.nx,s.log⟩ ⟨(List.range ds.length).zip ds,s.obj,s.nx,s.log⟩ some else none
 |_,_=>none
theorem XJ{ol:Nat->Nat}(t:Nat):∀(n:Nat)(ps:List (Pt X.ι))(L:List (DC X)),eE (Np ol (lr n ps) L) (n+t)=((lp ol ps L).1[t]?).getD .undef
 |n,[],L=>by simp[lr,Np,eE,lk,lp]
 |n,p::ps,L=>by
  simp only[lr,Np,eE,lk,lp];cases t with
  |zero=>simp
  |succ t=>
   rw[aO (by omega)];have:=XJ (ol:=ol) t (n+1) ps (eP ol p L).2;rw[show n+1+t=n+(t+1)by omega]at this;simpa[eE]using this
theorem ajf {P:Program} {g:cR X} {s:da X} {rs:List ResultVar} {r:VT (X:=X) (CJ g).vars} (hl:Low s) (h:(XF T s rs λds=>bif decide (ds.length=g.fL.length)&&(aS ds).all (λ k=>Nat.blt k s.nx)then
 qQ (CJ g) (List.range ds.length) ⟨(List.range ds.length).zip ds,s.obj,s.nx,s.log⟩ ⟨(List.range ds.length).zip ds,s.obj,s.nx,s.log⟩ some else none)=some r):
 ∃xs,nT T s.st rs=some xs/\Ks P s.st.obj xs (uo (g.outs r)) (den (g.res r)):=by
 have⟨ds,h1,h⟩:=Fu T h;have⟨h2,h⟩:=dF h;simp only[aJ,aT]at h2;obtain⟨h2,h3⟩:=h2;have hl':Low (⟨(List.range ds.length).zip ds,s.obj,s.nx,s.log⟩:da X):=⟨hl.le,hl.ge,λt k hk=>by
  have:=all_eq_true.1 h3 k (abd t _ _ k hk);exact Nat.blt_eq.mp this,hl.obj⟩
 obtain⟨v,h4,_,_,hrel⟩:=lV hl' hl' (Ext.refl _ _) h;injection h4 with h4;subst h4;refine⟨bK ds,Rw T h1,λw0 O0 β I w vs hM hv=>?_⟩;have hvl:=bj.length _ _ hv;simp only[Array.length_toList,lQ]at hvl;have hR:Rel P w0 O0 vs.size β I (⟨(List.range ds.length).zip ds,s.obj,s.nx,s.log⟩:da X).st { tmps:=vs,defers:=[] } w:=by
  refine⟨rfl,rfl,λt=>?_,hM⟩;show VR P β w I (den (eE ((List.range ds.length).zip ds) t)) (vs.getD t undef);rw[akP,show List.range ds.length=List.range (bK ds).length by rw[lQ],Dr];cases ht:(bK ds)[t]? with
  |none=>simp[VR]
  |some x=>
   obtain⟨u,g1,g2⟩:=bj.get _ _ t _ hv ht;rw[Array.getElem?_toList]at g1;simp only[Option.getD_some,Array.getD_eq_getD_getElem?,g1];exact g2
 obtain⟨β',hR'⟩:=hrel P w0 O0 _ β I _ w hR;have hn:(ia (lr 0 g.fL)).length=(cJ g.fL).length:=by rw[Rm]
 refine⟨β',I,?_,λ_ h=>h,?_⟩
 ·have:=hR'.mem;have e:(encS (CJ g) ⟨(List.range ds.length).zip ds,s.obj,s.nx,s.log⟩ v).st.obj=pm (uo (g.outs v)):=by
   funext k;simp only[da.st,encS,CJ,map_nil,List.append_nil,Rs,cR.outs,H5,Dv];rw[vW,XH,<- hn];rfl
  rw[e]at this;exact this
 ·obtain⟨pv,hpv⟩:∃pv,pv=Xc g.fL g.ix (xB (CJ g).vars v):=⟨_,rfl⟩;have hres:g.res v=Aq pv:=by rw[hpv];rfl
  have qq:∀t,VR P β' w I (den ((pv[t]?).getD .undef)) (vs.getD t undef):=by
   intro t;have:=hR'.env t;simp only[da.st,eM,encS,CJ,map_nil,List.append_nil]at this;have e:=XJ (ol:=Dv g.ix ((xB (CJ g).vars v).drop (cJ g.fL).length)) t 0 g.fL ((xB (CJ g).vars v).take (cJ g.fL).length);rw[Nat.zero_add]at e;rw[hpv];simp only[Xc];rw[<- e,<- hn];exact this
  have hpl:pv.length=g.fL.length:=by rw[hpv];exact Nw _ _ _
  have hsz:vs.size=pv.length:=by rw[hpl,<- h2,hvl]
  rw[hres];have hall:bj P β' w I (bK pv) vs.toList:=by
   have gen:∀(pv:List (DV X)) (us:List Value),us.length=pv.length->(∀ t,t<pv.length->VR P β' w I (den ((pv[t]?).getD .undef)) (us.getD t undef))->bj P β' w I (bK pv) us:=by
    intro pv
    induction pv with
    |nil=>intro us hl _;cases us<;>simp_all [bK,bj]
    |cons d pv ih=>
     intro us hl hh;cases us with
     |nil=>simp at hl
     |cons u us=>
      simp only[bK,bj];refine⟨by simpa using hh 0 (by simp),ih us (by simpa using hl) λt ht=>by simpa using hh (t+1) (by simpa using ht)⟩
   refine gen pv vs.toList (by simpa using hsz) λt ht=>?_;have e:vs.toList.getD t undef=vs.getD t undef:=(by simp[List.getD_eq_getElem?_getD,Array.getD_eq_getD_getElem?]);rw[e];exact qq t
  match pv,hsz,hall with
  |[d],hsz,hall=>
   obtain⟨u,rfl⟩:=Array.size_eq_one_iff.1 (show vs.size=1 by simpa using hsz);simp only[bK,bj]at hall;simpa[Aq]using hall.1
  |[],hsz,hall=>
   have h1:¬vs.size=1:=(by rw[hsz];simp);rw[dif_neg h1];simp only[Aq,den,VR];exact⟨vs,rfl,hall⟩
  |d::e::pv,hsz,hall=>
   have h1:¬vs.size=1:=(by rw[hsz];simp);rw[dif_neg h1];simp only[Aq,den,VR];exact⟨vs,rfl,hall⟩
variable {Γ:FuncId->Option (bz X)} {ao:TypeId->Option (CT X.ι)} {P:Program}
theorem anI(hT : eZ P T)(hm : P.follows .mixedOrders = true)(hΓ : rL P Γ){f : FuncId}{fn : Func}{c : Code}(hfn : P.funcs[f]? = some fn)(hb : fn.body = some c)(hname : (fn.name == "runtime.NumGoroutine") = false)(g : cR X)(hN : g.pn.length <= fn.ntmps)(hin : g.yv = true)
 (h:Hn X.ι) (n:Nat) (hr:∀v (r:VT (X:=X) (CJ g).vars),g.fn v=some r->run Γ T ao fn.ntmps n c (VT (X:=X) (CJ g).vars) h (C6 g v) (am8 T fn.results.toList g)=some r):HP P f g:=by
 intro v r hv;have hrun:=hr v r hv;simp only[cR.yv,aJ,aT]at hin;obtain⟨⟨⟨i1,i2⟩,i3⟩,i4⟩:=hin;obtain⟨s1,s2,_⟩:=Ay (ol:=Dv g.iz ((xB (cJ g.pn++cD g.iz) v).drop (cJ g.pn).length)) g.iz ((xB _ v).drop (cJ g.pn).length);have hargs:∀k∈aS (g.args v),k<1000:=λk hk=>Nat.blt_eq.mp (all_eq_true.1 i3 k (Aw g.pn _ k hk));have sX:∀p∈g.cH v,p.1<1000/\∀j∈dE p.2,j<1000:=by
  intro p hp;have⟨op,g1,g2⟩:=s2 p hp;have hk:p.1∈g.iz.map (·.1):=mem_map.2 ⟨_,g1,rfl⟩;rw[i1]at hk;have:=List.mem_range.1 hk;exact⟨by omega,λj hj=>Nat.blt_eq.mp (all_eq_true.1 (all_eq_true.1 i4 _ g1) j (g2 j hj))⟩
 have hal:(g.args v).length=g.pn.length:=Nw _ _ _;have hkeys:(g.cH v).map (·.1)=List.range (g.cH v).length:=aje g v i1;have jn:∀k,f5 (C6 g v).obj k=sY (g.cH v) k:=by
  intro k;show f5 (cu _ g.iz _) k=sY (dn (cu _ g.iz _)) k;rw[vW,XH,<- vW]
 have P0:∀(l:List (Nat×br X))(n:Nat),l.map (·.1)=(List.range l.length).map (n+ ·)->∀k,sY l (n+k)=(l[k]?).map (·.2):=by
  intro l
  induction l with
  |nil=>intro n _ k;rfl
  |cons p l ih=>
   intro n hn k;rw[bF,List.range_succ_eq_map,aC,aC,List.map_map]at hn;injection hn with e1 e2;simp only[sY];cases k with
   |zero=>rw[aP (by omega)];rfl
   |succ k=>
    rw[aO (by omega),show n+(k+1)=(n+1)+k by omega,ih (n+1) (by rw[e2];refine List.map_congr_left λa _=>?_;simp only[Function.comp_apply];omega) k];rfl
 have hlow:Low (C6 g v):=by
  refine⟨by show 1000<=1000000;decide,aQ _,λt k hk=>hargs k (abd t _ _ k hk),λk o ho=>?_⟩;rw[jn]at ho;have hmem:∀(l:List (Nat×br X)),sY l k=some o->(k,o)∈l:=by
   intro l
   induction l with
   |nil=>intro h;simp[sY]at h
   |cons p l ih=>
    intro h;simp only[sY]at h;split at h
    ·rename_i e;cases h;subst e;exact List.mem_cons_self
    ·exact dS _ (ih h)
  exact sX _ (hmem _ ho)
 refine aiL hT hfn hb hname (by rw[lQ,hal];exact hN) (λ k hk=>hargs k (by rwa [iA]at hk)) (by rw[length_map,<- length_map (f:=Prod.fst),hkeys,List.length_range];have:=s1.length_le;rw[length_map,length_map]at this;exact Nat.le_trans this i2) ?_ ?_
 ·intro o ho r' hr' x hx j hj;obtain⟨p,hp,rfl⟩:=mem_map.1 ho;exact(sX p hp).2 j (Xw hr' hx j hj)
 ·have e:q6.st ⟨(List.range (bK (g.args v)).length).zip (bK (g.args v)),(List.range ((g.cH v).map λp=>bG p.2).length).zip ((g.cH v).map λp=>bG p.2)⟩=(C6 g v).st:=by
   simp only[da.st,q6.st,St.mk.injEq,and_true];refine⟨?_,?_⟩
   ·funext t;simp only[C6];rw[akP,lQ,hal]
   ·funext k;rw[Dr,jn,List.getElem?_map];have:=P0 (g.cH v) 0 (by rw[hkeys];simp) k;rw[Nat.zero_add]at this;rw[this,Option.map_map];rfl
  rw[e];refine(lu hT hm hΓ c _ h _ _ r hlow hrun).mono ?_;rintro e σ ⟨s',hl',_,rfl,g4⟩;cases e<;>first |exact ajf hl' g4 |cases g4
end
section
variable {P:Program} {f F:FuncId} {E:TypeId} {α:Type} {enc:α->Value} {d:α}
end
section
variable {X:SX}
end
section
variable {X:SX}
def IW{α β:Type}(f:α->Option β):List α->Option (List β)
 |[]=>some []
 |x::xs=>(f x).bind λy=>(IW f xs).bind λys=>some (y::ys)
def mT(dq:(i j:X.ι)->Decidable (i=j))(i:X.ι):CT X.ι->Option CS
 | .int k=>some (.int k)
 | .bool=>some .bool
 | .str=>some .str
 | .sl (.st j)=>match dq j i with
  | .isTrue _=>some .back
  | .isFalse _=>none
 |_=>none
def am9(dq:(i j:X.ι)->Decidable (i=j))(i:X.ι):Bool:=(X.cV i).any λc=>match c with
 | .sl (.st j)=>match dq j i with
  | .isTrue _=>true
  | .isFalse _=>false
 |_=>false
def aoj(dq:(i j:X.ι)->Decidable (i=j)):CT X.ι->Option (List CS)
 | .st i=>bif am9 dq i then IW (mT dq i) (X.cV i)else none
 |_=>none
theorem anJ(dq:(i j:X.ι)->Decidable (i=j)){i:X.ι}{row:List CS}(hm:IW (mT dq i) (X.cV i)=some row){x:Tree}(h:Fi row x):∃l:List (CT.T X.toSE (.st i)),x= .sl (l.map (CT.row X.toSE (.st i))):=by
 refine Fi.rec (row:=row) (motive_1:=λx _=>∃l:List (CT.T X.toSE (.st i)),x= .sl (l.map (CT.row X.toSE (.st i)))) (motive_2:=λrows _=>∃l:List (CT.T X.toSE (.st i)),rows=l.map (CT.row X.toSE (.st i)))
  (motive_3:=λcs r _=>∀codes:List (CT X.ι),IW (mT dq i) codes=some cs->∃h:HL X.toSE codes,r=HL.row X.toSE codes h) ?_ ?_ ?_ ?_ ?_ ?_ h
 ·rintro rows _ _ ⟨l,rfl⟩;exact⟨l,rfl⟩
 ·exact⟨[],rfl⟩
 ·rintro r rs _ _ h1 ⟨l,rfl⟩;obtain⟨q,rfl⟩:=h1 _ hm;exact⟨(X.make i q:X.T i)::l,by rw[aC];congr 1;exact(X.gh i q).symm⟩
 ·intro codes hc;cases codes with
  |nil=>exact⟨(),rfl⟩
  |cons c codes=>
   simp only[IW,ai]at hc;obtain⟨_,_,_,_,h⟩:=hc;cases h
 ·intro cs x xs _ _ h1 h2 codes hc;obtain⟨l,rfl⟩:=h1;cases codes with
  |nil=>simp[IW]at hc
  |cons c codes=>
   simp only[IW,ai]at hc;obtain⟨c',g1,cs',g2,g3⟩:=hc;injection g3 with g3;injection g3 with g4 g5;subst g4 g5;obtain⟨q,rfl⟩:=h2 _ g2
   match c,g1 with
   | .sl (.st j),g1=>
    simp only[mT]at g1;split at g1
    ·rename_i hj _;subst hj;exact⟨(l,q),rfl⟩
    ·cases g1
   | .int _,g1=>simp[mT]at g1
   | .bool,g1=>simp[mT]at g1
   | .str,g1=>simp[mT]at g1
   | .any,g1=>simp[mT]at g1
   | .st _,g1=>simp[mT]at g1
   | .mp _ _,g1=>simp[mT]at g1
   | .sl (.int _),g1=>simp[mT]at g1
   | .sl .bool,g1=>simp[mT]at g1
   | .sl .str,g1=>simp[mT]at g1
   | .sl .any,g1=>simp[mT]at g1
   | .sl (.sl _),g1=>simp[mT]at g1
   | .sl (.mp _ _),g1=>simp[mT]at g1
 ·intro c' cs x xs hf _ h2 codes hc;cases codes with
  |nil=>simp[IW]at hc
  |cons c codes=>
   simp only[IW,ai]at hc;obtain⟨c2,g1,cs',g2,g3⟩:=hc;injection g3 with g3;injection g3 with g4 g5;subst g4 g5;obtain⟨q,rfl⟩:=h2 _ g2
   match c,g1 with
   | .int k,g1=>
    cases g1;obtain⟨n,rfl,_⟩:=hf;exact⟨(n,q),rfl⟩
   | .bool,g1=>
    cases g1;obtain⟨n,rfl⟩:=hf;exact⟨(n,q),rfl⟩
   | .str,g1=>
    cases g1;obtain⟨n,rfl,_⟩:=hf;exact⟨(n,q),rfl⟩
   | .sl (.st j),g1=>
    simp only[mT]at g1;split at g1
    ·cases g1;exact hf.elim
    ·cases g1
   | .any,g1=>simp[mT]at g1
   | .st _,g1=>simp[mT]at g1
   | .mp _ _,g1=>simp[mT]at g1
   | .sl (.int _),g1=>simp[mT]at g1
   | .sl .bool,g1=>simp[mT]at g1
   | .sl .str,g1=>simp[mT]at g1
   | .sl .any,g1=>simp[mT]at g1
   | .sl (.sl _),g1=>simp[mT]at g1
   | .sl (.mp _ _),g1=>simp[mT]at g1
def tm:Nat->CT X.ι->Option (List CS)
 | 0,_=>none
 |_+1,.int k=>some [.int k]
 |_+1,.bool=>some [.bool]
 |_+1,.str=>some [.str]
 |_+1,.any=>some [.any]
 |_+1,.mp _ _=>none
 |n+1,.sl e=>match aoj X.dec e with
  |some row=>some [.mu row]
  |none=>(tm n e).bind λr=>some [.sl r]
 |n+1,.st i=>(IW (tm n) (X.cV i)).bind λl=>some l.flatten
def Fl(n:Nat)(c:CT X.ι):Option VS:=
 match c with
 | .st i=>(tm n (.st i:CT X.ι)).map .agg
 |c=>(tm n c).bind λl=>match l with
  |[x]=>some (.one x)
  |_=>none
theorem TP:∀(a b:List CS)(ys:List Tree),cX (a++b) ys->∃ya yb,ys=ya++yb/\cX a ya/\cX b yb
 |[],b,ys,h=>⟨[],ys,rfl,trivial,h⟩
 |c::a,b,y::ys,h=>by
  simp only[List.cons_append,cX]at h;obtain⟨ya,yb,rfl,h1,h2⟩:=TP a b ys h.2;exact⟨y::ya,yb,rfl,⟨h.1,h1⟩,h2⟩
 |_::_,_,[],h=>h.elim
theorem aeo{c:CT X.ι}{cs:List CS}(h:∀ys,cX cs ys->∃x:CT.T X.toSE c,ys=CT.row X.toSE c x):∀rows:List (List Tree),(∀ r∈rows,cX cs r)->∃l:List (CT.T X.toSE c),rows=l.map (CT.row X.toSE c)
 |[],_=>⟨[],rfl⟩
 |r::rows,hr=>by
  obtain⟨x,hx⟩:=h r (hr r (by simp));obtain⟨l,hl⟩:=aeo h rows λq hq=>hr q (dS _ hq);exact⟨x::l,by rw[aC,<- hx,<- hl]⟩
theorem akQ{f:CT X.ι->Option (List CS)}(hf:∀c cs,f c=some cs->∀ys,cX cs ys->∃x:CT.T X.toSE c,ys=CT.row X.toSE c x):∀(l:List (CT X.ι))(css:List (List CS)),IW f l=some css->∀ys,cX css.flatten ys->∃h:HL X.toSE l,ys=HL.row X.toSE l h
 |[],css,h,ys,hy=>by
  simp only[IW,aA]at h;subst h;cases ys with
  |nil=>exact⟨(),rfl⟩
  |cons y ys=>exact hy.elim
 |c::l,css,h,ys,hy=>by
  simp only[IW]at h;rw[ai]at h;obtain⟨a,h1,h⟩:=h;rw[ai]at h;obtain⟨b,h2,h⟩:=h;cases h;simp only[List.flatten_cons]at hy;obtain⟨ya,yb,rfl,g1,g2⟩:=TP _ _ _ hy;have⟨x,hx⟩:=hf c a h1 ya g1;have⟨q,hq⟩:=akQ hf l b h2 yb g2;exact⟨(x,q),by rw[hx,hq];rfl⟩
theorem Vv:∀(n:Nat)(c:CT X.ι)(cs:List CS),tm n c=some cs->∀ys,cX cs ys->∃x:CT.T X.toSE c,ys=CT.row X.toSE c x
 | 0,_,_,h,_,_=>by cases h
 |n+1,.mp _ _,cs,h,ys,hy=>by simp[tm]at h
 |n+1,.int k,cs,h,ys,hy=>by
  simp only[tm,aA]at h;subst h
  match ys,hy with
  |[y],hy=>
   simp only[cX,Fit,and_true]at hy;obtain⟨m,rfl,_⟩:=hy;exact⟨m,rfl⟩
  |[],hy=>exact hy.elim
  |_::_::_,hy=>exact hy.2.elim
 |n+1,.bool,cs,h,ys,hy=>by
  simp only[tm,aA]at h;subst h
  match ys,hy with
  |[y],hy=>
   simp only[cX,Fit,and_true]at hy;obtain⟨m,rfl⟩:=hy;exact⟨m,rfl⟩
  |[],hy=>exact hy.elim
  |_::_::_,hy=>exact hy.2.elim
 |n+1,.str,cs,h,ys,hy=>by
  simp only[tm,aA]at h;subst h
  match ys,hy with
  |[y],hy=>
   simp only[cX,Fit,and_true]at hy;obtain⟨m,rfl,_⟩:=hy;exact⟨m,rfl⟩
  |[],hy=>exact hy.elim
  |_::_::_,hy=>exact hy.2.elim
 |n+1,.any,cs,h,ys,hy=>by
  simp only[tm,aA]at h;subst h
  match ys,hy with
  |[y],hy=>exact⟨y,rfl⟩
  |[],hy=>exact hy.elim
  |_::_::_,hy=>exact hy.2.elim
 |n+1,.sl e,cs,h,ys,hy=>by
  simp only[tm]at h;split at h
  ·rename_i row hm;cases h
   match ys,hy with
   |[y],hy=>
    simp only[cX,Fit,and_true]at hy;cases e with
    |st i=>
     simp only[aoj]at hm;cases hb:am9 X.dec i with
     |false=>rw[hb]at hm;cases hm
     |true=>
      rw[hb]at hm;have⟨l,hl⟩:=anJ X.dec hm hy;exact⟨l,by rw[hl];rfl⟩
    |_=>cases hm
   |[],hy=>exact hy.elim
   |_::_::_,hy=>exact hy.2.elim
  rw[ai]at h;obtain⟨r,h1,h⟩:=h;cases h
  match ys,hy with
  |[y],hy=>
   simp only[cX,Fit,and_true]at hy;obtain⟨rows,rfl,_,hr⟩:=hy;have⟨l,hl⟩:=aeo (Vv n e r h1) rows hr;exact⟨l,by rw[hl];rfl⟩
  |[],hy=>exact hy.elim
  |_::_::_,hy=>exact hy.2.elim
 |n+1,.st i,cs,h,ys,hy=>by
  simp only[tm]at h;rw[ai]at h;obtain⟨css,h1,h⟩:=h;cases h;have⟨q,hq⟩:=akQ (Vv n) (X.cV i) css h1 ys hy;exact⟨X.make i q,by rw[hq];exact(X.gh i q).symm⟩
theorem aml{n:Nat}{c:CT X.ι}{s:VS}(h:Fl n c=some s){x:TV}(hx:DB s x):∃y:CT.T X.toSE c,x=CT.tv X.toSE c y:=by
 have one:∀c:CT X.ι,c.one=true->((tm n c).bind λl=>match l with
  |[x]=>some (VS.one x)
  |_=>none)=some s->∃y:CT.T X.toSE c,x=CT.tv X.toSE c y:=by
  intro c hc h;rw[ai]at h;obtain⟨l,h1,h⟩:=h;split at h
  ·rename_i z;cases h;simp only[DB]at hx;obtain⟨t,rfl,ht⟩:=hx;obtain⟨y,hy⟩:=Vv n c _ h1 [t] ⟨ht,trivial⟩;obtain⟨t',e1,e2⟩:=row_one hc y;rw[e1]at hy;cases hy;exact⟨y,e2.symm⟩
  ·cases h
 cases c
 case st i=>
  simp only[Fl,eU]at h;obtain⟨cs,h1,rfl⟩:=h;simp only[DB]at hx;obtain⟨ys,rfl,hy⟩:=hx;obtain⟨y,hy⟩:=Vv n (.st i) _ h1 ys hy;exact⟨y,by rw[hy];rfl⟩
 all_goals exact one _ rfl h
theorem aep(n:Nat):∀(cs:List (CT X.ι))(ss:List VS),IW (Fl n) cs=some ss->∀xs,WK ss xs->∃h:HL X.toSE cs,xs=HL.nq X.toSE cs h
 |[],ss,h,xs,hx=>by
  simp only[IW,aA]at h;subst h;cases xs with
  |nil=>exact⟨(),rfl⟩
  |cons x xs=>exact hx.elim
 |c::cs,ss,h,xs,hx=>by
  simp only[IW]at h;rw[ai]at h;obtain⟨a,h1,h⟩:=h;rw[ai]at h;obtain⟨b,h2,h⟩:=h;cases h;cases xs with
  |nil=>exact hx.elim
  |cons x xs=>
   obtain⟨y,rfl⟩:=aml h1 hx.1;obtain⟨q,rfl⟩:=aep n cs b h2 xs hx.2;exact⟨(y,q),rfl⟩
theorem akR{P:Program}{f:FuncId}{n N:Nat}{cs:List (CT X.ι)}{ss:List VS}{fn:Nat->jg X (cs.map AT.d)->Option Bool}(hc:∀k,CH P f ⟨cs.map AT.d,[.d .bool],fn k,none⟩)(hs:IW (Fl n) cs=some ss)(hl:∀q:HL X.toSE cs,WK ss (HL.nq X.toSE cs q)->WL (HL.nq X.toSE cs q)<=N->∃k,fn k (hlA cs q)=some true)(xs:List TV)(h:WK ss xs)(hb:WL xs<=N):
 sB P f (xs.map TV.av) (.one (.d (.s (.sc (.bool true))))):=by
 obtain⟨q,rfl⟩:=aep n cs ss hs xs h;have⟨k,hk⟩:=hl q h hb;have h1:=(hc k).2.1 (hlA cs q) true hk;have h2:=h1;rw[Au (Wf cs)]at h2;have h3:rN P f (Ar (cs.map AT.d) (hlA cs q)) [] [] (.one (.d (.s (.sc (.bool true))))):=h2;have h4:=WJ h3;rw[Ar,Rn]at h4;exact h4
end
structure Is where
 env:List (Nat×AV)
 obj:List (Nat×Option aU)
 ok:List (Nat×Option Bool)
def Is.st(F:Nat->Option aU)(L:Is):St:=
 ⟨λ t=>(lk L.env t).getD .undef,λk=>match lk L.obj k with |some o=>o |none=>F k,λt=>(lk L.ok t).join⟩
def Is.app(L:Is)(dst:Option Tmp)(p:Out×Option Bool):Is:=
 match dst with
 |some d=>⟨(d,p.1.v)::L.env,p.1.upd++L.obj,(d,p.2)::L.ok⟩
 |none=>⟨L.env,p.1.upd++L.obj,L.ok⟩
section
variable (P:Program) (T:dy) (am:Array Oper) (cQ:Nat->mj) (F:Nat->Option aU)
end
section
variable {P:Program} {T:dy} {N:Nat} {Q:Exit->St->Prop} {am:Array Oper} {cQ:Nat->mj} {σ σ' σ2:St}
structure Told(σ' σ2:St):Prop where
 re:∃(f g:Nat->Nat)(D:Nat->Prop),(∀ k,D k->g (f k)=k)/\(∀ j,j<1000->g j=j)/\
  (∀ t,σ2.env t= .undef\/(σ'.ok t=none/\(∀ k∈refs (σ'.env t),D k)/\k7 (eW f (σ'.env t)) (σ2.env t)))/\
  (∀ j o',σ2.obj j=some o'->∃k o,σ'.obj k=some o/\D k/\f k=j/\o'.sz=o.sz/\gO D f o.rows o'.rows)
 ok:∀t,σ2.ok t=none
 old:sy σ2
end
mutual
theorem amm{f:Nat->Nat}:∀x:AV,(∀ k∈refs x,f k=k)->eW f x=x
 | .own k aa len,h=>by simp only[eW];rw[h k (by simp[refs])]
 | .ptr k row aa,h=>by simp only[eW];rw[h k (by simp[refs])]
 | .mp k,h=>by simp only[eW];rw[h k (by simp[refs])]
 | .oz k len,h=>by simp only[eW];rw[h k (by simp[refs])]
 | .agg cs,h=>by simp only[eW];rw[Km cs (by simpa[refs]using h)]
 | .fi cs,h=>by simp only[eW];rw[Km cs (by simpa[refs]using h)]
 | .fn F first caps,h=>by simp only[eW];rw[Km first (λ k hk=>h k (by simp[refs,hk])),Km caps (λ k hk=>h k (by simp[refs,hk]))]
 | .t _,_=>rfl
 | .eo _ _,_=>rfl
 | .cT _,_=>rfl
 | .cM,_=>rfl
 | .ub,_=>rfl
 | .undef,_=>rfl
theorem Km{f:Nat->Nat}:∀l:List AV,(∀ k∈eH l,f k=k)->zi f l=l
 |[],_=>rfl
 |x::xs,h=>by simp only[zi];rw[amm x (λ k hk=>h k (by simp[eH,hk])),Km xs (λ k hk=>h k (by simp[eH,hk]))]
end
section
variable {P:Program} {β:Nat->Option cE} {w:World} {I:Nat->Prop}
def mA(P:Program)(β:Nat->Option cE)(w:World)(I:Nat->Prop):List AV->List AV->Prop
 |[],[]=>True
 |x::xs,y::ys=>(∀ v,VR P β w I x v->VR P β w I y v)/\mA P β w I xs ys
 |_,_=>False
def mf(P:Program)(β:Nat->Option cE)(w:World)(I:Nat->Prop):List (List AV)->List (List AV)->Prop
 |[],[]=>True
 |r::rs,q::qs=>mA P β w I r q/\mf P β w I rs qs
 |_,_=>False
theorem mA.refl:∀r:List AV,mA P β w I r r
 |[]=>trivial
 |_::xs=>⟨λ _ h=>h,mA.refl xs⟩
theorem mf.app{q q':List AV}(h:mA P β w I q q'):∀R:List (List AV),mf P β w I (R++[q]) (R++[q'])
 |[]=>⟨h,trivial⟩
 |r::R=>⟨mA.refl r,mf.app h R⟩
theorem mA.row:∀{r q:List AV}{c:Array Value}{aa:Nat},mA P β w I r q->cP P β w I r c aa->cP P β w I q c aa
 |[],[],_,_,_,_=>trivial
 |_::_,_::_,_,_,h,⟨⟨v,h1,h2,h3⟩,h4⟩=>⟨⟨v,h1,h.1 v h2,h3⟩,mA.row h.2 h4⟩
 |[],_::_,_,_,h,_=>h.elim
 |_::_,[],_,_,h,_=>h.elim
theorem mA.length:∀{r q:List AV},mA P β w I r q->q.length=r.length
 |[],[],_=>rfl
 |_::_,_::_,h=>congrArg (· +1) (mA.length h.2)
 |[],_::_,h=>h.elim
 |_::_,[],h=>h.elim
theorem mf.rows:∀{rs qs:List (List AV)}{c:Array Value}{aa sz:Nat},mf P β w I rs qs->bp P β w I rs c aa sz->bp P β w I qs c aa sz
 |[],[],_,_,_,_,_=>trivial
 |_::_,_::_,_,_,_,h,⟨h1,h2,h3⟩=>⟨by rw[h.1.length];exact h1,h.1.row h2,h.2.rows h3⟩
 |[],_::_,_,_,_,h,_=>h.elim
 |_::_,[],_,_,_,h,_=>h.elim
theorem mf.length:∀{rs qs:List (List AV)},mf P β w I rs qs->qs.length=rs.length
 |[],[],_=>rfl
 |_::_,_::_,h=>congrArg (· +1) (mf.length h.2)
 |[],_::_,h=>h.elim
 |_::_,[],h=>h.elim
end
end Go.Gb
