import Derived.Test.YtkgkglgpckgokaaGreatW4
open List (mem_map all_eq_true length_map map_nil)
namespace Go.Gb
open Go.RowKit
section
variable {X:SX} {T:ea}
theorem KP(ol:Nat->Nat):∀(ps:List (Pt X.ι))(L:List (DC X)),(lh ol ps L).1.length=ps.length
 |[],_=>rfl
 |p::ps,L=>by simp only[lh,bI,KP ol ps]
def cX.AN(g:cX X):Bool:=
 decide (g.iz.map (·.1)=List.range g.iz.length)&&decide (g.iz.length<=1000)&&((AP g.px).all λk=>Nat.blt k 1000)&&g.iz.all λq=>q.2.refs.all λk=>Nat.blt k 1000
def F1(g:cX X)(v:VT (X:=X) (cP g.px++cH g.iz)):de X:=⟨(List.range g.px.length).zip (g.args v),K0 g.px g.iz (vT _ v),1000,[]⟩
theorem uS{ol:Nat->Nat}:∀(O:List (Nat×OP X.ι))(L:List (DC X)),dn ol O L=(dG (dn ol O L)).map λp=>(p.1,some p.2)
 |[],L=>rfl
 |(k,.l c)::O,L=>by
  match L with
  |[]=>rfl
  |⟨.sl c',x⟩::L=>simp only[dn,dG,aF];rw[<- uS O L]
  |⟨.int _,x⟩::L=>rfl
  |⟨.bool,x⟩::L=>rfl
  |⟨.str,x⟩::L=>rfl
  |⟨.any,x⟩::L=>rfl
  |⟨.st _,x⟩::L=>rfl
  |⟨.mp _ _,x⟩::L=>rfl
 |(k,.m kc vc)::O,L=>by
  match L with
  |[]=>rfl
  |⟨.mp _ _,x⟩::L=>simp only[dn,dG,aF];rw[<- uS O L]
  |⟨.sl _,x⟩::L=>rfl
  |⟨.int _,x⟩::L=>rfl
  |⟨.bool,x⟩::L=>rfl
  |⟨.str,x⟩::L=>rfl
  |⟨.any,x⟩::L=>rfl
  |⟨.st _,x⟩::L=>rfl
 |(k,.c sz rows)::O,L=>by simp only[dn,dG,aF];rw[<- uS O _]
theorem DX{ol:Nat->Nat}:∀(O:List (Nat×OP X.ι))(L:List (DC X)),L.map (·.c)=cH O->(dG (dn ol O L)).map (·.1)=O.map (·.1)
 |[],L,_=>rfl
 |(k,.l c)::O,L,h=>by
  match L,h with
  |⟨.sl c',x⟩::L,h=>
   simp only[aF,cH,List.cons.injEq]at h;simp only[dn,dG,aF,DX O L h.2]
  |[],h=>simp[cH]at h
  |⟨.int _,x⟩::L,h=>simp[cH]at h
  |⟨.bool,x⟩::L,h=>simp[cH]at h
  |⟨.str,x⟩::L,h=>simp[cH]at h
  |⟨.any,x⟩::L,h=>simp[cH]at h
  |⟨.st _,x⟩::L,h=>simp[cH]at h
  |⟨.mp _ _,x⟩::L,h=>simp[cH]at h
 |(k,.m kc vc)::O,L,h=>by
  match L,h with
  |⟨.mp _ _,x⟩::L,h=>
   simp only[aF,cH,List.cons.injEq]at h;simp only[dn,dG,aF,DX O L h.2]
  |[],h=>simp[cH]at h
  |⟨.sl _,x⟩::L,h=>simp[cH]at h
  |⟨.int _,x⟩::L,h=>simp[cH]at h
  |⟨.bool,x⟩::L,h=>simp[cH]at h
  |⟨.str,x⟩::L,h=>simp[cH]at h
  |⟨.any,x⟩::L,h=>simp[cH]at h
  |⟨.st _,x⟩::L,h=>simp[cH]at h
 |(k,.c sz rows)::O,L,h=>by
  simp only[cH]at h;simp only[dn,dG,aF,DX O _ (KL (ol:=ol) rows L _ h).1]
theorem ai1(g:cX X)(v:VT (X:=X) (cP g.px++cH g.iz))(h:g.iz.map (·.1)=List.range g.iz.length):(g.cE v).map (·.1)=List.range (g.cE v).length:=by
 have e:(g.cE v).map (·.1)=g.iz.map (·.1):=DX g.iz _ (by rw[List.map_drop,Z3,List.drop_left]);have l:=congrArg List.length e;rw[length_map,length_map]at l;rw[e,h,l]
theorem Wm(k:Nat):∀l:List (Nat×bm X),gz (l.map λp=>(p.1,some p.2)) k=tw l k
 |[]=>rfl
 |p::l=>by
  simp only[aF,gz,lk,tw];split
  ·rfl
  ·exact Wm k l
theorem akK(t:Nat):∀(ks:List Nat)(ds:List (DV X)),den (eM (ks.zip ds) t)=(lk (ks.zip (bL ds)) t).getD .undef:=by
 intro ks
 induction ks with
 |nil=>intro ds;rfl
 |cons k ks ih=>
  intro ds;cases ds with
  |nil=>rfl
  |cons d ds=>
   simp only[List.zip_cons_cons,eM,lk,bL];by_cases h:k=t
   ·simp[h]
   ·simp only[aQ h];exact ih ds
theorem Z5(t:Nat):∀(ks:List Nat)(ds:List (DV X)),∀j∈bk (eM (ks.zip ds) t),j∈aP ds:=by
 intro ks
 induction ks with
 |nil=>intro ds j hj;simp[eM,lk,bk]at hj
 |cons k ks ih=>
  intro ds j hj;cases ds with
  |nil=>simp[eM,lk,bk]at hj
  |cons d ds=>
   simp only[List.zip_cons_cons,eM,lk]at hj;simp only[aP,bf];by_cases e:k=t
   ·simp only[aX e,Option.getD_some]at hj;exact .inl hj
   ·simp only[aQ e]at hj;exact .inr (ih ds j hj)
def DY(O:List (Nat×OP X.ι)):List (Nat×Pt X.ι)->List (Nat×CT X.ι)
 |[]=>[]
 |(t,.o k)::r=>match lk O k with
  |some (.l c)=>(t,c)::DY O r
  |_=>DY O r
 |(t,.oz k)::r=>match lk O k with
  |some (.l c)=>(t+1099511627776,c)::DY O r
  |_=>DY O r
 |_::r=>DY O r
def Wn(O:List (Nat×OP X.ι)):List (Nat×OP X.ι)->List (Nat×CT X.ι)
 |(q,.c _ [row])::r=>(DY O (lj (1000000+q*4096) row)).filter (λ p=>Nat.ble p.1 1000000000)++Wn O r
 |_::r=>Wn O r
 |[]=>[]
def zW(g:cX X):Sh X.ι:=⟨lj 0 g.fy,g.ix,[],[],1000000,DY g.ix (lj 0 g.fy)++Wn g.ix g.ix⟩
def anP(T:ea)(rs:List ResultVar)(g:cX X):Exit->de X->Option (VT (X:=X) (zW g).vars)
 | .normal,s=>YD T s rs λds=>bif decide (ds.length=g.fy.length)&&(aP ds).all (λ k=>Nat.blt k s.nx)then
  p9 (zW g) (List.range ds.length) ⟨(List.range ds.length).zip ds,s.obj,s.nx,s.log⟩ ⟨(List.range ds.length).zip ds,s.obj,s.nx,s.log⟩ some else none
 | .ret,s=>YD T s rs λds=>bif decide (ds.length=g.fy.length)&&(aP ds).all (λ k=>Nat.blt k s.nx)then
  p9 (zW g) (List.range ds.length) ⟨(List.range ds.length).zip ds,s.obj,s.nx,s.log⟩ ⟨(List.range ds.length).zip ds,s.obj,s.nx,s.log⟩ some else none
 |_,_=>none
theorem Wo{ol:Nat->Nat}(t:Nat):∀(n:Nat)(ps:List (Pt X.ι))(L:List (DC X)),eM (KJ ol (lj n ps) L) (n+t)=((lh ol ps L).1[t]?).getD .undef
 |n,[],L=>by simp[lj,KJ,eM,lk,lh]
 |n,p::ps,L=>by
  simp only[lj,KJ,eM,lk,lh];cases t with
  |zero=>simp
  |succ t=>
   rw[aQ (by omega)];have:=Wo (ol:=ol) t (n+1) ps (eP ol p L).2;rw[show n+1+t=n+(t+1)by omega]at this;simpa[eM]using this
theorem ai2 {P:Program} {g:cX X} {s:de X} {rs:List ResultVar} {r:VT (X:=X) (zW g).vars} (hl:Low s) (h:(YD T s rs λds=>bif decide (ds.length=g.fy.length)&&(aP ds).all (λ k=>Nat.blt k s.nx)then
 p9 (zW g) (List.range ds.length) ⟨(List.range ds.length).zip ds,s.obj,s.nx,s.log⟩ ⟨(List.range ds.length).zip ds,s.obj,s.nx,s.log⟩ some else none)=some r):
 ∃xs,ng T s.st rs=some xs/\L7 P s.st.obj xs (sJ (g.outs r)) (den (g.res r)):=by
 have⟨ds,h1,h⟩:=Jl T h;have⟨h2,h⟩:=dZ h;simp only[aL,aV]at h2;obtain⟨h2,h3⟩:=h2;have hl':Low (⟨(List.range ds.length).zip ds,s.obj,s.nx,s.log⟩:de X):=⟨hl.le,hl.ge,λt k hk=>by
  have:=all_eq_true.1 h3 k (Z5 t _ _ k hk);exact Nat.blt_eq.mp this,hl.obj⟩
 obtain⟨v,h4,_,_,hrel⟩:=kV hl' hl' (Ext.refl _ _) h;injection h4 with h4;subst h4;refine⟨bL ds,PD T h1,λw0 O0 β I w vs hM hv=>?_⟩;have hvl:=aE.length _ _ hv;simp only[Array.length_toList,kS]at hvl;have hR:Rel P w0 O0 vs.size β I (⟨(List.range ds.length).zip ds,s.obj,s.nx,s.log⟩:de X).st { tmps:=vs,defers:=[] } w:=by
  refine⟨rfl,rfl,λt=>?_,hM⟩;show VR P β w I (den (eM ((List.range ds.length).zip ds) t)) (vs.getD t undef);rw[akK,show List.range ds.length=List.range (bL ds).length by rw[kS],AA];cases ht:(bL ds)[t]? with
  |none=>simp[VR]
  |some x=>
   obtain⟨u,g1,g2⟩:=aE.get _ _ t _ hv ht;rw[Array.getElem?_toList]at g1;simp only[Option.getD_some,Array.getD_eq_getD_getElem?,g1];exact g2
 obtain⟨β',hR'⟩:=hrel P w0 O0 _ β I _ w hR;have hn:(gE (lj 0 g.fy)).length=(cP g.fy).length:=by rw[Pp]
 refine⟨β',I,?_,λ_ h=>h,?_⟩
 ·have:=hR'.mem;have e:(encS (zW g) ⟨(List.range ds.length).zip ds,s.obj,s.nx,s.log⟩ v).st.obj=nw (sJ (g.outs v)):=by
   funext k;simp only[de.st,encS,zW,map_nil,List.append_nil,Pw,cX.outs,K0,AL];rw[uS,Wm,<- hn];rfl
  rw[e]at this;exact this
 ·obtain⟨pv,hpv⟩:∃pv,pv=Vy g.fy g.ix (vT (zW g).vars v):=⟨_,rfl⟩;have hres:g.res v=yD pv:=by rw[hpv];rfl
  have q6:∀t,VR P β' w I (den ((pv[t]?).getD .undef)) (vs.getD t undef):=by
   intro t;have:=hR'.env t;simp only[de.st,eJ,encS,zW,map_nil,List.append_nil]at this;have e:=Wo (ol:=AL g.ix ((vT (zW g).vars v).drop (cP g.fy).length)) t 0 g.fy ((vT (zW g).vars v).take (cP g.fy).length);rw[Nat.zero_add]at e;rw[hpv];simp only[Vy];rw[<- e,<- hn];exact this
  have hpl:pv.length=g.fy.length:=by rw[hpv];exact KP _ _ _
  have hsz:vs.size=pv.length:=by rw[hpl,<- h2,hvl]
  rw[hres];have hall:aE P β' w I (bL pv) vs.toList:=by
   have gen:∀(pv:List (DV X)) (us:List Value),us.length=pv.length->(∀ t,t<pv.length->VR P β' w I (den ((pv[t]?).getD .undef)) (us.getD t undef))->aE P β' w I (bL pv) us:=by
    intro pv
    induction pv with
    |nil=>intro us hl _;cases us<;>simp_all [bL,aE]
    |cons d pv ih=>
     intro us hl hh;cases us with
     |nil=>simp at hl
     |cons u us=>
      simp only[bL,aE];refine⟨by simpa using hh 0 (by simp),ih us (by simpa using hl) λt ht=>by simpa using hh (t+1) (by simpa using ht)⟩
   refine gen pv vs.toList (by simpa using hsz) λt ht=>?_;have e:vs.toList.getD t undef=vs.getD t undef:=(by simp[List.getD_eq_getElem?_getD,Array.getD_eq_getD_getElem?]);rw[e];exact q6 t
  match pv,hsz,hall with
  |[d],hsz,hall=>
   obtain⟨u,rfl⟩:=Array.size_eq_one_iff.1 (show vs.size=1 by simpa using hsz);simp only[bL,aE]at hall;simpa[yD]using hall.1
  |[],hsz,hall=>
   have h1:¬vs.size=1:=(by rw[hsz];simp);rw[dif_neg h1];simp only[yD,den,VR];exact⟨vs,rfl,hall⟩
  |d::e::pv,hsz,hall=>
   have h1:¬vs.size=1:=(by rw[hsz];simp);rw[dif_neg h1];simp only[yD,den,VR];exact⟨vs,rfl,hall⟩
variable {Γ:FuncId->Option (bx X)} {am:TypeId->Option (CT X.ι)} {P:Program}
theorem aog(hT : eY P T)(hm : P.follows .mixedOrders = true)(hΓ : sC P Γ){f : FuncId}{fn : Func}{c : Code}(hfn : P.funcs[f]? = some fn)(hb : fn.body = some c)(hname : (fn.name == "runtime.NumGoroutine") = false)(g : cX X)(hN : g.px.length <= fn.ntmps)(hin : g.AN = true)
 (h:Hn X.ι) (n:Nat) (hr:∀v (r:VT (X:=X) (zW g).vars),g.fn v=some r->run Γ T am fn.ntmps n c (VT (X:=X) (zW g).vars) h (F1 g v) (anP T fn.results.toList g)=some r):FG P f g:=by
 intro v r hv;have hrun:=hr v r hv;simp only[cX.AN,aL,aV]at hin;obtain⟨⟨⟨i1,i2⟩,i3⟩,i4⟩:=hin;obtain⟨s1,s2,_⟩:=yG (ol:=AL g.iz ((vT (cP g.px++cH g.iz) v).drop (cP g.px).length)) g.iz ((vT _ v).drop (cP g.px).length);have hargs:∀k∈aP (g.args v),k<1000:=λk hk=>Nat.blt_eq.mp (all_eq_true.1 i3 k (yF g.px _ k hk));have tj:∀p∈g.cE v,p.1<1000/\∀j∈d5 p.2,j<1000:=by
  intro p hp;have⟨op,g1,g2⟩:=s2 p hp;have hk:p.1∈g.iz.map (·.1):=mem_map.2 ⟨_,g1,rfl⟩;rw[i1]at hk;have:=List.mem_range.1 hk;exact⟨by omega,λj hj=>Nat.blt_eq.mp (all_eq_true.1 (all_eq_true.1 i4 _ g1) j (g2 j hj))⟩
 have hal:(g.args v).length=g.px.length:=KP _ _ _;have hkeys:(g.cE v).map (·.1)=List.range (g.cE v).length:=ai1 g v i1;have gp:∀k,gz (F1 g v).obj k=tw (g.cE v) k:=by
  intro k;show gz (dn _ g.iz _) k=tw (dG (dn _ g.iz _)) k;rw[uS,Wm,<- uS]
 have SM:∀(l:List (Nat×bm X))(n:Nat),l.map (·.1)=(List.range l.length).map (n+ ·)->∀k,tw l (n+k)=(l[k]?).map (·.2):=by
  intro l
  induction l with
  |nil=>intro n _ k;rfl
  |cons p l ih=>
   intro n hn k;rw[bI,List.range_succ_eq_map,aF,aF,List.map_map]at hn;injection hn with e1 e2;simp only[tw];cases k with
   |zero=>rw[aX (by omega)];rfl
   |succ k=>
    rw[aQ (by omega),show n+(k+1)=(n+1)+k by omega,ih (n+1) (by rw[e2];refine List.map_congr_left λa _=>?_;simp only[Function.comp_apply];omega) k];rfl
 have hlow:Low (F1 g v):=by
  refine⟨by show 1000<=1000000;decide,aC _,λt k hk=>hargs k (Z5 t _ _ k hk),λk o ho=>?_⟩;rw[gp]at ho;have hmem:∀(l:List (Nat×bm X)),tw l k=some o->(k,o)∈l:=by
   intro l
   induction l with
   |nil=>intro h;simp[tw]at h
   |cons p l ih=>
    intro h;simp only[tw]at h;split at h
    ·rename_i e;cases h;subst e;exact List.mem_cons_self
    ·exact eG _ (ih h)
  exact tj _ (hmem _ ho)
 refine aiy hT hfn hb hname (by rw[kS,hal];exact hN) (λ k hk=>hargs k (by rwa [gY]at hk)) (by rw[length_map,<- length_map (f:=Prod.fst),hkeys,List.length_range];have:=s1.length_le;rw[length_map,length_map]at this;exact Nat.le_trans this i2) ?_ ?_
 ·intro o ho r' hr' x hx j hj;obtain⟨p,hp,rfl⟩:=mem_map.1 ho;exact(tj p hp).2 j (V3 hr' hx j hj)
 ·have e:ro.st ⟨(List.range (bL (g.args v)).length).zip (bL (g.args v)),(List.range ((g.cE v).map λp=>bG p.2).length).zip ((g.cE v).map λp=>bG p.2)⟩=(F1 g v).st:=by
   simp only[de.st,ro.st,St.mk.injEq,and_true];refine⟨?_,?_⟩
   ·funext t;simp only[F1];rw[akK,kS,hal]
   ·funext k;rw[AA,gp,List.getElem?_map];have:=SM (g.cE v) 0 (by rw[hkeys];simp) k;rw[Nat.zero_add]at this;rw[this,Option.map_map];rfl
  rw[e];refine(kJ hT hm hΓ c _ h _ _ r hlow hrun).mono ?_;rintro e σ ⟨s',hl',_,rfl,g4⟩;cases e<;>first |exact ai2 hl' g4 |cases g4
end
section
variable {P:Program} {f F:FuncId} {E:TypeId} {α:Type} {enc:α->Value} {d:α}
end
section
variable {X:SX}
end
section
variable {X:SX}
def Fu{α β:Type}(f:α->Option β):List α->Option (List β)
 |[]=>some []
 |x::xs=>(f x).bind λy=>(Fu f xs).bind λys=>some (y::ys)
def m7(dq:(i j:X.ι)->Decidable (i=j))(i:X.ι):CT X.ι->Option CS
 | .int k=>some (.int k)
 | .bool=>some .bool
 | .str=>some .str
 | .sl (.st j)=>match dq j i with
  | .isTrue _=>some .back
  | .isFalse _=>none
 |_=>none
def anQ(dq:(i j:X.ι)->Decidable (i=j))(i:X.ι):Bool:=(X.cQ i).any λc=>match c with
 | .sl (.st j)=>match dq j i with
  | .isTrue _=>true
  | .isFalse _=>false
 |_=>false
def aoP(dq:(i j:X.ι)->Decidable (i=j)):CT X.ι->Option (List CS)
 | .st i=>bif anQ dq i then Fu (m7 dq i) (X.cQ i)else none
 |_=>none
theorem aoh(dq:(i j:X.ι)->Decidable (i=j)){i:X.ι}{row:List CS}(hm:Fu (m7 dq i) (X.cQ i)=some row){x:Tree}(h:GE row x):∃l:List (CT.T X.toSE (.st i)),x= .sl (l.map (CT.row X.toSE (.st i))):=by
 refine GE.rec (row:=row) (motive_1:=λx _=>∃l:List (CT.T X.toSE (.st i)),x= .sl (l.map (CT.row X.toSE (.st i)))) (motive_2:=λrows _=>∃l:List (CT.T X.toSE (.st i)),rows=l.map (CT.row X.toSE (.st i)))
  (motive_3:=λcs r _=>∀codes:List (CT X.ι),Fu (m7 dq i) codes=some cs->∃h:HL X.toSE codes,r=HL.row X.toSE codes h) ?_ ?_ ?_ ?_ ?_ ?_ h
 ·rintro rows _ _ ⟨l,rfl⟩;exact⟨l,rfl⟩
 ·exact⟨[],rfl⟩
 ·rintro r rs _ _ h1 ⟨l,rfl⟩;obtain⟨q,rfl⟩:=h1 _ hm;exact⟨(X.make i q:X.T i)::l,by rw[aF];congr 1;exact(X.gd i q).symm⟩
 ·intro codes hc;cases codes with
  |nil=>exact⟨(),rfl⟩
  |cons c codes=>
   simp only[Fu,ai]at hc;obtain⟨_,_,_,_,h⟩:=hc;cases h
 ·intro cs x xs _ _ h1 h2 codes hc;obtain⟨l,rfl⟩:=h1;cases codes with
  |nil=>simp[Fu]at hc
  |cons c codes=>
   simp only[Fu,ai]at hc;obtain⟨c',g1,cs',g2,g3⟩:=hc;injection g3 with g3;injection g3 with g4 g5;subst g4 g5;obtain⟨q,rfl⟩:=h2 _ g2
   match c,g1 with
   | .sl (.st j),g1=>
    simp only[m7]at g1;split at g1
    ·rename_i hj _;subst hj;exact⟨(l,q),rfl⟩
    ·cases g1
   | .int _,g1=>simp[m7]at g1
   | .bool,g1=>simp[m7]at g1
   | .str,g1=>simp[m7]at g1
   | .any,g1=>simp[m7]at g1
   | .st _,g1=>simp[m7]at g1
   | .mp _ _,g1=>simp[m7]at g1
   | .sl (.int _),g1=>simp[m7]at g1
   | .sl .bool,g1=>simp[m7]at g1
   | .sl .str,g1=>simp[m7]at g1
   | .sl .any,g1=>simp[m7]at g1
   | .sl (.sl _),g1=>simp[m7]at g1
   | .sl (.mp _ _),g1=>simp[m7]at g1
 ·intro c' cs x xs hf _ h2 codes hc;cases codes with
  |nil=>simp[Fu]at hc
  |cons c codes=>
   simp only[Fu,ai]at hc;obtain⟨c2,g1,cs',g2,g3⟩:=hc;injection g3 with g3;injection g3 with g4 g5;subst g4 g5;obtain⟨q,rfl⟩:=h2 _ g2
   match c,g1 with
   | .int k,g1=>
    cases g1;obtain⟨n,rfl,_⟩:=hf;exact⟨(n,q),rfl⟩
   | .bool,g1=>
    cases g1;obtain⟨n,rfl⟩:=hf;exact⟨(n,q),rfl⟩
   | .str,g1=>
    cases g1;obtain⟨n,rfl,_⟩:=hf;exact⟨(n,q),rfl⟩
   | .sl (.st j),g1=>
    simp only[m7]at g1;split at g1
    ·cases g1;exact hf.elim
    ·cases g1
   | .any,g1=>simp[m7]at g1
   | .st _,g1=>simp[m7]at g1
   | .mp _ _,g1=>simp[m7]at g1
   | .sl (.int _),g1=>simp[m7]at g1
   | .sl .bool,g1=>simp[m7]at g1
   | .sl .str,g1=>simp[m7]at g1
   | .sl .any,g1=>simp[m7]at g1
   | .sl (.sl _),g1=>simp[m7]at g1
   | .sl (.mp _ _),g1=>simp[m7]at g1
def t7:Nat->CT X.ι->Option (List CS)
 | 0,_=>none
 |_+1,.int k=>some [.int k]
 |_+1,.bool=>some [.bool]
 |_+1,.str=>some [.str]
 |_+1,.any=>some [.any]
 |_+1,.mp _ _=>none
 |n+1,.sl e=>match aoP X.dec e with
  |some row=>some [.mu row]
  |none=>(t7 n e).bind λr=>some [.sl r]
 |n+1,.st i=>(Fu (t7 n) (X.cQ i)).bind λl=>some l.flatten
def GG(n:Nat)(c:CT X.ι):Option VS:=
 match c with
 | .st i=>(t7 n (.st i:CT X.ι)).map .agg
 |c=>(t7 n c).bind λl=>match l with
  |[x]=>some (.one x)
  |_=>none
theorem Ru:∀(a b:List CS)(ys:List Tree),dc (a++b) ys->∃ya yb,ys=ya++yb/\dc a ya/\dc b yb
 |[],b,ys,h=>⟨[],ys,rfl,trivial,h⟩
 |c::a,b,y::ys,h=>by
  simp only[List.cons_append,dc]at h;obtain⟨ya,yb,rfl,h1,h2⟩:=Ru a b ys h.2;exact⟨y::ya,yb,rfl,⟨h.1,h1⟩,h2⟩
 |_::_,_,[],h=>h.elim
theorem ady{c:CT X.ι}{cs:List CS}(h:∀ys,dc cs ys->∃x:CT.T X.toSE c,ys=CT.row X.toSE c x):∀rows:List (List Tree),(∀ r∈rows,dc cs r)->∃l:List (CT.T X.toSE c),rows=l.map (CT.row X.toSE c)
 |[],_=>⟨[],rfl⟩
 |r::rows,hr=>by
  obtain⟨x,hx⟩:=h r (hr r (by simp));obtain⟨l,hl⟩:=ady h rows λq hq=>hr q (eG _ hq);exact⟨x::l,by rw[aF,<- hx,<- hl]⟩
theorem akL{f:CT X.ι->Option (List CS)}(hf:∀c cs,f c=some cs->∀ys,dc cs ys->∃x:CT.T X.toSE c,ys=CT.row X.toSE c x):∀(l:List (CT X.ι))(css:List (List CS)),Fu f l=some css->∀ys,dc css.flatten ys->∃h:HL X.toSE l,ys=HL.row X.toSE l h
 |[],css,h,ys,hy=>by
  simp only[Fu,aA]at h;subst h;cases ys with
  |nil=>exact⟨(),rfl⟩
  |cons y ys=>exact hy.elim
 |c::l,css,h,ys,hy=>by
  simp only[Fu]at h;rw[ai]at h;obtain⟨a,h1,h⟩:=h;rw[ai]at h;obtain⟨b,h2,h⟩:=h;cases h;simp only[List.flatten_cons]at hy;obtain⟨ya,yb,rfl,g1,g2⟩:=Ru _ _ _ hy;have⟨x,hx⟩:=hf c a h1 ya g1;have⟨q,hq⟩:=akL hf l b h2 yb g2;exact⟨(x,q),by rw[hx,hq];rfl⟩
theorem Uk:∀(n:Nat)(c:CT X.ι)(cs:List CS),t7 n c=some cs->∀ys,dc cs ys->∃x:CT.T X.toSE c,ys=CT.row X.toSE c x
 | 0,_,_,h,_,_=>by cases h
 |n+1,.mp _ _,cs,h,ys,hy=>by simp[t7]at h
 |n+1,.int k,cs,h,ys,hy=>by
  simp only[t7,aA]at h;subst h
  match ys,hy with
  |[y],hy=>
   simp only[dc,Fit,and_true]at hy;obtain⟨m,rfl,_⟩:=hy;exact⟨m,rfl⟩
  |[],hy=>exact hy.elim
  |_::_::_,hy=>exact hy.2.elim
 |n+1,.bool,cs,h,ys,hy=>by
  simp only[t7,aA]at h;subst h
  match ys,hy with
  |[y],hy=>
   simp only[dc,Fit,and_true]at hy;obtain⟨m,rfl⟩:=hy;exact⟨m,rfl⟩
  |[],hy=>exact hy.elim
  |_::_::_,hy=>exact hy.2.elim
 |n+1,.str,cs,h,ys,hy=>by
  simp only[t7,aA]at h;subst h
  match ys,hy with
  |[y],hy=>
   simp only[dc,Fit,and_true]at hy;obtain⟨m,rfl,_⟩:=hy;exact⟨m,rfl⟩
  |[],hy=>exact hy.elim
  |_::_::_,hy=>exact hy.2.elim
 |n+1,.any,cs,h,ys,hy=>by
  simp only[t7,aA]at h;subst h
  match ys,hy with
  |[y],hy=>exact⟨y,rfl⟩
  |[],hy=>exact hy.elim
  |_::_::_,hy=>exact hy.2.elim
 |n+1,.sl e,cs,h,ys,hy=>by
  simp only[t7]at h;split at h
  ·rename_i row hm;cases h
   match ys,hy with
   |[y],hy=>
    simp only[dc,Fit,and_true]at hy;cases e with
    |st i=>
     simp only[aoP]at hm;cases hb:anQ X.dec i with
     |false=>rw[hb]at hm;cases hm
     |true=>
      rw[hb]at hm;have⟨l,hl⟩:=aoh X.dec hm hy;exact⟨l,by rw[hl];rfl⟩
    |_=>cases hm
   |[],hy=>exact hy.elim
   |_::_::_,hy=>exact hy.2.elim
  rw[ai]at h;obtain⟨r,h1,h⟩:=h;cases h
  match ys,hy with
  |[y],hy=>
   simp only[dc,Fit,and_true]at hy;obtain⟨rows,rfl,_,hr⟩:=hy;have⟨l,hl⟩:=ady (Uk n e r h1) rows hr;exact⟨l,by rw[hl];rfl⟩
  |[],hy=>exact hy.elim
  |_::_::_,hy=>exact hy.2.elim
 |n+1,.st i,cs,h,ys,hy=>by
  simp only[t7]at h;rw[ai]at h;obtain⟨css,h1,h⟩:=h;cases h;have⟨q,hq⟩:=akL (Uk n) (X.cQ i) css h1 ys hy;exact⟨X.make i q,by rw[hq];exact(X.gd i q).symm⟩
theorem amI{n:Nat}{c:CT X.ι}{s:VS}(h:GG n c=some s){x:TV}(hx:E7 s x):∃y:CT.T X.toSE c,x=CT.tv X.toSE c y:=by
 have one:∀c:CT X.ι,c.one=true->((t7 n c).bind λl=>match l with
  |[x]=>some (VS.one x)
  |_=>none)=some s->∃y:CT.T X.toSE c,x=CT.tv X.toSE c y:=by
  intro c hc h;rw[ai]at h;obtain⟨l,h1,h⟩:=h;split at h
  ·rename_i z;cases h;simp only[E7]at hx;obtain⟨t,rfl,ht⟩:=hx;obtain⟨y,hy⟩:=Uk n c _ h1 [t] ⟨ht,trivial⟩;obtain⟨t',e1,e2⟩:=row_one hc y;rw[e1]at hy;cases hy;exact⟨y,e2.symm⟩
  ·cases h
 cases c
 case st i=>
  simp only[GG,dK]at h;obtain⟨cs,h1,rfl⟩:=h;simp only[E7]at hx;obtain⟨ys,rfl,hy⟩:=hx;obtain⟨y,hy⟩:=Uk n (.st i) _ h1 ys hy;exact⟨y,by rw[hy];rfl⟩
 all_goals exact one _ rfl h
theorem adz(n:Nat):∀(cs:List (CT X.ι))(ss:List VS),Fu (GG n) cs=some ss->∀xs,Vi ss xs->∃h:HL X.toSE cs,xs=HL.np X.toSE cs h
 |[],ss,h,xs,hx=>by
  simp only[Fu,aA]at h;subst h;cases xs with
  |nil=>exact⟨(),rfl⟩
  |cons x xs=>exact hx.elim
 |c::cs,ss,h,xs,hx=>by
  simp only[Fu]at h;rw[ai]at h;obtain⟨a,h1,h⟩:=h;rw[ai]at h;obtain⟨b,h2,h⟩:=h;cases h;cases xs with
  |nil=>exact hx.elim
  |cons x xs=>
   obtain⟨y,rfl⟩:=amI h1 hx.1;obtain⟨q,rfl⟩:=adz n cs b h2 xs hx.2;exact⟨(y,q),rfl⟩
theorem akM{P:Program}{f:FuncId}{n N:Nat}{cs:List (CT X.ι)}{ss:List VS}{fn:Nat->iF X (cs.map AT.d)->Option Bool}(hc:∀k,AE P f ⟨cs.map AT.d,[.d .bool],fn k,none⟩)(hs:Fu (GG n) cs=some ss)(hl:∀q:HL X.toSE cs,Vi ss (HL.np X.toSE cs q)->xt (HL.np X.toSE cs q)<=N->∃k,fn k (hlA cs q)=some true)(xs:List TV)(h:Vi ss xs)(hb:xt xs<=N):
 ra P f (xs.map TV.av) (.one (.d (.s (.sc (.bool true))))):=by
 obtain⟨q,rfl⟩:=adz n cs ss hs xs h;have⟨k,hk⟩:=hl q h hb;have h1:=(hc k).2.1 (hlA cs q) true hk;have h2:=h1;rw[vW (Uh cs)]at h2;have h3:qn P f (vV (cs.map AT.d) (hlA cs q)) [] [] (.one (.d (.s (.sc (.bool true))))):=h2;have h4:=Mt h3;rw[vV,Jf]at h4;exact h4
end
end Go.Gb
