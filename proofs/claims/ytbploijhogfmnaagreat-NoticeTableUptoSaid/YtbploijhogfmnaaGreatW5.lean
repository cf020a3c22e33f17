/-
  A function's contract by patterns out of its walk.
-/
import Derived.Test.YtbploijhogfmnaaGreatW4
open List (map_cons mem_map all_eq_true length_map map_nil)
namespace Go.Gb
open Go.RowKit
section
variable {X:SX} {T:Tab}
theorem DF (ol:Nat->Nat):∀ (ps:List (Pt X.ι)) (L:List (DC X)),(ePs ol ps L).1.length=ps.length
 |[],_=>rfl
 |p::ps,L=>by simp only[ePs,List.length_cons,DF ol ps]
def GSig.inOk (g:GSig X):Bool:=
 decide (g.inO.map (·.1)=List.range g.inO.length)&&decide (g.inO.length<=1000)&&((vz g.inP).all fun k=>Nat.blt k 1000)&&g.inO.all fun q=>q.2.refs.all fun k=>Nat.blt k 1000
def YJ (g:GSig X) (v:VT (X:=X) (varsL g.inP++varsO g.inO)):DSt X:=⟨(List.range g.inP.length).zip (g.args v),SA g.inP g.inO (oW _ v),1000,[]⟩
theorem nU {ol:Nat->Nat}:∀ (O:List (Nat×OP X.ι)) (L:List (DC X)),aO ol O L=(aS (aO ol O L)).map fun p=>(p.1,some p.2)
 |[],L=>rfl
 |(k,.l c)::O,L=>by
  match L with
  |[]=>rfl
  |⟨.sl c',x⟩::L=>simp only[aO,aS,map_cons];rw[<- nU O L]
  |⟨.int _,x⟩::L=>rfl
  |⟨.bool,x⟩::L=>rfl
  |⟨.str,x⟩::L=>rfl
  |⟨.any,x⟩::L=>rfl
  |⟨.st _,x⟩::L=>rfl
  |⟨.mp _ _,x⟩::L=>rfl
 |(k,.m kc vc)::O,L=>by
  match L with
  |[]=>rfl
  |⟨.mp _ _,x⟩::L=>simp only[aO,aS,map_cons];rw[<- nU O L]
  |⟨.sl _,x⟩::L=>rfl
  |⟨.int _,x⟩::L=>rfl
  |⟨.bool,x⟩::L=>rfl
  |⟨.str,x⟩::L=>rfl
  |⟨.any,x⟩::L=>rfl
  |⟨.st _,x⟩::L=>rfl
 |(k,.c sz rows)::O,L=>by simp only[aO,aS,map_cons];rw[<- nU O _]
theorem yB {ol:Nat->Nat}:∀ (O:List (Nat×OP X.ι)) (L:List (DC X)),L.map (·.c)=varsO O->(aS (aO ol O L)).map (·.1)=O.map (·.1)
 |[],L,_=>rfl
 |(k,.l c)::O,L,h=>by
  match L,h with
  |⟨.sl c',x⟩::L,h=>
   simp only[map_cons,varsO,List.cons.injEq]at h;simp only[aO,aS,map_cons,yB O L h.2]
  |[],h=>simp[varsO]at h
  |⟨.int _,x⟩::L,h=>simp[varsO]at h
  |⟨.bool,x⟩::L,h=>simp[varsO]at h
  |⟨.str,x⟩::L,h=>simp[varsO]at h
  |⟨.any,x⟩::L,h=>simp[varsO]at h
  |⟨.st _,x⟩::L,h=>simp[varsO]at h
  |⟨.mp _ _,x⟩::L,h=>simp[varsO]at h
 |(k,.m kc vc)::O,L,h=>by
  match L,h with
  |⟨.mp _ _,x⟩::L,h=>
   simp only[map_cons,varsO,List.cons.injEq]at h;simp only[aO,aS,map_cons,yB O L h.2]
  |[],h=>simp[varsO]at h
  |⟨.sl _,x⟩::L,h=>simp[varsO]at h
  |⟨.int _,x⟩::L,h=>simp[varsO]at h
  |⟨.bool,x⟩::L,h=>simp[varsO]at h
  |⟨.str,x⟩::L,h=>simp[varsO]at h
  |⟨.any,x⟩::L,h=>simp[varsO]at h
  |⟨.st _,x⟩::L,h=>simp[varsO]at h
 |(k,.c sz rows)::O,L,h=>by
  simp only[varsO]at h;simp only[aO,aS,map_cons,yB O _ (Du (ol:=ol) rows L _ h).1]
theorem YK (g:GSig X) (v:VT (X:=X) (varsL g.inP++varsO g.inO)) (h:g.inO.map (·.1)=List.range g.inO.length):(g.objs v).map (·.1)=List.range (g.objs v).length:=by
 have e:(g.objs v).map (·.1)=g.inO.map (·.1):=yB g.inO _ (by rw[List.map_drop,VE,List.drop_left]);have l:=congrArg List.length e;rw[length_map,length_map]at l;rw[e,h,l]
theorem Mc (k:Nat):∀ l:List (Nat×DObj X),lko (l.map fun p=>(p.1,some p.2)) k=dlk l k
 |[]=>rfl
 |p::l=>by
  simp only[map_cons,lko,lk,dlk];split
  ·rfl
  ·exact Mc k l
theorem aar (t:Nat):∀ (ks:List Nat) (ds:List (DV X)),den (lke (ks.zip ds) t)=(lk (ks.zip (aI ds)) t).getD .undef:=by
 intro ks
 induction ks with
 |nil=>intro ds;rfl
 |cons k ks ih=>
  intro ds;cases ds with
  |nil=>rfl
  |cons d ds=>
   simp only[List.zip_cons_cons,lke,lk,aI];by_cases h:k=t
   ·simp[h]
   ·simp only[if_neg h];exact ih ds
theorem Pv (t:Nat):∀ (ks:List Nat) (ds:List (DV X)),∀ j∈drefs (lke (ks.zip ds) t),j∈aD ds:=by
 intro ks
 induction ks with
 |nil=>intro ds j hj;simp[lke,lk,drefs]at hj
 |cons k ks ih=>
  intro ds j hj;cases ds with
  |nil=>simp[lke,lk,drefs]at hj
  |cons d ds=>
   simp only[List.zip_cons_cons,lke,lk]at hj;simp only[aD,List.mem_append];by_cases e:k=t
   ·simp only[if_pos e,Option.getD_some]at hj;exact .inl hj
   ·simp only[if_neg e]at hj;exact .inr (ih ds j hj)
def yC (O:List (Nat×OP X.ι)):List (Nat×Pt X.ι)->List (Nat×CT X.ι)
 |[]=>[]
 |(t,.o k)::r=>match lk O k with
  |some (.l c)=>(t,c)::yC O r
  |_=>yC O r
 |(t,.oz k)::r=>match lk O k with
  |some (.l c)=>(t+1099511627776,c)::yC O r
  |_=>yC O r
 |_::r=>yC O r
def Md (O:List (Nat×OP X.ι)):List (Nat×OP X.ι)->List (Nat×CT X.ι)
 |(q,.c _ [row])::r=>(yC O (zipS (1000000+q*4096) row)).filter (fun p=>Nat.ble p.1 1000000000)++Md O r
 |_::r=>Md O r
 |[]=>[]
def uN (g:GSig X):Sh X.ι:=⟨zipS 0 g.outP,g.outO,[],[],1000000,yC g.outO (zipS 0 g.outP)++Md g.outO g.outO⟩
def ab9 (T:Tab) (rs:List ResultVar) (g:GSig X):Exit->DSt X->Option (VT (X:=X) (uN g).vars)
 | .normal,s=>L9 T s rs fun ds=>bif decide (ds.length=g.outP.length)&&(aD ds).all (fun k=>Nat.blt k s.nx)then
  eU (uN g) (List.range ds.length) ⟨(List.range ds.length).zip ds,s.obj,s.nx,s.log⟩ ⟨(List.range ds.length).zip ds,s.obj,s.nx,s.log⟩ some else none
 | .ret,s=>L9 T s rs fun ds=>bif decide (ds.length=g.outP.length)&&(aD ds).all (fun k=>Nat.blt k s.nx)then
  eU (uN g) (List.range ds.length) ⟨(List.range ds.length).zip ds,s.obj,s.nx,s.log⟩ ⟨(List.range ds.length).zip ds,s.obj,s.nx,s.log⟩ some else none
 |_,_=>none
theorem Me {ol:Nat->Nat} (t:Nat):∀ (n:Nat) (ps:List (Pt X.ι)) (L:List (DC X)),lke (vo ol (zipS n ps) L) (n+t)=((ePs ol ps L).1[t]?).getD .undef
 |n,[],L=>by simp[zipS,vo,lke,lk,ePs]
 |n,p::ps,L=>by
  simp only[zipS,vo,lke,lk,ePs];cases t with
  |zero=>simp
  |succ t=>
   rw[if_neg (by omega)];have:=Me (ol:=ol) t (n+1) ps (eP ol p L).2;rw[show n+1+t=n+(t+1)by omega]at this;simpa[lke]using this
theorem YL {P:Program} {g:GSig X} {s:DSt X} {rs:List ResultVar} {r:VT (X:=X) (uN g).vars} (hl:Low s) (h:(L9 T s rs fun ds=>bif decide (ds.length=g.outP.length)&&(aD ds).all (fun k=>Nat.blt k s.nx)then
 eU (uN g) (List.range ds.length) ⟨(List.range ds.length).zip ds,s.obj,s.nx,s.log⟩ ⟨(List.range ds.length).zip ds,s.obj,s.nx,s.log⟩ some else none)=some r):
 ∃ xs,iW T s.st rs=some xs∧abn P s.st.obj xs (mD (g.outs r)) (den (g.res r)):=by
 obtain⟨ds,h1,h⟩:=wO T h;obtain⟨h2,h⟩:=aT h;simp only[Bool.and_eq_true,decide_eq_true_eq]at h2;obtain⟨h2,h3⟩:=h2;have hl':Low (⟨(List.range ds.length).zip ds,s.obj,s.nx,s.log⟩:DSt X):=⟨hl.le,hl.ge,fun t k hk=>by
  have:=all_eq_true.1 h3 k (Pv t _ _ k hk);exact Nat.blt_eq.mp this,hl.obj⟩
 obtain⟨v,h4,_,_,hrel⟩:=dU hl' hl' (Ext.refl _ _) h;injection h4 with h4;subst h4;refine⟨aI ds,GZ T h1,fun w0 O0 β I w vs hM hv=>?_⟩;have hvl:=VRl.length _ _ hv;simp only[Array.length_toList,gK]at hvl;have hR:Rel P w0 O0 vs.size β I (⟨(List.range ds.length).zip ds,s.obj,s.nx,s.log⟩:DSt X).st { tmps:=vs,defers:=[] } w:=by
  refine⟨rfl,rfl,fun t=>?_,hM⟩;show VR P β w I (den (lke ((List.range ds.length).zip ds) t)) (vs.getD t undef);rw[aar,show List.range ds.length=List.range (aI ds).length by rw[gK],vg];cases ht:(aI ds)[t]? with
  |none=>simp[VR]
  |some x=>
   obtain⟨u,g1,g2⟩:=VRl.get _ _ t _ hv ht;rw[Array.getElem?_toList]at g1;simp only[Option.getD_some,Array.getD_eq_getD_getElem?,g1];exact g2
 obtain⟨β',hR'⟩:=hrel P w0 O0 _ β I _ w hR;have hn:(varsS (zipS 0 g.outP)).length=(varsL g.outP).length:=by rw[GK]
 refine⟨β',I,?_,fun _ h=>h,?_⟩
 ·have:=hR'.mem;have e:(encS (uN g) ⟨(List.range ds.length).zip ds,s.obj,s.nx,s.log⟩ v).st.obj=olk (mD (g.outs v)):=by
   funext k;simp only[DSt.st,encS,uN,map_nil,List.append_nil,GU,GSig.outs,SA,vv];rw[nU,Mc,<- hn];rfl
  rw[e]at this;exact this
 ·obtain⟨pv,hpv⟩:∃ pv,pv=Lg g.outP g.outO (oW (uN g).vars v):=⟨_,rfl⟩;have hres:g.res v=su pv:=by rw[hpv];rfl
  have henv:∀ t,VR P β' w I (den ((pv[t]?).getD .undef)) (vs.getD t undef):=by
   intro t;have:=hR'.env t;simp only[DSt.st,SlotR,encS,uN,map_nil,List.append_nil]at this;have e:=Me (ol:=vv g.outO ((oW (uN g).vars v).drop (varsL g.outP).length)) t 0 g.outP ((oW (uN g).vars v).take (varsL g.outP).length);rw[Nat.zero_add]at e;rw[hpv];simp only[Lg];rw[<- e,<- hn];exact this
  have hpl:pv.length=g.outP.length:=by rw[hpv];exact DF _ _ _
  have hsz:vs.size=pv.length:=by rw[hpl,<- h2,hvl]
  rw[hres];have hall:VRl P β' w I (aI pv) vs.toList:=by
   have gen:∀ (pv:List (DV X)) (us:List Value),us.length=pv.length->(∀ t,t < pv.length->VR P β' w I (den ((pv[t]?).getD .undef)) (us.getD t undef))->VRl P β' w I (aI pv) us:=by
    intro pv
    induction pv with
    |nil=>intro us hl _;cases us<;>simp_all [aI,VRl]
    |cons d pv ih=>
     intro us hl hh;cases us with
     |nil=>simp at hl
     |cons u us=>
      simp only[aI,VRl];refine⟨by simpa using hh 0 (by simp),ih us (by simpa using hl) fun t ht=>by simpa using hh (t+1) (by simpa using ht)⟩
   refine gen pv vs.toList (by simpa using hsz) fun t ht=>?_;have e:vs.toList.getD t undef=vs.getD t undef:=(by simp[List.getD_eq_getElem?_getD,Array.getD_eq_getD_getElem?]);rw[e];exact henv t
  match pv,hsz,hall with
  |[d],hsz,hall=>
   obtain⟨u,rfl⟩:=Array.size_eq_one_iff.1 (show vs.size=1 by simpa using hsz);simp only[aI,VRl]at hall;simpa[su]using hall.1
  |[],hsz,hall=>
   have h1:¬ vs.size=1:=(by rw[hsz];simp);rw[dif_neg h1];simp only[su,den,VR];exact⟨vs,rfl,hall⟩
  |d::e::pv,hsz,hall=>
   have h1:¬ vs.size=1:=(by rw[hsz];simp);rw[dif_neg h1];simp only[su,den,VR];exact⟨vs,rfl,hall⟩
variable {Γ:FuncId->Option (Sig X)} {code:TypeId->Option (CT X.ι)} {P:Program}
theorem acK (hT : bI P T) (hm : P.follows .mixedOrders = true) (hΓ : GOk P Γ) {f : FuncId} {fn : Func} {c : Code} (hfn : P.funcs[f]? = some fn) (hb : fn.body = some c) (hname : (fn.name == "runtime.NumGoroutine") = false) (g : GSig X) (hN : g.inP.length <= fn.ntmps) (hin : g.inOk = true)
 (h:Hn X.ι) (n:Nat) (hr:∀ v (r:VT (X:=X) (uN g).vars),g.fn v=some r->run Γ T code fn.ntmps n c (VT (X:=X) (uN g).vars) h (YJ g v) (ab9 T fn.results.toList g)=some r):ZV P f g:=by
 intro v r hv;have hrun:=hr v r hv;simp only[GSig.inOk,Bool.and_eq_true,decide_eq_true_eq]at hin;obtain⟨⟨⟨i1,i2⟩,i3⟩,i4⟩:=hin;obtain⟨s1,s2,_⟩:=sH (ol:=vv g.inO ((oW (varsL g.inP++varsO g.inO) v).drop (varsL g.inP).length)) g.inO ((oW _ v).drop (varsL g.inP).length);have hargs:∀ k∈aD (g.args v),k < 1000:=fun k hk=>Nat.blt_eq.mp (all_eq_true.1 i3 k (sG g.inP _ k hk));have hobjs:∀ p∈g.objs v,p.1 < 1000∧∀ j∈orefs p.2,j < 1000:=by
  intro p hp;obtain⟨op,g1,g2⟩:=s2 p hp;have hk:p.1∈g.inO.map (·.1):=mem_map.2 ⟨_,g1,rfl⟩;rw[i1]at hk;have:=List.mem_range.1 hk;exact⟨by omega,fun j hj=>Nat.blt_eq.mp (all_eq_true.1 (all_eq_true.1 i4 _ g1) j (g2 j hj))⟩
 have hal:(g.args v).length=g.inP.length:=DF _ _ _;have hkeys:(g.objs v).map (·.1)=List.range (g.objs v).length:=YK g v i1;have hobj:∀ k,lko (YJ g v).obj k=dlk (g.objs v) k:=by
  intro k;show lko (aO _ g.inO _) k=dlk (aS (aO _ g.inO _)) k;rw[nU,Mc,<- nU]
 have hdlk:∀ (l:List (Nat×DObj X)) (n:Nat),l.map (·.1)=(List.range l.length).map (n+ ·)->∀ k,dlk l (n+k)=(l[k]?).map (·.2):=by
  intro l
  induction l with
  |nil=>intro n _ k;rfl
  |cons p l ih=>
   intro n hn k;rw[List.length_cons,List.range_succ_eq_map,map_cons,map_cons,List.map_map]at hn;injection hn with e1 e2;simp only[dlk];cases k with
   |zero=>rw[if_pos (by omega)];rfl
   |succ k=>
    rw[if_neg (by omega),show n+(k+1)=(n+1)+k by omega,ih (n+1) (by rw[e2];refine List.map_congr_left fun a _=>?_;simp only[Function.comp_apply];omega) k];rfl
 have hlow:Low (YJ g v):=by
  refine⟨by show 1000<=1000000;decide,Nat.le_refl _,fun t k hk=>hargs k (Pv t _ _ k hk),fun k o ho=>?_⟩;rw[hobj]at ho;have hmem:∀ (l:List (Nat×DObj X)),dlk l k=some o->(k,o)∈l:=by
   intro l
   induction l with
   |nil=>intro h;simp[dlk]at h
   |cons p l ih=>
    intro h;simp only[dlk]at h;split at h
    ·rename_i e;injection h with h;subst h;subst e;exact List.mem_cons_self
    ·exact List.mem_cons_of_mem _ (ih h)
  exact hobjs _ (hmem _ ho)
 refine Yg hT hfn hb hname (by rw[gK,hal];exact hN) (fun k hk=>hargs k (by rwa [dG]at hk)) (by rw[length_map,<- length_map (f:=Prod.fst),hkeys,List.length_range];have:=s1.length_le;rw[length_map,length_map]at this;exact Nat.le_trans this i2) ?_ ?_
 ·intro o ho r' hr' x hx j hj;obtain⟨p,hp,rfl⟩:=mem_map.1 ho;exact (hobjs p hp).2 j (LK hr' hx j hj)
 ·have e:LSt.st ⟨(List.range (aI (g.args v)).length).zip (aI (g.args v)),(List.range ((g.objs v).map fun p=>aH p.2).length).zip ((g.objs v).map fun p=>aH p.2)⟩=(YJ g v).st:=by
   simp only[DSt.st,LSt.st,St.mk.injEq,and_true];refine⟨?_,?_⟩
   ·funext t;simp only[YJ];rw[aar,gK,hal]
   ·funext k;rw[vg,hobj,List.getElem?_map];have:=hdlk (g.objs v) 0 (by rw[hkeys];simp) k;rw[Nat.zero_add]at this;rw[this,Option.map_map];rfl
  rw[e];refine (fD hT hm hΓ c _ h _ _ r hlow hrun).mono ?_;rintro e σ ⟨s',hl',_,rfl,g4⟩;cases e<;>first |exact YL hl' g4 |cases g4
end
section
variable {P:Program} {f F:FuncId} {E:TypeId} {α:Type} {enc:α->Value} {d:α}
end
section
variable {X:SX}
end
section
variable {X:SX}
def zJ {α β:Type} (f:α->Option β):List α->Option (List β)
 |[]=>some []
 |x::xs=>(f x).bind fun y=>(zJ f xs).bind fun ys=>some (y::ys)
def muC (dq:(i j:X.ι)->Decidable (i=j)) (i:X.ι):CT X.ι->Option CS
 | .int k=>some (.int k)
 | .bool=>some .bool
 | .str=>some .str
 | .sl (.st j)=>match dq j i with
  | .isTrue _=>some .back
  | .isFalse _=>none
 |_=>none
def acd (dq:(i j:X.ι)->Decidable (i=j)) (i:X.ι):Bool:=(X.tys i).any fun c=>match c with
 | .sl (.st j)=>match dq j i with
  | .isTrue _=>true
  | .isFalse _=>false
 |_=>false
def adf (dq:(i j:X.ι)->Decidable (i=j)):CT X.ι->Option (List CS)
 | .st i=>bif acd dq i then zJ (muC dq i) (X.tys i)else none
 |_=>none
theorem acL (dq:(i j:X.ι)->Decidable (i=j)) {i:X.ι} {row:List CS} (hm:zJ (muC dq i) (X.tys i)=some row) {x:Tree} (h:MuT row x):∃ l:List (CT.T X.toSE (.st i)),x= .sl (l.map (CT.row X.toSE (.st i))):=by
 refine MuT.rec (row:=row) (motive_1:=fun x _=>∃ l:List (CT.T X.toSE (.st i)),x= .sl (l.map (CT.row X.toSE (.st i)))) (motive_2:=fun rows _=>∃ l:List (CT.T X.toSE (.st i)),rows=l.map (CT.row X.toSE (.st i)))
  (motive_3:=fun cs r _=>∀ codes:List (CT X.ι),zJ (muC dq i) codes=some cs->∃ h:HL X.toSE codes,r=HL.row X.toSE codes h) ?_ ?_ ?_ ?_ ?_ ?_ h
 ·rintro rows _ _ ⟨l,rfl⟩;exact⟨l,rfl⟩
 ·exact⟨[],rfl⟩
 ·rintro r rs _ _ h1 ⟨l,rfl⟩;obtain⟨q,rfl⟩:=h1 _ hm;exact⟨(X.make i q:X.T i)::l,by rw[map_cons];congr 1;exact (X.row_make i q).symm⟩
 ·intro codes hc;cases codes with
  |nil=>exact⟨(),rfl⟩
  |cons c codes=>
   simp only[zJ,ai]at hc;obtain⟨_,_,_,_,h⟩:=hc;cases h
 ·intro cs x xs _ _ h1 h2 codes hc;obtain⟨l,rfl⟩:=h1;cases codes with
  |nil=>simp[zJ]at hc
  |cons c codes=>
   simp only[zJ,ai]at hc;obtain⟨c',g1,cs',g2,g3⟩:=hc;injection g3 with g3;injection g3 with g4 g5;subst g4 g5;obtain⟨q,rfl⟩:=h2 _ g2
   match c,g1 with
   | .sl (.st j),g1=>
    simp only[muC]at g1;split at g1
    ·rename_i hj _;subst hj;exact⟨(l,q),rfl⟩
    ·cases g1
   | .int _,g1=>simp[muC]at g1
   | .bool,g1=>simp[muC]at g1
   | .str,g1=>simp[muC]at g1
   | .any,g1=>simp[muC]at g1
   | .st _,g1=>simp[muC]at g1
   | .mp _ _,g1=>simp[muC]at g1
   | .sl (.int _),g1=>simp[muC]at g1
   | .sl .bool,g1=>simp[muC]at g1
   | .sl .str,g1=>simp[muC]at g1
   | .sl .any,g1=>simp[muC]at g1
   | .sl (.sl _),g1=>simp[muC]at g1
   | .sl (.mp _ _),g1=>simp[muC]at g1
 ·intro c' cs x xs hf _ h2 codes hc;cases codes with
  |nil=>simp[zJ]at hc
  |cons c codes=>
   simp only[zJ,ai]at hc;obtain⟨c2,g1,cs',g2,g3⟩:=hc;injection g3 with g3;injection g3 with g4 g5;subst g4 g5;obtain⟨q,rfl⟩:=h2 _ g2
   match c,g1 with
   | .int k,g1=>
    injection g1 with g1;subst g1;obtain⟨n,rfl,_⟩:=hf;exact⟨(n,q),rfl⟩
   | .bool,g1=>
    injection g1 with g1;subst g1;obtain⟨n,rfl⟩:=hf;exact⟨(n,q),rfl⟩
   | .str,g1=>
    injection g1 with g1;subst g1;obtain⟨n,rfl,_⟩:=hf;exact⟨(n,q),rfl⟩
   | .sl (.st j),g1=>
    simp only[muC]at g1;split at g1
    ·injection g1 with g1;subst g1;exact hf.elim
    ·cases g1
   | .any,g1=>simp[muC]at g1
   | .st _,g1=>simp[muC]at g1
   | .mp _ _,g1=>simp[muC]at g1
   | .sl (.int _),g1=>simp[muC]at g1
   | .sl .bool,g1=>simp[muC]at g1
   | .sl .str,g1=>simp[muC]at g1
   | .sl .any,g1=>simp[muC]at g1
   | .sl (.sl _),g1=>simp[muC]at g1
   | .sl (.mp _ _),g1=>simp[muC]at g1
def csF:Nat->CT X.ι->Option (List CS)
 | 0,_=>none
 |_+1,.int k=>some [.int k]
 |_+1,.bool=>some [.bool]
 |_+1,.str=>some [.str]
 |_+1,.any=>some [.any]
 |_+1,.mp _ _=>none
 |n+1,.sl e=>match adf X.dec e with
  |some row=>some [.mu row]
  |none=>(csF n e).bind fun r=>some [.sl r]
 |n+1,.st i=>(zJ (csF n) (X.tys i)).bind fun l=>some l.flatten
def vsF (n:Nat) (c:CT X.ι):Option VS:=
 match c with
 | .st i=>(csF n (.st i:CT X.ι)).map .agg
 |c=>(csF n c).bind fun l=>match l with
  |[x]=>some (.one x)
  |_=>none
theorem IZ:∀ (a b:List CS) (ys:List Tree),FitL (a++b) ys->∃ ya yb,ys=ya++yb∧FitL a ya∧FitL b yb
 |[],b,ys,h=>⟨[],ys,rfl,trivial,h⟩
 |c::a,b,y::ys,h=>by
  simp only[List.cons_append,FitL]at h;obtain⟨ya,yb,rfl,h1,h2⟩:=IZ a b ys h.2;exact⟨y::ya,yb,rfl,⟨h.1,h1⟩,h2⟩
 |_::_,_,[],h=>h.elim
theorem TD {c:CT X.ι} {cs:List CS} (h:∀ ys,FitL cs ys->∃ x:CT.T X.toSE c,ys=CT.row X.toSE c x):∀ rows:List (List Tree),(∀ r∈rows,FitL cs r)->∃ l:List (CT.T X.toSE c),rows=l.map (CT.row X.toSE c)
 |[],_=>⟨[],rfl⟩
 |r::rows,hr=>by
  obtain⟨x,hx⟩:=h r (hr r (by simp));obtain⟨l,hl⟩:=TD h rows fun q hq=>hr q (List.mem_cons_of_mem _ hq);exact⟨x::l,by rw[map_cons,<- hx,<- hl]⟩
theorem aas {f:CT X.ι->Option (List CS)} (hf:∀ c cs,f c=some cs->∀ ys,FitL cs ys->∃ x:CT.T X.toSE c,ys=CT.row X.toSE c x):∀ (l:List (CT X.ι)) (css:List (List CS)),zJ f l=some css->∀ ys,FitL css.flatten ys->∃ h:HL X.toSE l,ys=HL.row X.toSE l h
 |[],css,h,ys,hy=>by
  simp only[zJ,Option.some.injEq]at h;subst h;cases ys with
  |nil=>exact⟨(),rfl⟩
  |cons y ys=>exact hy.elim
 |c::l,css,h,ys,hy=>by
  simp only[zJ]at h;rw[ai]at h;obtain⟨a,h1,h⟩:=h;rw[ai]at h;obtain⟨b,h2,h⟩:=h;injection h with h;subst h;simp only[List.flatten_cons]at hy;obtain⟨ya,yb,rfl,g1,g2⟩:=IZ _ _ _ hy;obtain⟨x,hx⟩:=hf c a h1 ya g1;obtain⟨q,hq⟩:=aas hf l b h2 yb g2;exact⟨(x,q),by rw[hx,hq];rfl⟩
theorem JY:∀ (n:Nat) (c:CT X.ι) (cs:List CS),csF n c=some cs->∀ ys,FitL cs ys->∃ x:CT.T X.toSE c,ys=CT.row X.toSE c x
 | 0,_,_,h,_,_=>by cases h
 |n+1,.mp _ _,cs,h,ys,hy=>by simp[csF]at h
 |n+1,.int k,cs,h,ys,hy=>by
  simp only[csF,Option.some.injEq]at h;subst h
  match ys,hy with
  |[y],hy=>
   simp only[FitL,Fit,and_true]at hy;obtain⟨m,rfl,_⟩:=hy;exact⟨m,rfl⟩
  |[],hy=>exact hy.elim
  |_::_::_,hy=>exact hy.2.elim
 |n+1,.bool,cs,h,ys,hy=>by
  simp only[csF,Option.some.injEq]at h;subst h
  match ys,hy with
  |[y],hy=>
   simp only[FitL,Fit,and_true]at hy;obtain⟨m,rfl⟩:=hy;exact⟨m,rfl⟩
  |[],hy=>exact hy.elim
  |_::_::_,hy=>exact hy.2.elim
 |n+1,.str,cs,h,ys,hy=>by
  simp only[csF,Option.some.injEq]at h;subst h
  match ys,hy with
  |[y],hy=>
   simp only[FitL,Fit,and_true]at hy;obtain⟨m,rfl,_⟩:=hy;exact⟨m,rfl⟩
  |[],hy=>exact hy.elim
  |_::_::_,hy=>exact hy.2.elim
 |n+1,.any,cs,h,ys,hy=>by
  simp only[csF,Option.some.injEq]at h;subst h
  match ys,hy with
  |[y],hy=>exact⟨y,rfl⟩
  |[],hy=>exact hy.elim
  |_::_::_,hy=>exact hy.2.elim
 |n+1,.sl e,cs,h,ys,hy=>by
  simp only[csF]at h;split at h
  ·rename_i row hm;injection h with h;subst h
   match ys,hy with
   |[y],hy=>
    simp only[FitL,Fit,and_true]at hy;cases e with
    |st i=>
     simp only[adf]at hm;cases hb:acd X.dec i with
     |false=>rw[hb]at hm;cases hm
     |true=>
      rw[hb]at hm;obtain⟨l,hl⟩:=acL X.dec hm hy;exact⟨l,by rw[hl];rfl⟩
    |_=>cases hm
   |[],hy=>exact hy.elim
   |_::_::_,hy=>exact hy.2.elim
  rw[ai]at h;obtain⟨r,h1,h⟩:=h;injection h with h;subst h
  match ys,hy with
  |[y],hy=>
   simp only[FitL,Fit,and_true]at hy;obtain⟨rows,rfl,_,hr⟩:=hy;obtain⟨l,hl⟩:=TD (JY n e r h1) rows hr;exact⟨l,by rw[hl];rfl⟩
  |[],hy=>exact hy.elim
  |_::_::_,hy=>exact hy.2.elim
 |n+1,.st i,cs,h,ys,hy=>by
  simp only[csF]at h;rw[ai]at h;obtain⟨css,h1,h⟩:=h;injection h with h;subst h;obtain⟨q,hq⟩:=aas (JY n) (X.tys i) css h1 ys hy;exact⟨X.make i q,by rw[hq];exact (X.row_make i q).symm⟩
theorem abF {n:Nat} {c:CT X.ι} {s:VS} (h:vsF n c=some s) {x:TV} (hx:Yh s x):∃ y:CT.T X.toSE c,x=CT.tv X.toSE c y:=by
 have one:∀ c:CT X.ι,c.one=true->((csF n c).bind fun l=>match l with
  |[x]=>some (VS.one x)
  |_=>none)=some s->∃ y:CT.T X.toSE c,x=CT.tv X.toSE c y:=by
  intro c hc h;rw[ai]at h;obtain⟨l,h1,h⟩:=h;split at h
  ·rename_i z;injection h with h;subst h;simp only[Yh]at hx;obtain⟨t,rfl,ht⟩:=hx;obtain⟨y,hy⟩:=JY n c _ h1 [t] ⟨ht,trivial⟩;obtain⟨t',e1,e2⟩:=row_one hc y;rw[e1]at hy;injection hy with hy;subst hy;exact⟨y,e2.symm⟩
  ·cases h
 cases c
 case st i=>
  simp only[vsF,Option.map_eq_some_iff]at h;obtain⟨cs,h1,rfl⟩:=h;simp only[Yh]at hx;obtain⟨ys,rfl,hy⟩:=hx;obtain⟨y,hy⟩:=JY n (.st i) _ h1 ys hy;exact⟨y,by rw[hy];rfl⟩
 all_goals exact one _ rfl h
theorem TF (n:Nat):∀ (cs:List (CT X.ι)) (ss:List VS),zJ (vsF n) cs=some ss->∀ xs,KW ss xs->∃ h:HL X.toSE cs,xs=HL.tvs X.toSE cs h
 |[],ss,h,xs,hx=>by
  simp only[zJ,Option.some.injEq]at h;subst h;cases xs with
  |nil=>exact⟨(),rfl⟩
  |cons x xs=>exact hx.elim
 |c::cs,ss,h,xs,hx=>by
  simp only[zJ]at h;rw[ai]at h;obtain⟨a,h1,h⟩:=h;rw[ai]at h;obtain⟨b,h2,h⟩:=h;injection h with h;subst h;cases xs with
  |nil=>exact hx.elim
  |cons x xs=>
   obtain⟨y,rfl⟩:=abF h1 hx.1;obtain⟨q,rfl⟩:=TF n cs b h2 xs hx.2;exact⟨(y,q),rfl⟩
theorem aat {P:Program} {f:FuncId} {n N:Nat} {cs:List (CT X.ι)} {ss:List VS} {fn:Nat->dY X (cs.map AT.d)->Option Bool} (hc:∀ k,COk P f ⟨cs.map AT.d,[.d .bool],fn k,none⟩) (hs:zJ (vsF n) cs=some ss) (hl:∀ q:HL X.toSE cs,KW ss (HL.tvs X.toSE cs q)->KX (HL.tvs X.toSE cs q)<=N->∃ k,fn k (hlA cs q)=some true) (xs:List TV) (h:KW ss xs) (hb:KX xs<=N):
 FnP P f (xs.map TV.av) (.one (.d (.s (.sc (.bool true))))):=by
 obtain⟨q,rfl⟩:=TF n cs ss hs xs h;obtain⟨k,hk⟩:=hl q h hb;have h1:=(hc k).2.1 (hlA cs q) true hk;have h2:=h1;rw[sD (QN cs)]at h2;have h3:FnW P f (sw (cs.map AT.d) (hlA cs q)) [] [] (.one (.d (.s (.sc (.bool true))))):=h2;have h4:=KV h3;rw[sw,GL]at h4;exact h4
end
structure GSt where
 env:List (Nat×AV)
 obj:List (Nat×Option aF)
 ok:List (Nat×Option Bool)
def GSt.st (F:Nat->Option aF) (L:GSt):St:=
 ⟨fun t=>(lk L.env t).getD .undef,fun k=>match lk L.obj k with |some o=>o |none=>F k,fun t=>(lk L.ok t).join⟩
def GSt.app (L:GSt) (dst:Option Tmp) (p:Out×Option Bool):GSt:=
 match dst with
 |some d=>⟨(d,p.1.v)::L.env,p.1.upd++L.obj,(d,p.2)::L.ok⟩
 |none=>⟨L.env,p.1.upd++L.obj,L.ok⟩
section
variable (P:Program) (T:Tab) (ops:Array Oper) (ann:Nat->Ann) (F:Nat->Option aF)
end
section
variable {P:Program} {T:Tab} {N:Nat} {Q:Exit->St->Prop} {ops:Array Oper} {ann:Nat->Ann} {σ σ' σ2:St}
structure Told (σ' σ2:St):Prop where
 re:∃ (f g:Nat->Nat) (D:Nat->Prop),(∀ k,D k->g (f k)=k)∧(∀ j,j < 1000->g j=j)∧
  (∀ t,σ2.env t= .undef∨(σ'.ok t=none∧(∀ k∈refs (σ'.env t),D k)∧Wkn (rnA f (σ'.env t)) (σ2.env t)))∧
  (∀ j o',σ2.obj j=some o'->∃ k o,σ'.obj k=some o∧D k∧f k=j∧o'.sz=o.sz∧RowsW D f o.rows o'.rows)
 ok:∀ t,σ2.ok t=none
 old:Old σ2
end
mutual
theorem abG {f:Nat->Nat}:∀ x:AV,(∀ k∈refs x,f k=k)->rnA f x=x
 | .own k off len,h=>by simp only[rnA];rw[h k (by simp[refs])]
 | .ptr k row off,h=>by simp only[rnA];rw[h k (by simp[refs])]
 | .mp k,h=>by simp only[rnA];rw[h k (by simp[refs])]
 | .oz k len,h=>by simp only[rnA];rw[h k (by simp[refs])]
 | .agg cs,h=>by simp only[rnA];rw[Az cs (by simpa[refs]using h)]
 | .tup cs,h=>by simp only[rnA];rw[Az cs (by simpa[refs]using h)]
 | .fn F first caps,h=>by simp only[rnA];rw[Az first (fun k hk=>h k (by simp[refs,hk])),Az caps (fun k hk=>h k (by simp[refs,hk]))]
 | .t _,_=>rfl
 | .rptr _ _,_=>rfl
 | .clo _,_=>rfl
 | .nilsl,_=>rfl
 | .ub,_=>rfl
 | .undef,_=>rfl
theorem Az {f:Nat->Nat}:∀ l:List AV,(∀ k∈bH l,f k=k)->qP f l=l
 |[],_=>rfl
 |x::xs,h=>by simp only[qP];rw[abG x (fun k hk=>h k (by simp[bH,hk])),Az xs (fun k hk=>h k (by simp[bH,hk]))]
end
section
variable {P:Program} {β:Nat->Option Blk} {w:World} {I:Nat->Prop}
def Imps (P:Program) (β:Nat->Option Blk) (w:World) (I:Nat->Prop):List AV->List AV->Prop
 |[],[]=>True
 |x::xs,y::ys=>(∀ v,VR P β w I x v->VR P β w I y v)∧Imps P β w I xs ys
 |_,_=>False
def Impss (P:Program) (β:Nat->Option Blk) (w:World) (I:Nat->Prop):List (List AV)->List (List AV)->Prop
 |[],[]=>True
 |r::rs,q::qs=>Imps P β w I r q∧Impss P β w I rs qs
 |_,_=>False
theorem Imps.refl:∀ r:List AV,Imps P β w I r r
 |[]=>trivial
 |_::xs=>⟨fun _ h=>h,Imps.refl xs⟩
theorem Impss.app {q q':List AV} (h:Imps P β w I q q'):∀ R:List (List AV),Impss P β w I (R++[q]) (R++[q'])
 |[]=>⟨h,trivial⟩
 |r::R=>⟨Imps.refl r,Impss.app h R⟩
theorem Imps.row:∀ {r q:List AV} {c:Array Value} {off:Nat},Imps P β w I r q->ORow P β w I r c off->ORow P β w I q c off
 |[],[],_,_,_,_=>trivial
 |_::_,_::_,_,_,h,⟨⟨v,h1,h2,h3⟩,h4⟩=>⟨⟨v,h1,h.1 v h2,h3⟩,Imps.row h.2 h4⟩
 |[],_::_,_,_,h,_=>h.elim
 |_::_,[],_,_,h,_=>h.elim
theorem Imps.length:∀ {r q:List AV},Imps P β w I r q->q.length=r.length
 |[],[],_=>rfl
 |_::_,_::_,h=>congrArg (· +1) (Imps.length h.2)
 |[],_::_,h=>h.elim
 |_::_,[],h=>h.elim
theorem Impss.rows:∀ {rs qs:List (List AV)} {c:Array Value} {off sz:Nat},Impss P β w I rs qs->ORows P β w I rs c off sz->ORows P β w I qs c off sz
 |[],[],_,_,_,_,_=>trivial
 |_::_,_::_,_,_,_,h,⟨h1,h2,h3⟩=>⟨by rw[h.1.length];exact h1,h.1.row h2,h.2.rows h3⟩
 |[],_::_,_,_,_,h,_=>h.elim
 |_::_,[],_,_,_,h,_=>h.elim
theorem Impss.length:∀ {rs qs:List (List AV)},Impss P β w I rs qs->qs.length=rs.length
 |[],[],_=>rfl
 |_::_,_::_,h=>congrArg (· +1) (Impss.length h.2)
 |[],_::_,h=>h.elim
 |_::_,[],h=>h.elim
end
end Go.Gb
