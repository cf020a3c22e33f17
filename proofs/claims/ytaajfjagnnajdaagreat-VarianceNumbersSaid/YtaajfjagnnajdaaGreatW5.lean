/-
  A function's contract by patterns out of its walk.
-/
import Derived.Test.YtaajfjagnnajdaaGreatW4
open List (map_cons mem_map all_eq_true length_map map_map map_nil)
namespace Go.Gb
open Go.RowKit
section
variable {X:SX} {T:Tab}
theorem Jl (ol:Nat->Nat):∀ (ps:List (Pt X.ι)) (L:List (DC X)),(ePs ol ps L).1.length=ps.length
 |[],_=>rfl
 |p::ps,L=>by simp only[ePs,List.length_cons,Jl ol ps]
def GSig.inOk (g:GSig X):Bool:=
 decide (g.inO.map (·.1)=List.range g.inO.length)&&decide (g.inO.length<=1000)&&((Au g.inP).all fun k=>Nat.blt k 1000)&&g.inO.all fun q=>q.2.refs.all fun k=>Nat.blt k 1000
def acN (g:GSig X) (v:VT (X:=X) (varsL g.inP++varsO g.inO)):DSt X:=⟨(List.range g.inP.length).zip (g.args v),X8 g.inP g.inO (tX _ v),1000,[]⟩
theorem rT {ol:Nat->Nat}:∀ (O:List (Nat×OP X.ι)) (L:List (DC X)),bg ol O L=(bq (bg ol O L)).map fun p=>(p.1,some p.2)
 |[],L=>rfl
 |(k,.l c)::O,L=>by
  match L with
  |[]=>rfl
  |⟨.sl c',x⟩::L=>simp only[bg,bq,map_cons];rw[<- rT O L]
  |⟨.int _,x⟩::L=>rfl
  |⟨.bool,x⟩::L=>rfl
  |⟨.str,x⟩::L=>rfl
  |⟨.any,x⟩::L=>rfl
  |⟨.st _,x⟩::L=>rfl
  |⟨.mp _ _,x⟩::L=>rfl
 |(k,.m kc vc)::O,L=>by
  match L with
  |[]=>rfl
  |⟨.mp _ _,x⟩::L=>simp only[bg,bq,map_cons];rw[<- rT O L]
  |⟨.sl _,x⟩::L=>rfl
  |⟨.int _,x⟩::L=>rfl
  |⟨.bool,x⟩::L=>rfl
  |⟨.str,x⟩::L=>rfl
  |⟨.any,x⟩::L=>rfl
  |⟨.st _,x⟩::L=>rfl
 |(k,.c sz rows)::O,L=>by simp only[bg,bq,map_cons];rw[<- rT O _]
theorem Dz {ol:Nat->Nat}:∀ (O:List (Nat×OP X.ι)) (L:List (DC X)),L.map (·.c)=varsO O->(bq (bg ol O L)).map (·.1)=O.map (·.1)
 |[],L,_=>rfl
 |(k,.l c)::O,L,h=>by
  match L,h with
  |⟨.sl c',x⟩::L,h=>
   simp only[map_cons,varsO,List.cons.injEq]at h;simp only[bg,bq,map_cons,Dz O L h.2]
  |[],h=>simp[varsO]at h
  |⟨.int _,x⟩::L,h=>simp[varsO]at h
  |⟨.bool,x⟩::L,h=>simp[varsO]at h
  |⟨.str,x⟩::L,h=>simp[varsO]at h
  |⟨.any,x⟩::L,h=>simp[varsO]at h
  |⟨.st _,x⟩::L,h=>simp[varsO]at h
  |⟨.mp _ _,x⟩::L,h=>simp[varsO]at h
 |(k,.m kc vc)::O,L,h=>by
  match L,h with
  |⟨.mp _ _,x⟩::L,h=>
   simp only[map_cons,varsO,List.cons.injEq]at h;simp only[bg,bq,map_cons,Dz O L h.2]
  |[],h=>simp[varsO]at h
  |⟨.sl _,x⟩::L,h=>simp[varsO]at h
  |⟨.int _,x⟩::L,h=>simp[varsO]at h
  |⟨.bool,x⟩::L,h=>simp[varsO]at h
  |⟨.str,x⟩::L,h=>simp[varsO]at h
  |⟨.any,x⟩::L,h=>simp[varsO]at h
  |⟨.st _,x⟩::L,h=>simp[varsO]at h
 |(k,.c sz rows)::O,L,h=>by
  simp only[varsO]at h;simp only[bg,bq,map_cons,Dz O _ (Je (ol:=ol) rows L _ h).1]
theorem acO (g:GSig X) (v:VT (X:=X) (varsL g.inP++varsO g.inO)) (h:g.inO.map (·.1)=List.range g.inO.length):(g.objs v).map (·.1)=List.range (g.objs v).length:=by
 have e:(g.objs v).map (·.1)=g.inO.map (·.1):=Dz g.inO _ (by rw[List.map_drop,aah,List.drop_left]);have l:=congrArg List.length e;rw[length_map,length_map]at l;rw[e,h,l]
theorem RH (k:Nat):∀ l:List (Nat×DObj X),lko (l.map fun p=>(p.1,some p.2)) k=dlk l k
 |[]=>rfl
 |p::l=>by
  simp only[map_cons,lko,lk,dlk];split
  ·rfl
  ·exact RH k l
theorem aei (t:Nat):∀ (ks:List Nat) (ds:List (DV X)),den (lke (ks.zip ds) t)=(lk (ks.zip (aT ds)) t).getD .undef:=by
 intro ks
 induction ks with
 |nil=>intro ds;rfl
 |cons k ks ih=>
  intro ds;cases ds with
  |nil=>rfl
  |cons d ds=>
   simp only[List.zip_cons_cons,lke,lk,aT];by_cases h:k=t
   ·simp[h]
   ·simp only[if_neg h];exact ih ds
theorem Vh (t:Nat):∀ (ks:List Nat) (ds:List (DV X)),∀ j∈drefs (lke (ks.zip ds) t),j∈aH ds:=by
 intro ks
 induction ks with
 |nil=>intro ds j hj;simp[lke,lk,drefs]at hj
 |cons k ks ih=>
  intro ds j hj;cases ds with
  |nil=>simp[lke,lk,drefs]at hj
  |cons d ds=>
   simp only[List.zip_cons_cons,lke,lk]at hj;simp only[aH,List.mem_append];by_cases e:k=t
   ·simp only[if_pos e,Option.getD_some]at hj;exact .inl hj
   ·simp only[if_neg e]at hj;exact .inr (ih ds j hj)
def zZ (g:GSig X):Sh X.ι:=⟨zipS 0 g.outP,g.outO,[],[],1000000,[]⟩
def agh (T:Tab) (rs:List ResultVar) (g:GSig X):Exit->DSt X->Option (VT (X:=X) (zZ g).vars)
 | .normal,s=>RF T s rs fun ds=>bif decide (ds.length=g.outP.length)&&(aH ds).all (fun k=>Nat.blt k s.nx)then
  Jg (zZ g) (List.range ds.length) ⟨(List.range ds.length).zip ds,s.obj,s.nx,s.log⟩ ⟨(List.range ds.length).zip ds,s.obj,s.nx,s.log⟩ some else none
 | .ret,s=>RF T s rs fun ds=>bif decide (ds.length=g.outP.length)&&(aH ds).all (fun k=>Nat.blt k s.nx)then
  Jg (zZ g) (List.range ds.length) ⟨(List.range ds.length).zip ds,s.obj,s.nx,s.log⟩ ⟨(List.range ds.length).zip ds,s.obj,s.nx,s.log⟩ some else none
 |_,_=>none
theorem RI {ol:Nat->Nat} (t:Nat):∀ (n:Nat) (ps:List (Pt X.ι)) (L:List (DC X)),lke (Ap ol (zipS n ps) L) (n+t)=((ePs ol ps L).1[t]?).getD .undef
 |n,[],L=>by simp[zipS,Ap,lke,lk,ePs]
 |n,p::ps,L=>by
  simp only[zipS,Ap,lke,lk,ePs];cases t with
  |zero=>simp
  |succ t=>
   rw[if_neg (by omega)];have:=RI (ol:=ol) t (n+1) ps (eP ol p L).2;rw[show n+1+t=n+(t+1)by omega]at this;simpa[lke]using this
theorem acP {P:Program} {g:GSig X} {s:DSt X} {rs:List ResultVar} {r:VT (X:=X) (zZ g).vars} (hl:Low s) (h:(RF T s rs fun ds=>bif decide (ds.length=g.outP.length)&&(aH ds).all (fun k=>Nat.blt k s.nx)then
 Jg (zZ g) (List.range ds.length) ⟨(List.range ds.length).zip ds,s.obj,s.nx,s.log⟩ ⟨(List.range ds.length).zip ds,s.obj,s.nx,s.log⟩ some else none)=some r):
 ∃ xs,j4 T s.st rs=some xs∧afl P s.st.obj xs (nU (g.outs r)) (den (g.res r)):=by
 obtain⟨ds,h1,h⟩:=BQ T h;obtain⟨h2,h⟩:=bD h;simp only[Bool.and_eq_true,decide_eq_true_eq]at h2;obtain⟨h2,h3⟩:=h2;have hl':Low (⟨(List.range ds.length).zip ds,s.obj,s.nx,s.log⟩:DSt X):=⟨hl.le,hl.ge,fun t k hk=>by
  have:=all_eq_true.1 h3 k (Vh t _ _ k hk);exact Nat.blt_eq.mp this,hl.obj⟩
 obtain⟨v,h4,_,_,hrel⟩:=KF hl' (Ext.refl _ _) h;injection h4 with h4;subst h4;refine⟨aT ds,MJ T h1,fun w0 O0 β I w vs hM hv=>?_⟩;have hvl:=VRl.length _ _ hv;simp only[Array.length_toList,jh]at hvl;have hR:Rel P w0 O0 vs.size β I (⟨(List.range ds.length).zip ds,s.obj,s.nx,s.log⟩:DSt X).st { tmps:=vs,defers:=[] } w:=by
  refine⟨rfl,rfl,fun t=>?_,hM⟩;show VR P β w I (den (lke ((List.range ds.length).zip ds) t)) (vs.getD t undef);rw[aei,show List.range ds.length=List.range (aT ds).length by rw[jh],Ao];cases ht:(aT ds)[t]? with
  |none=>simp[VR]
  |some x=>
   obtain⟨u,g1,g2⟩:=VRl.get _ _ t _ hv ht;rw[Array.getElem?_toList]at g1;simp only[Option.getD_some,Array.getD_eq_getD_getElem?,g1];exact g2
 obtain⟨β',hR'⟩:=hrel P w0 O0 _ β I _ w hR;have hn:(varsS (zipS 0 g.outP)).length=(varsL g.outP).length:=by rw[Mt]
 refine⟨β',I,?_,fun _ h=>h,?_⟩
 ·have:=hR'.mem;have e:(encS (zZ g) ⟨(List.range ds.length).zip ds,s.obj,s.nx,s.log⟩ v).st.obj=olk (nU (g.outs v)):=by
   funext k;simp only[DSt.st,encS,zZ,map_nil,List.append_nil,MF,GSig.outs,X8,Aq];rw[rT,RH,<- hn];rfl
  rw[e]at this;exact this
 ·obtain⟨pv,hpv⟩:∃ pv,pv=Q0 g.outP g.outO (tX (zZ g).vars v):=⟨_,rfl⟩;have hres:g.res v=xA pv:=by rw[hpv];rfl
  have henv:∀ t,VR P β' w I (den ((pv[t]?).getD .undef)) (vs.getD t undef):=by
   intro t;have:=hR'.env t;simp only[DSt.st,SlotR,encS,zZ,map_nil,List.append_nil]at this;have e:=RI (ol:=Aq g.outO ((tX (zZ g).vars v).drop (varsL g.outP).length)) t 0 g.outP ((tX (zZ g).vars v).take (varsL g.outP).length);rw[Nat.zero_add]at e;rw[hpv];simp only[Q0];rw[<- e,<- hn];exact this
  have hpl:pv.length=g.outP.length:=by rw[hpv];exact Jl _ _ _
  have hsz:vs.size=pv.length:=by rw[hpl,<- h2,hvl]
  rw[hres];have hall:VRl P β' w I (aT pv) vs.toList:=by
   have gen:∀ (pv:List (DV X)) (us:List Value),us.length=pv.length->(∀ t,t < pv.length->VR P β' w I (den ((pv[t]?).getD .undef)) (us.getD t undef))->VRl P β' w I (aT pv) us:=by
    intro pv
    induction pv with
    |nil=>intro us hl _;cases us<;>simp_all [aT,VRl]
    |cons d pv ih=>
     intro us hl hh;cases us with
     |nil=>simp at hl
     |cons u us=>
      simp only[aT,VRl];refine⟨by simpa using hh 0 (by simp),ih us (by simpa using hl) fun t ht=>by simpa using hh (t+1) (by simpa using ht)⟩
   refine gen pv vs.toList (by simpa using hsz) fun t ht=>?_;have e:vs.toList.getD t undef=vs.getD t undef:=(by simp[List.getD_eq_getElem?_getD,Array.getD_eq_getD_getElem?]);rw[e];exact henv t
  match pv,hsz,hall with
  |[d],hsz,hall=>
   obtain⟨u,rfl⟩:=Array.size_eq_one_iff.1 (show vs.size=1 by simpa using hsz);simp only[aT,VRl]at hall;simpa[xA]using hall.1
  |[],hsz,hall=>
   have h1:¬ vs.size=1:=(by rw[hsz];simp);rw[dif_neg h1];simp only[xA,den,VR];exact⟨vs,rfl,hall⟩
  |d::e::pv,hsz,hall=>
   have h1:¬ vs.size=1:=(by rw[hsz];simp);rw[dif_neg h1];simp only[xA,den,VR];exact⟨vs,rfl,hall⟩
variable {Γ:FuncId->Option (Sig X)} {code:TypeId->Option (CT X.ι)} {P:Program}
theorem agJ (hT : dh P T) (hm : P.follows .mixedOrders = true) (hΓ : GOk P Γ) {f : FuncId} {fn : Func} {c : Code} (hfn : P.funcs[f]? = some fn) (hb : fn.body = some c) (hname : (fn.name == "runtime.NumGoroutine") = false) (g : GSig X) (hN : g.inP.length <= fn.ntmps) (hin : g.inOk = true)
 (h:Hn X.ι) (n:Nat) (hr:∀ v (r:VT (X:=X) (zZ g).vars),g.fn v=some r->run Γ T code fn.ntmps n c (VT (X:=X) (zZ g).vars) h (acN g v) (agh T fn.results.toList g)=some r):acu P f g:=by
 intro v r hv;have hrun:=hr v r hv;simp only[GSig.inOk,Bool.and_eq_true,decide_eq_true_eq]at hin;obtain⟨⟨⟨i1,i2⟩,i3⟩,i4⟩:=hin;obtain⟨s1,s2,_⟩:=xG (ol:=Aq g.inO ((tX (varsL g.inP++varsO g.inO) v).drop (varsL g.inP).length)) g.inO ((tX _ v).drop (varsL g.inP).length);have hargs:∀ k∈aH (g.args v),k < 1000:=fun k hk=>Nat.blt_eq.mp (all_eq_true.1 i3 k (xE g.inP _ k hk));have hobjs:∀ p∈g.objs v,p.1 < 1000∧∀ j∈orefs p.2,j < 1000:=by
  intro p hp;obtain⟨op,g1,g2⟩:=s2 p hp;have hk:p.1∈g.inO.map (·.1):=mem_map.2 ⟨_,g1,rfl⟩;rw[i1]at hk;have:=List.mem_range.1 hk;exact⟨by omega,fun j hj=>Nat.blt_eq.mp (all_eq_true.1 (all_eq_true.1 i4 _ g1) j (g2 j hj))⟩
 have hal:(g.args v).length=g.inP.length:=Jl _ _ _;have hkeys:(g.objs v).map (·.1)=List.range (g.objs v).length:=acO g v i1;have hobj:∀ k,lko (acN g v).obj k=dlk (g.objs v) k:=by
  intro k;show lko (bg _ g.inO _) k=dlk (bq (bg _ g.inO _)) k;rw[rT,RH,<- rT]
 have hdlk:∀ (l:List (Nat×DObj X)) (n:Nat),l.map (·.1)=(List.range l.length).map (n+ ·)->∀ k,dlk l (n+k)=(l[k]?).map (·.2):=by
  intro l
  induction l with
  |nil=>intro n _ k;rfl
  |cons p l ih=>
   intro n hn k;rw[List.length_cons,List.range_succ_eq_map,map_cons,map_cons,map_map]at hn;injection hn with e1 e2;simp only[dlk];cases k with
   |zero=>rw[if_pos (by omega)];rfl
   |succ k=>
    rw[if_neg (by omega),show n+(k+1)=(n+1)+k by omega,ih (n+1) (by rw[e2];refine List.map_congr_left fun a _=>?_;simp only[Function.comp_apply];omega) k];rfl
 have hlow:Low (acN g v):=by
  refine⟨by show 1000<=1000000;decide,Nat.le_refl _,fun t k hk=>hargs k (Vh t _ _ k hk),fun k o ho=>?_⟩;rw[hobj]at ho;have hmem:∀ (l:List (Nat×DObj X)),dlk l k=some o->(k,o)∈l:=by
   intro l
   induction l with
   |nil=>intro h;simp[dlk]at h
   |cons p l ih=>
    intro h;simp only[dlk]at h;split at h
    ·rename_i e;injection h with h;subst h;subst e;exact List.mem_cons_self
    ·exact List.mem_cons_of_mem _ (ih h)
  exact hobjs _ (hmem _ ho)
 refine acj hT hfn hb hname (by rw[jh,hal];exact hN) (fun k hk=>hargs k (by rwa [eF]at hk)) (by rw[length_map,<- length_map (f:=Prod.fst),hkeys,List.length_range];have:=s1.length_le;rw[length_map,length_map]at this;exact Nat.le_trans this i2) ?_ ?_
 ·intro o ho r' hr' x hx j hj;obtain⟨p,hp,rfl⟩:=mem_map.1 ho;exact (hobjs p hp).2 j (Rq hr' hx j hj)
 ·have e:LSt.st ⟨(List.range (aT (g.args v)).length).zip (aT (g.args v)),(List.range ((g.objs v).map fun p=>aP p.2).length).zip ((g.objs v).map fun p=>aP p.2)⟩=(acN g v).st:=by
   simp only[DSt.st,LSt.st,St.mk.injEq,and_true];refine⟨?_,?_⟩
   ·funext t;simp only[acN];rw[aei,jh,hal]
   ·funext k;rw[Ao,hobj,List.getElem?_map];have:=hdlk (g.objs v) 0 (by rw[hkeys];simp) k;rw[Nat.zero_add]at this;rw[this,Option.map_map];rfl
  rw[e];refine (iG hT hm hΓ c _ h _ _ r hlow hrun).mono ?_;rintro e σ ⟨s',hl',_,rfl,g4⟩;cases e<;>first |exact acP hl' g4 |cases g4
end
def encR {α:Type} (enc:α->Value) (l:List α):List (List Tree):=l.map fun x=>[.sc (enc x)]
def YH {α:Type} (enc:α->Value) (d:α) (n₀:Nat) (W:World) (sv:Value) (zs:List α):Prop:=
 (∃ a cap,sv= .slice a 0 cap∧zs=[])∨∃ b off cap,sv= .slice (some ⟨b,off,none⟩) zs.length cap∧b < n₀∧∀ j,j < zs.length->W.cell? ⟨b,off+j,none⟩=some (enc (zs[j]?.getD d))
theorem Vi {α:Type} {enc:α->Value} {d:α} {w:World} {I:Nat->Prop}:∀ (l:List α) (b off sz:Nat),TRows w I (encR enc l) b off sz->∀ j,j < l.length->w.cell? ⟨b,off+j,none⟩=some (enc (l[j]?.getD d))
 |[],_,_,_,_,j,h=>by simp at h
 |x::l,b,off,sz,h,j,hj=>by
  simp only[encR,map_cons,TRows,TRow,TR]at h;obtain⟨h1,⟨⟨c,h2,rfl,_⟩,_⟩,h3⟩:=h;obtain rfl:sz=1:=by simpa using h1.symm
  cases j with
  |zero=>simpa using h2
  |succ j=>
   have:=Vi (d:=d) l b (off+1) 1 h3 j (by simpa using hj);simpa[Nat.add_assoc,Nat.add_comm 1 j]using this
section
variable {P:Program} {f F:FuncId} {E:TypeId} {α:Type} {enc:α->Value} {d:α}
theorem afz (h1c:∀ x,oneCell (enc x)) (hcall:jf P f)
 (h:∀ (Bn:Nat) (sv:Value) (xs:List α),xs.length<=1000000->∀ w:World,w.cell? ⟨Bn,0,none⟩=some sv->Bn < w.heap.size->YH enc d w.heap.size w sv xs->
  Calls P f #[.slice none 0 0,.func (.func F) #[] #[.pointer (some ⟨Bn,0,none⟩)]] w fun e W'=>∃ v,e= .returned v∧W'.ownsRow w.heap.size E 1 v xs.length (xs.map enc)∧Below w.heap.size w W')
 (l:List α) (hl:l.length<=1000000):
 FnG P f [.nilsl,.fn F [] [.ptr 0 0 0]] [⟨1,[[.t (.sl (encR enc l))]]⟩] [(0,⟨1,[[.t (.sl (encR enc l))]]⟩),(1000,⟨1,aC (encR enc l)⟩)] (.own 1000 0 l.length):=by
 refine⟨hcall,fun w β I vs hβ hM hvs=>?_⟩;obtain⟨vs⟩:=vs
 match vs,hvs with
 |[a,b],hvs=>
  simp only[VRl,VR]at hvs;obtain⟨rfl,⟨⟨fs⟩,⟨cs⟩,rfl,hfs,hcs⟩,_⟩:=hvs
  match fs,hfs,cs,hcs with
  |[],_,[p],hcs=>
   simp only[VRl,VR]at hcs;obtain⟨⟨b,sz,n,hb,rfl⟩,_⟩:=hcs;obtain⟨B,hB,hO⟩:=hM.objs 0 _ rfl;rw[hb]at hB;injection hB with hB;subst hB;simp only[OR,ORows,ORow]at hO;obtain⟨rfl,c,e,hheap,hsz,⟨_,⟨⟨sv,hsv,hT,_⟩,_⟩,_⟩⟩:=hO;simp only[VR]at hT;have hcell:w.cell? ⟨b,0,none⟩=some sv:=(by simp[World.cell?,hheap,hsv]);have hblt:b < w.heap.size:=(Array.getElem?_eq_some_iff.1 hheap).1;have hI:YH enc d w.heap.size w sv l:=by
    simp only[TR]at hT;rcases hT with ⟨h1,a,cap,rfl,_⟩ |⟨b2,off,cap,sz2,rfl,h2,h3,h4⟩
    ·exact .inl ⟨a,cap,rfl,by simpa[encR]using h1⟩
    ·exact .inr ⟨b2,off,cap,by simp[encR],hM.lt b2 h3,Vi (d:=d) l b2 off sz2 h4⟩
   refine (h b sv l hl w hcell hblt hI).mono ?_;rintro e w' ⟨v,rfl,hown,hbel⟩;obtain⟨hs,hM'⟩:=hM.below hbel (I':=I) (fun _ h=>h) (fun b hb=>Nat.lt_of_lt_of_le (hM.lt b hb) hbel.size) (fun b k o B h1 h2 h3 h4=>(hM.ownB k o B b h2 h3 h4).1 h1) hM.up;have hf:Zx P (fun b=>w.heap.size<=b) 1 (encR enc l) w' I v:=by
    rcases hown.2 with ⟨rfl,h0⟩ |⟨g,cap,cur,rfl,hg,hgb,hle,_,hcs,htk⟩
    ·exact .inl ⟨by simpa[encR]using h0,rfl⟩
    ·refine .inr ⟨g,cur,E,cap,0,by simp[encR],hg,fun hi=>absurd (hM.lt g hi) (by omega),hgb,by simpa[encR]using hle,by omega,?_,fun _=>rfl⟩;rw[rF];intro i r hr;simp only[aC,encR,map_map,List.getElem?_map,Option.map_eq_some_iff]at hr;obtain⟨x,hx,rfl⟩:=hr;refine⟨rfl,?_⟩;have hi:i < l.length:=(List.getElem?_eq_some_iff.1 hx).1;have:=congrArg (fun q=>q[i]?) htk;simp only[List.getElem?_take,List.getElem?_map,hx,Option.map_some]at this;rw[if_pos (by omega)]at this;simp only[Function.comp,map_cons,map_nil,ORow,VR,TR];exact⟨⟨_,by simpa using this,⟨rfl,h1c x⟩,h1c x⟩,trivial⟩
   obtain⟨β',hS,hM2,hV⟩:=hM'.fresh (i:=1000) (hβ 1000 (by simp)) (F:=fun b=>w.heap.size<=b) (fun k o b h1 h2 h3=>absurd (hM.ownL k o b h1 h2).2.1 (by omega)) (fun b h=> .inr h) hf;refine⟨v,β',I,rfl,?_,fun _ h=>h,by simpa[encR]using hV⟩;have e:olk [(0,(⟨1,[[.t (.sl (encR enc l))]]⟩:aI)),(1000,⟨1,aC (encR enc l)⟩)]=aZ (osg [⟨1,[[.t (.sl (encR enc l))]]⟩]) [(1000,some ⟨1,aC (encR enc l)⟩)]:=by
    funext k;simp only[olk,aZ,osg];by_cases h1:k=1000
    ·subst h1;simp
    ·rw[if_neg h1];cases k with
     |zero=>rfl
     |succ k=>simp;intro h;omega
   rw[e];exact hM2
end
def acQ {α:Type} (a0:List α):Option (List α×List α):=bif Nat.ble a0.length 1000000 then some (a0,a0)else none
section
variable {X:SX}
def ahm (c:CT X.ι) (F:FuncId):GSig X:=⟨[.nil,.f F [] [.p 0]],[(0,.c 1 [[.v (.sl c)]])],[.o 1000],[(0,.c 1 [[.v (.sl c)]]),(1000,.l c)],fun v=>acQ v⟩
theorem aej {P:Program} {f F:FuncId} {E:TypeId} {c:CT X.ι} {enc:CT.T X.toSE c->Value} {d:CT.T X.toSE c} (hc:∀ x,CT.row X.toSE c x=[.sc (enc x)]) (h1c:∀ x,oneCell (enc x)) (hcall:jf P f)
 (h:∀ (Bn:Nat) (sv:Value) (xs:List (CT.T X.toSE c)),xs.length<=1000000->∀ w:World,w.cell? ⟨Bn,0,none⟩=some sv->Bn < w.heap.size->YH enc d w.heap.size w sv xs->
  Calls P f #[.slice none 0 0,.func (.func F) #[] #[.pointer (some ⟨Bn,0,none⟩)]] w fun e W'=>∃ v,e= .returned v∧W'.ownsRow w.heap.size E 1 v xs.length (xs.map enc)∧Below w.heap.size w W'):
 acu P f (ahm c F:GSig X):=by
 intro v r hr;have hr':acQ v=some r:=hr;unfold acQ at hr';cases hb:Nat.ble (List.length v) 1000000 with
 |false=>rw[hb]at hr';cases hr'
 |true=>
  rw[hb]at hr';injection hr' with hr';subst hr';have h2:=afz h1c hcall h v (Nat.le_of_ble_eq_true hb);have e:encR enc v=List.map (CT.row X.toSE c) v:=List.map_congr_left fun x _=>(hc x).symm;have hz:CT.sz X c=1:=by have:=congrArg List.length (hc d);rw[xh]at this;exact this
  rw[e]at h2;have e2:aP (.lst c v:DObj X)=⟨1,aC (List.map (CT.row X.toSE c) v)⟩:=by show (⟨CT.sz X c,aC (List.map (CT.row X.toSE c) v)⟩:aI)=_;rw[hz]
  show FnG P f _ _ (nU [(0,.cells 1 [[.c (.sl c) v]]),(1000,.lst c v)]) _;simp only[nU,map_cons,map_nil,e2];exact h2
end
section
variable {X:SX}
def yO {α β:Type} (f:α->Option β):List α->Option (List β)
 |[]=>some []
 |x::xs=>(f x).bind fun y=>(yO f xs).bind fun ys=>some (y::ys)
def muC (dq:(i j:X.ι)->Decidable (i=j)) (i:X.ι):CT X.ι->Option CS
 | .int k=>some (.int k)
 | .bool=>some .bool
 | .str=>some .str
 | .sl (.st j)=>match dq j i with
  | .isTrue _=>some .back
  | .isFalse _=>none
 |_=>none
def agi (dq:(i j:X.ι)->Decidable (i=j)) (i:X.ι):Bool:=(X.tys i).any fun c=>match c with
 | .sl (.st j)=>match dq j i with
  | .isTrue _=>true
  | .isFalse _=>false
 |_=>false
def ahn (dq:(i j:X.ι)->Decidable (i=j)):CT X.ι->Option (List CS)
 | .st i=>bif agi dq i then yO (muC dq i) (X.tys i)else none
 |_=>none
theorem agK (dq:(i j:X.ι)->Decidable (i=j)) {i:X.ι} {row:List CS} (hm:yO (muC dq i) (X.tys i)=some row) {x:Tree} (h:MuT row x):∃ l:List (CT.T X.toSE (.st i)),x= .sl (l.map (CT.row X.toSE (.st i))):=by
 refine MuT.rec (row:=row) (motive_1:=fun x _=>∃ l:List (CT.T X.toSE (.st i)),x= .sl (l.map (CT.row X.toSE (.st i)))) (motive_2:=fun rows _=>∃ l:List (CT.T X.toSE (.st i)),rows=l.map (CT.row X.toSE (.st i)))
  (motive_3:=fun cs r _=>∀ codes:List (CT X.ι),yO (muC dq i) codes=some cs->∃ h:HL X.toSE codes,r=HL.row X.toSE codes h) ?_ ?_ ?_ ?_ ?_ ?_ h
 ·rintro rows _ _ ⟨l,rfl⟩;exact⟨l,rfl⟩
 ·exact⟨[],rfl⟩
 ·rintro r rs _ _ h1 ⟨l,rfl⟩;obtain⟨q,rfl⟩:=h1 _ hm;exact⟨(X.make i q:X.T i)::l,by rw[map_cons];congr 1;exact (X.row_make i q).symm⟩
 ·intro codes hc;cases codes with
  |nil=>exact⟨(),rfl⟩
  |cons c codes=>
   simp only[yO,ai]at hc;obtain⟨_,_,_,_,h⟩:=hc;cases h
 ·intro cs x xs _ _ h1 h2 codes hc;obtain⟨l,rfl⟩:=h1;cases codes with
  |nil=>simp[yO]at hc
  |cons c codes=>
   simp only[yO,ai]at hc;obtain⟨c',g1,cs',g2,g3⟩:=hc;injection g3 with g3;injection g3 with g4 g5;subst g4 g5;obtain⟨q,rfl⟩:=h2 _ g2
   match c,g1 with
   | .sl (.st j),g1=>
    simp only[muC]at g1;split at g1
    ·rename_i hj _;subst hj;exact⟨(l,q),rfl⟩
    ·cases g1
   | .int _,g1=>simp[muC]at g1
   | .bool,g1=>simp[muC]at g1
   | .str,g1=>simp[muC]at g1
   | .any,g1=>simp[muC]at g1
   | .st _,g1=>simp[muC]at g1
   | .mp _ _,g1=>simp[muC]at g1
   | .sl (.int _),g1=>simp[muC]at g1
   | .sl .bool,g1=>simp[muC]at g1
   | .sl .str,g1=>simp[muC]at g1
   | .sl .any,g1=>simp[muC]at g1
   | .sl (.sl _),g1=>simp[muC]at g1
   | .sl (.mp _ _),g1=>simp[muC]at g1
 ·intro c' cs x xs hf _ h2 codes hc;cases codes with
  |nil=>simp[yO]at hc
  |cons c codes=>
   simp only[yO,ai]at hc;obtain⟨c2,g1,cs',g2,g3⟩:=hc;injection g3 with g3;injection g3 with g4 g5;subst g4 g5;obtain⟨q,rfl⟩:=h2 _ g2
   match c,g1 with
   | .int k,g1=>
    injection g1 with g1;subst g1;obtain⟨n,rfl,_⟩:=hf;exact⟨(n,q),rfl⟩
   | .bool,g1=>
    injection g1 with g1;subst g1;obtain⟨n,rfl⟩:=hf;exact⟨(n,q),rfl⟩
   | .str,g1=>
    injection g1 with g1;subst g1;obtain⟨n,rfl,_⟩:=hf;exact⟨(n,q),rfl⟩
   | .sl (.st j),g1=>
    simp only[muC]at g1;split at g1
    ·injection g1 with g1;subst g1;exact hf.elim
    ·cases g1
   | .any,g1=>simp[muC]at g1
   | .st _,g1=>simp[muC]at g1
   | .mp _ _,g1=>simp[muC]at g1
   | .sl (.int _),g1=>simp[muC]at g1
   | .sl .bool,g1=>simp[muC]at g1
   | .sl .str,g1=>simp[muC]at g1
   | .sl .any,g1=>simp[muC]at g1
   | .sl (.sl _),g1=>simp[muC]at g1
   | .sl (.mp _ _),g1=>simp[muC]at g1
def csF:Nat->CT X.ι->Option (List CS)
 | 0,_=>none
 |_+1,.int k=>some [.int k]
 |_+1,.bool=>some [.bool]
 |_+1,.str=>some [.str]
 |_+1,.any=>some [.any]
 |_+1,.mp _ _=>none
 |n+1,.sl e=>match ahn X.dec e with
  |some row=>some [.mu row]
  |none=>(csF n e).bind fun r=>some [.sl r]
 |n+1,.st i=>(yO (csF n) (X.tys i)).bind fun l=>some l.flatten
def vsF (n:Nat) (c:CT X.ι):Option VS:=
 match c with
 | .st i=>(csF n (.st i:CT X.ι)).map .agg
 |c=>(csF n c).bind fun l=>match l with
  |[x]=>some (.one x)
  |_=>none
theorem Oq:∀ (a b:List CS) (ys:List Tree),FitL (a++b) ys->∃ ya yb,ys=ya++yb∧FitL a ya∧FitL b yb
 |[],b,ys,h=>⟨[],ys,rfl,trivial,h⟩
 |c::a,b,y::ys,h=>by
  simp only[List.cons_append,FitL]at h;obtain⟨ya,yb,rfl,h1,h2⟩:=Oq a b ys h.2;exact⟨y::ya,yb,rfl,⟨h.1,h1⟩,h2⟩
 |_::_,_,[],h=>h.elim
theorem YI {c:CT X.ι} {cs:List CS} (h:∀ ys,FitL cs ys->∃ x:CT.T X.toSE c,ys=CT.row X.toSE c x):∀ rows:List (List Tree),(∀ r∈rows,FitL cs r)->∃ l:List (CT.T X.toSE c),rows=l.map (CT.row X.toSE c)
 |[],_=>⟨[],rfl⟩
 |r::rows,hr=>by
  obtain⟨x,hx⟩:=h r (hr r (by simp));obtain⟨l,hl⟩:=YI h rows fun q hq=>hr q (List.mem_cons_of_mem _ hq);exact⟨x::l,by rw[map_cons,<- hx,<- hl]⟩
theorem aek {f:CT X.ι->Option (List CS)} (hf:∀ c cs,f c=some cs->∀ ys,FitL cs ys->∃ x:CT.T X.toSE c,ys=CT.row X.toSE c x):∀ (l:List (CT X.ι)) (css:List (List CS)),yO f l=some css->∀ ys,FitL css.flatten ys->∃ h:HL X.toSE l,ys=HL.row X.toSE l h
 |[],css,h,ys,hy=>by
  simp only[yO,Option.some.injEq]at h;subst h;cases ys with
  |nil=>exact⟨(),rfl⟩
  |cons y ys=>exact hy.elim
 |c::l,css,h,ys,hy=>by
  simp only[yO]at h;rw[ai]at h;obtain⟨a,h1,h⟩:=h;rw[ai]at h;obtain⟨b,h2,h⟩:=h;injection h with h;subst h;simp only[List.flatten_cons]at hy;obtain⟨ya,yb,rfl,g1,g2⟩:=Oq _ _ _ hy;obtain⟨x,hx⟩:=hf c a h1 ya g1;obtain⟨q,hq⟩:=aek hf l b h2 yb g2;exact⟨(x,q),by rw[hx,hq];rfl⟩
theorem Pz:∀ (n:Nat) (c:CT X.ι) (cs:List CS),csF n c=some cs->∀ ys,FitL cs ys->∃ x:CT.T X.toSE c,ys=CT.row X.toSE c x
 | 0,_,_,h,_,_=>by cases h
 |n+1,.mp _ _,cs,h,ys,hy=>by simp[csF]at h
 |n+1,.int k,cs,h,ys,hy=>by
  simp only[csF,Option.some.injEq]at h;subst h
  match ys,hy with
  |[y],hy=>
   simp only[FitL,Fit,and_true]at hy;obtain⟨m,rfl,_⟩:=hy;exact⟨m,rfl⟩
  |[],hy=>exact hy.elim
  |_::_::_,hy=>exact hy.2.elim
 |n+1,.bool,cs,h,ys,hy=>by
  simp only[csF,Option.some.injEq]at h;subst h
  match ys,hy with
  |[y],hy=>
   simp only[FitL,Fit,and_true]at hy;obtain⟨m,rfl⟩:=hy;exact⟨m,rfl⟩
  |[],hy=>exact hy.elim
  |_::_::_,hy=>exact hy.2.elim
 |n+1,.str,cs,h,ys,hy=>by
  simp only[csF,Option.some.injEq]at h;subst h
  match ys,hy with
  |[y],hy=>
   simp only[FitL,Fit,and_true]at hy;obtain⟨m,rfl,_⟩:=hy;exact⟨m,rfl⟩
  |[],hy=>exact hy.elim
  |_::_::_,hy=>exact hy.2.elim
 |n+1,.any,cs,h,ys,hy=>by
  simp only[csF,Option.some.injEq]at h;subst h
  match ys,hy with
  |[y],hy=>exact⟨y,rfl⟩
  |[],hy=>exact hy.elim
  |_::_::_,hy=>exact hy.2.elim
 |n+1,.sl e,cs,h,ys,hy=>by
  simp only[csF]at h;split at h
  ·rename_i row hm;injection h with h;subst h
   match ys,hy with
   |[y],hy=>
    simp only[FitL,Fit,and_true]at hy;cases e with
    |st i=>
     simp only[ahn]at hm;cases hb:agi X.dec i with
     |false=>rw[hb]at hm;cases hm
     |true=>
      rw[hb]at hm;obtain⟨l,hl⟩:=agK X.dec hm hy;exact⟨l,by rw[hl];rfl⟩
    |_=>cases hm
   |[],hy=>exact hy.elim
   |_::_::_,hy=>exact hy.2.elim
  rw[ai]at h;obtain⟨r,h1,h⟩:=h;injection h with h;subst h
  match ys,hy with
  |[y],hy=>
   simp only[FitL,Fit,and_true]at hy;obtain⟨rows,rfl,_,hr⟩:=hy;obtain⟨l,hl⟩:=YI (Pz n e r h1) rows hr;exact⟨l,by rw[hl];rfl⟩
  |[],hy=>exact hy.elim
  |_::_::_,hy=>exact hy.2.elim
 |n+1,.st i,cs,h,ys,hy=>by
  simp only[csF]at h;rw[ai]at h;obtain⟨css,h1,h⟩:=h;injection h with h;subst h;obtain⟨q,hq⟩:=aek (Pz n) (X.tys i) css h1 ys hy;exact⟨X.make i q,by rw[hq];exact (X.row_make i q).symm⟩
theorem afA {n:Nat} {c:CT X.ι} {s:VS} (h:vsF n c=some s) {x:TV} (hx:QK s x):∃ y:CT.T X.toSE c,x=CT.tv X.toSE c y:=by
 have one:∀ c:CT X.ι,c.one=true->((csF n c).bind fun l=>match l with
  |[x]=>some (VS.one x)
  |_=>none)=some s->∃ y:CT.T X.toSE c,x=CT.tv X.toSE c y:=by
  intro c hc h;rw[ai]at h;obtain⟨l,h1,h⟩:=h;split at h
  ·rename_i z;injection h with h;subst h;simp only[QK]at hx;obtain⟨t,rfl,ht⟩:=hx;obtain⟨y,hy⟩:=Pz n c _ h1 [t] ⟨ht,trivial⟩;obtain⟨t',e1,e2⟩:=row_one hc y;rw[e1]at hy;injection hy with hy;subst hy;exact⟨y,e2.symm⟩
  ·cases h
 cases c
 case st i=>
  simp only[vsF,Option.map_eq_some_iff]at h;obtain⟨cs,h1,rfl⟩:=h;simp only[QK]at hx;obtain⟨ys,rfl,hy⟩:=hx;obtain⟨y,hy⟩:=Pz n (.st i) _ h1 ys hy;exact⟨y,by rw[hy];rfl⟩
 all_goals exact one _ rfl h
theorem YJ (n:Nat):∀ (cs:List (CT X.ι)) (ss:List VS),yO (vsF n) cs=some ss->∀ xs,IV ss xs->∃ h:HL X.toSE cs,xs=HL.tvs X.toSE cs h
 |[],ss,h,xs,hx=>by
  simp only[yO,Option.some.injEq]at h;subst h;cases xs with
  |nil=>exact⟨(),rfl⟩
  |cons x xs=>exact hx.elim
 |c::cs,ss,h,xs,hx=>by
  simp only[yO]at h;rw[ai]at h;obtain⟨a,h1,h⟩:=h;rw[ai]at h;obtain⟨b,h2,h⟩:=h;injection h with h;subst h;cases xs with
  |nil=>exact hx.elim
  |cons x xs=>
   obtain⟨y,rfl⟩:=afA h1 hx.1;obtain⟨q,rfl⟩:=YJ n cs b h2 xs hx.2;exact⟨(y,q),rfl⟩
theorem ael {P:Program} {f:FuncId} {n:Nat} {cs:List (CT X.ι)} {ss:List VS} {fn:Nat->gD X (cs.map AT.d)->Option Bool} (hc:∀ k,COk P f ⟨cs.map AT.d,[.d .bool],fn k,none⟩) (hs:yO (vsF n) cs=some ss) (hl:∀ q:HL X.toSE cs,IV ss (HL.tvs X.toSE cs q)->∃ k,fn k (hlA cs q)=some true) (xs:List TV) (h:IV ss xs):
 FnP P f (xs.map TV.av) (.one (.d (.s (.sc (.bool true))))):=by
 obtain⟨q,rfl⟩:=YJ n cs ss hs xs h;obtain⟨k,hk⟩:=hl q h;have h1:=(hc k).2.1 (hlA cs q) true hk;have h2:=h1;rw[xC (Ww cs)]at h2;have h3:FnW P f (xB (cs.map AT.d) (hlA cs q)) [] [] (.one (.d (.s (.sc (.bool true))))):=h2;have h4:=QJ h3;rw[xB,Mv]at h4;exact h4
end
end Go.Gb
