import Derived.Test.YtknmfellccjagaaGreatW1
import Derived.Maps.RangeRun
import Derived.ChangeSame
import Derived.Carry
import Derived.OpenShut
import Derived.SizedLaws
import Derived.WalkKit
import Derived.ProofKit
import Derived.Lib.LaidTab
open List (mem_map all_eq_true cons_append length_map append_nil map_map take_of_length_le map_congr_left map_nil all_cons map_take map_drop mem_flatMap mem_append_left mem_append_right)
namespace Go.Gb
open Go.RowKit Go.MapKept
theorem WO{L:J Nat}{P:Ξ}{ag:Array Oper}{Q:Exit->Act->World->Prop}{i:Nat}{ae:U Nat}{o:Oper}{a:Act}{w w':Δ}{v:Ψ}(h:ag[i]? =some o)(hg:o.guard=none)
 (hx:(execOp a.eval o).run P w=.ok (.value v) w') (hk:wpOpsIn (Fw L) 0 P ag Q ae (a.put o.dst v) w'):wpOpsIn (Fw L) 0 P ag Q (i::ae) a w:=by rw[wpOpsIn_cons];simp[wpOpIn,h];rw[aY (by simp[Region.wanted,hg])];refine⟨λ f _=>Fw.fn L f,?_⟩;rw[za hx (by simp)];exact hk
structure RgI where
 x:Operand
 t:TypeId
 a0:Nat
 it:Nat
 nn:Nat
 b:Nat
 e:Nat
 xx:Nat
 kv:Nat
 j:Nat
 j2:Nat
 body:Code
section
variable {P:Program} {w0:World} {O0:iu} {N:Nat} {β:Nat->Option cH} {I:Nat->Prop} {σ:St} {a:Act} {w:World}
def St.put(σ:St)(d:Nat)(x:AV):St:=⟨BK σ.env (some d) x,σ.obj,BK σ.ok (some d) none⟩
theorem Rel.put(hr:Rel P w0 O0 N β I σ a w){d:Nat}(hd:d<N){x:AV}{v:Ψ}(hv:VR P β w I x v):Rel P w0 O0 N β I (σ.put d x) (a.put (some d) v) w:=by
 refine⟨by simpa[Act.put]using hr.defers,by simpa[Act.put]using hr.size,λt=>?_,hr.mem⟩;have hold:=hr.env t;simp only[St.put,BK,Act.put,bV];by_cases hdt:d=t;subst hdt;rw[aY rfl,aY rfl];have e:(a.tmps.setIfInBounds d v).getD d undef=v:=by simp[Nat.lt_of_lt_of_eq hd hr.size.symm]
 rw[e];exact hv
 simp_all
theorem VB{a:Act}{d:Nat}{v:Ψ}(hd:d<a.tmps.size):(a.put (some d) v).eval (.tmp d)=v:=by simp[Act.put,Act.eval,hd]
theorem tu{a:Act}{d t:Nat}{v:Ψ}(h:d≠t):(a.put (some d) v).eval (.tmp t)=a.eval (.tmp t):=by
 simp_all [Act.put,Act.eval]
def C7(w0:Δ)(O0:iu)(I E:Φ)(dl:U Deferred):iu:=⟨λ q=>(O0.own q\/w0.heap.size<=q)/\¬E q/\¬I q,λq=>(O0.qv q\/O0.own q\/w0.heap.size<=q)/\¬E q,O0.anc,O0.lt,dl⟩
structure ll(β:Nat->Option cH)(I:Nat->Prop)(obj:Nat->Option aR)(w:World)(r:Nat):Prop where
 lt:r<w.heap.size
 qv:¬I r
 obj:∀k o,obj k=some o->¬gi β k r
theorem Mem.tj{obj:Ω}(h:Mem P w0 O0 β I obj w){E:Φ}(hE:∀q,E q->ll β I obj w q){dl:U Deferred}:Mem P w (C7 w0 O0 I E dl) β I obj w:=by refine⟨h.cD,h.eI,λk o B q h1 h2 h3=>?_,h.lt,λq hq=>.inl ⟨h.up q hq,λe=>(hE q e).qv hq⟩,λ_ _ _=>rfl,aB _,rfl,rfl,rfl,h.anch,h.vars⟩;have⟨g1,g2,g3⟩:=h.ownB k o B q h1 h2 h3;exact⟨g1,g2,.inl ⟨g3,λe=>(hE q e).obj k o h1 ⟨B,h2,h3⟩,g1⟩⟩
theorem Mem.tf{obj kq:Ω}{β':ζ}{I':Φ}{w':Δ}(h:Mem P w0 O0 β I obj w){E:Φ}{dl:U Deferred}(h':Mem P w (C7 w0 O0 I E dl) β' I' kq w')(hE:∀q,E q->q<w.heap.size):
 Mem P w0 O0 β' I' kq w'/\(∀ q,E q->ll β' I' kq w' q/\w'.heap[q]? =w.heap[q]?)/\Same I w w':=by
 have hle:=h.le;have hle':=h'.le;have own':∀k o B q,kq k=some o->β' k=some B->B.num=some q->(O0.own q\/w0.heap.size<=q)/\¬E q:=by intro k o B q h1 h2 h3;rcases (h'.ownB k o B q h1 h2 h3).2.2 with g|g;exact⟨g.1,g.2.1⟩;exact⟨.inr (by omega),λe=>by have:=hE q e;omega⟩
 have Ly:∀q,I' q->(O0.qv q\/O0.own q\/w0.heap.size<=q)/\¬E q:=by intro q hq;rcases h'.up q hq with g|g|g;exact g;exact⟨.inr g.1,g.2.1⟩;exact⟨.inr (.inr (by omega)),λe=>by have:=hE q e;omega⟩
 refine⟨⟨h'.cD,h'.eI,λk o B q h1 h2 h3=>⟨(h'.ownB k o B q h1 h2 h3).1,(h'.ownB k o B q h1 h2 h3).2.1,(own' k o B q h1 h2 h3).1⟩,h'.lt,λq hq=>(Ly q hq).1,λq hq hno=>?_,by omega,h'.os.trans h.os,h'.tape.trans h.tape,h'.output.trans h.output,h'.anch,h'.vars⟩,
  λq hq=>⟨⟨by have:=hE q hq;omega,λhi=>(Ly _ hi).2 hq,λk o h1 ⟨B,h2,h3⟩=>(own' k o B q h1 h2 h3).2 hq⟩,h'.keep q (hE q hq) λhh=>hh.2.1 hq⟩,λq hq=>h'.keep q (h.lt q hq) λhh=>hh.2.2 hq⟩
 exact(h'.keep q (by omega) (λ hh=>by rcases hh.1 with g|g;exact hno g;omega)).trans (h.keep q hq hno)
theorem Mem.Z1{obj:Ω}(h:Mem P w0 O0 β I obj w){r:Nat}(hr:ll β I obj w r)(hnew:w0.heap.size<=r){w':Δ}(hother:∀q,q≠r->w'.heap[q]? =w.heap[q]?)(hsize:w'.heap.size=w.heap.size)(hos:w'.os=w.os)(sC:w'.tape=w.tape)(hout:w'.output=w.output):
 Same I w w'/\Mem P w0 O0 β I obj w':=by have hs:Same I w w':=λq hq=>hother q (λ e=>hr.qv (e ▸ hq));refine⟨hs,λk o hk=>?_,h.eI,λk o B q h1 h2 h3=>by rw[hsize];exact h.ownB k o B q h1 h2 h3,λq hq=>by rw[hsize];exact h.lt q hq,h.up,λq hq hno=>?_,by rw[hsize];exact h.le,hos.trans h.os,sC.trans h.tape,hout.trans h.output,h.anch,h.vars.mono hs (λ _ h=>h)⟩;have⟨B,hB,hO⟩:=h.cD k o hk;exact⟨B,hB,OR.mono (λ _ _ h=>h) hs (λ _ h=>h) (λ q hq=>hother q (λ e=>hr.obj k o hk ⟨B,hB,e ▸ hq⟩)) hO⟩;rw[hother q (by omega)];exact h.keep q hq hno
theorem Rel.world{w':Δ}(hr:Rel P w0 O0 N β I σ a w)(hs:Same I w w')(hm:Mem P w0 O0 β I σ.obj w'):Rel P w0 O0 N β I σ a w':=
 ⟨hr.defers,hr.size,λt=>dg.mono (λ _ _ h=>h) hs (λ _ h=>h) (hr.env t),hm⟩
end
open Go.RowKit
def kept(os':U (Option fC))(j:Nat):Prop:=∃p,os'[j]? =some (some p)
def C1(get:Ω)(fk:J Nat)(os':U (Option fC)):AV->Tree->Prop
 |.t x,y=>y=x
 |.cT,y=>y=.sl []
 |.oz k len,y=>fk≠some k/\¬kept os' k/\∃o dt,get k=some o/\(o.rows.drop 0).take len=aI dt/\dt.length=len/\y=.sl dt
 |.own k aa len,y=>fk≠some k/\¬kept os' k/\∃o dt,get k=some o/\(o.rows.drop aa).take len=aI dt/\dt.length=len/\y=.sl dt
 |_,_=>False
def mA(get:Ω)(fk:J Nat)(os':U (Option fC)):U AV->U Tree->Prop
 |[],[]=>True
 |x::xs,y::ys=>C1 get fk os' x y/\mA get fk os' xs ys
 |_,_=>False
def ey(get:Ω)(fk:J Nat)(os':U (Option fC)):U (List AV)->U (List Tree)->Prop
 |[],[]=>True
 |x::xs,y::ys=>mA get fk os' x y/\ey get fk os' xs ys
 |_,_=>False
def HR(get:Ω)(fk:J Nat)(os':U (Option fC)):AV->RC->Prop
 |.agg cs,.d (.a ts)=>mA get fk os' cs ts
 |x,.d (.s y)=>C1 get fk os' x y
 |.cT,.fresh _ rows=>rows=[]
 |.own k aa len,.fresh sz rows=>fk=some k/\¬kept os' k/\aa=0/\∃o,get k=some o/\o.sz=sz/\ey get fk os' (o.rows.take len) rows/\rows.length=len
 |.own k aa len,.whole j len'=>k=j/\aa=0/\len'=len/\kept os' j
 |_,_=>False
def oR(get:Ω)(fk:J Nat)(os':U (Option fC)):U AV->U RC->Prop
 |[],[]=>True
 |x::xs,c::cs=>HR get fk os' x c/\oR get fk os' xs cs
 |_,_=>False
def HQ(get:Ω)(fk:J Nat)(os':U (Option fC)):U AV->RV->Prop
 |[x],.one c=>HR get fk os' x c
 |x::y::r,.fm cs=>oR get fk os' (x::y::r) cs
 |[],.fm cs=>cs=[]
 |_,_=>False
def S8(get:Ω)(fk:J Nat)(os':U (Option fC)):Prop:=
 ∀(j:Nat) p,os'[j]? =some (some p)->fk≠some j/\∃o,get j=some o/\o.sz=p.1/\ey get fk os' (o.rows.take p.2.length) p.2
def VD(T:en)(t:Θ)(x:AV)(obj:Ω):J Out:=
 K8 T t x .none obj
def Qz(T:en)(σ:St):ResultVar->J AV
 |.tmp t=>match σ.ok t with
  |none=>some (σ.env t)
  |some _=>none
 |.cell a t=>match σ.ok a with
  |none=>match VD T t (σ.env a) σ.obj with
   |some ⟨v,[],[]⟩=>some v
   |_=>none
  |some _=>none
def l8(T:en)(σ:St):U ResultVar->J (List AV)
 |[]=>some []
 |r::rs=>(Qz T σ r).bind λv=>(l8 T σ rs).bind λvs=>some (v::vs)
def SV(tmps:η):ResultVar->Sem Value
 |.tmp t=>pure (tmps.getD t undef)
 |.cell a t=>do loadVar t (<- asAddr (tmps.getD a undef))
theorem ED(fn:Func)(tmps:η):results fn tmps=(fn.results.mapM (SV tmps))>>=λvs=>pure (if h:vs.size=1 then vs[0]else .tuple vs):=by congr 2
def aq6(T:en)(rs:U ResultVar)(rv:RV)(os':U (Option fC)):Exit->St->Prop
 |.normal,σ=>∃xs fk,l8 T σ rs=some xs/\HQ σ.obj fk os' xs rv/\S8 σ.obj fk os'
 |.ret,σ=>∃xs fk,l8 T σ rs=some xs/\HQ σ.obj fk os' xs rv/\S8 σ.obj fk os'
 |_,_=>False
section
variable {P:Program} {T:en} {w0:World} {O0:iu} {N:Nat} {β:Nat->Option cH} {I:Nat->Prop} {σ:St} {a:Act} {w:World}
theorem acE(hT:fB P T)(hr:Rel P w0 O0 N β I σ a w){r:ResultVar}{x:AV}(h:Qz T σ r=some x):
 ∃v,(SV a.tmps r).run P w=.ok v w/\VR P β w I x v:=by
 cases r with
 |tmp t=>
  simp only[Qz]at h;have h1:=hr.env t;cases hk:σ.ok t with
  |some b=>rw[hk]at h;cases h
  |none=>
   rw[hk]at h h1;cases h;exact⟨_,by simp[SV],h1⟩
 |cell ad t=>
  simp only[Qz]at h;have hx:=hr.env ad;cases hk:σ.ok ad with
  |some b=>rw[hk]at h;cases h
  |none=>
  rw[hk]at h hx;simp only at h;have hx:VR P β w I (σ.env ad) (a.tmps.getD ad undef):=hx;split at h
  .rename_i v hl;injection h with h;subst h;obtain⟨u,h1,h2⟩:∃u,(Instr.loadAt t (a.tmps.getD ad undef)).run P w=.ok u w/\VR P β w I v u:=(by obtain⟨u,h1,h2,_⟩:=Sz hT hr.mem (λ _ _ h=>h) hl trivial hx;exact⟨u,h1,h2⟩);refine⟨u,?_,h2⟩;have hp:∃p,a.tmps.getD ad undef=.pointer (some p):=by
    unfold VD at hl;unfold K8 at hl;cases hti:T t with
    |none=>simp[hti]at hl
    |some ti=>
     simp only[hti,ai]at hl;split at hl
     .rename_i heq;rw[heq]at hx;simp only[VR]at hx;obtain⟨b,sz,n,_,h⟩:=hx;exact⟨_,h⟩
     .rename_i heq;rw[heq]at hx;simp only[VR]at hx;obtain⟨b,o,h,_⟩:=hx;exact⟨_,h⟩
     .cases hl
   obtain⟨p,hp⟩:=hp;rw[hp]at h1;simp only[SV,hp,asAddr,Sem.run_bind,Sem.run_pure,Result.andThen_ok];exact h1
  .cases h
theorem wG(hT:fB P T)(hr:Rel P w0 O0 N β I σ a w):∀(rs:U ResultVar)(xs:U AV),l8 T σ rs=some xs->
 ∃vs,(rs.mapM (SV a.tmps)).run P w=.ok vs w/\bp P β w I xs vs
 |[],xs,h=>by simp_all [l8,bp]
 |r::rs,xs,h=>by
  simp[l8]at h;cases h1:Qz T σ r with
  |none=>grind
  |some x=>
   cases h2:l8 T σ rs with
   |none=>grind
   |some ys=>
    simp[h1,h2]at h;subst h;have⟨v,g1,g2⟩:=acE hT hr h1;obtain⟨vs,g3,g4⟩:=wG hT hr rs ys h2
    simp_all [g1,g3,bp]
def Np(σ:St)(w0 w:Δ)(β:ζ)(I:Φ)(O0:iu)(fk:J Nat)(os':U (Option fC))(b:Nat):Prop:=
 (I b\/O0.qv b\/w0.heap.size<=b\/O0.own b)/\b<w.heap.size/\¬∃k,(fk=some k\/kept os' k)/\(∃ o,σ.obj k=some o)/\gi β k b
theorem aeE(hr:Rel P w0 O0 N β I σ a w)(fk:J Nat)(os':U (Option fC)):∀b,I b->Np σ w0 w β I O0 fk os' b:=λb hb=>
 ⟨.inl hb,hr.mem.lt b hb,λ⟨k,_,⟨o,ho⟩,hβ⟩=>(hr.mem.j0 k o b ho hβ).1 hb⟩
theorem Nq(hr:Rel P w0 O0 N β I σ a w){fk:J Nat}{os':U (Option fC)}{k aa len:Nat}{y:Tree}{v:Ψ}(h:fk≠some k/\¬kept os' k/\∃o dt,σ.obj k=some o/\(o.rows.drop aa).take len=aI dt/\dt.length=len/\y=.sl dt)(hv:VR P β w I (.own k aa len) v):TR w (Np σ w0 w β I O0 fk os') y v:=by obtain⟨hne,hnk,o,dt,h1,h2,h3,rfl⟩:=h;simp only[TR];rcases hv with ⟨_,rfl,_,h4⟩|⟨b,sz,n,cap,ad,h4,rfl,h5,h6,h7⟩;exact .inl ⟨List.eq_nil_of_length_eq_zero (by omega),none,0,rfl,λ_=>rfl⟩;have⟨g1,g2,g3⟩:=hr.mem.own k o b sz n h1 h4;refine .inr ⟨b,ad,cap,sz,by rw[h3],by omega,⟨.inr (.inr (g3.elim .inr .inl)),g2,λ⟨k',e1,⟨o',e2⟩,e3⟩=>?_⟩,?_⟩;have:=hr.mem.pc k k' o o' b h1 e2 (.at h4) e3;subst this;exact e1.elim hne hnk;by_cases hc:cap=0;have:dt=[]:=List.eq_nil_of_length_eq_zero (by omega);subst this;simp[cC];rw[h7 hc];have⟨B,hB,tc⟩:=hr.mem.cD k o h1;rw[h4]at hB;cases hB;obtain⟨hs,c,e,hc',_,tc⟩:=tc;have h8:=cd.take len _ _ _ _ (cd.drop aa _ _ _ _ tc);rw[h2]at h8;exact cC.mm (aeE hr fk os') hc' dt _ _ h8
theorem EF(hr:Rel P w0 O0 N β I σ a w){fk:J Nat}{os':U (Option fC)}{x:AV}{y:Tree}{v:Ψ}(h:C1 σ.obj fk os' x y)(hv:VR P β w I x v):TR w (Np σ w0 w β I O0 fk os') y v:=by
 cases x<;>simp only[C1]at h
 case t x=>subst h;simp[VR]at hv;exact TR.mono (λ _ _=>rfl) (aeE hr fk os') _ _ hv
 case cT=>subst h;grind [VR,TR]
 case own k aa len=>exact Nq hr h hv
 case oz k len=>
  rcases hv.xd with ⟨rfl,rfl⟩|⟨_,hv⟩;obtain⟨hne,hnk,o,dt,h1,h2,h3,rfl⟩:=h;exact .inl ⟨List.eq_nil_of_length_eq_zero h3,none,0,rfl,λ_=>rfl⟩;exact Nq hr h hv
theorem Ns(hr:Rel P w0 O0 N β I σ a w){fk:J Nat}{os':U (Option fC)}{β':ζ}:∀{r:U AV}{t:U Tree}{c:Array Value}{aa:Nat},mA σ.obj fk os' r t->cW P β w I r c aa->cW P β' w (Np σ w0 w β I O0 fk os') (t.map AV.t) c aa
 |[],[],_,_,_,_=>trivial
 |x::xs,y::ys,c,aa,h,⟨⟨v,h1,h2,h3⟩,h4⟩=>⟨⟨v,h1,by simp[VR];exact EF hr h.1 h2,h3⟩,Ns hr h.2 h4⟩
 |[],_::_,_,_,h,_|_::_,[],_,_,h,_=>h.elim
theorem mA.length{get:Ω}{fk:J Nat}{os':U (Option fC)}:∀{r:U AV}{t:U Tree},mA get fk os' r t->t.length=r.length
 |[],[],_=>rfl
 |_::_,_::_,h=>by simp[mA.length h.2]
 |[],_::_,h|_::_,[],h=>h.elim
theorem BL(hr:Rel P w0 O0 N β I σ a w){fk:J Nat}{os':U (Option fC)}{β':ζ}:∀{rs:U (List AV)}{ts:U (List Tree)}{c:Array Value}{aa sz:Nat},ey σ.obj fk os' rs ts->cd P β w I rs c aa sz->cd P β' w (Np σ w0 w β I O0 fk os') (aI ts) c aa sz
 |[],[],_,_,_,_,_=>trivial
 |r::rs,t::ts,c,aa,sz,h,⟨h1,h2,h3⟩=>⟨by rw[length_map,h.1.length,h1],Ns hr h.1 h2,BL hr h.2 h3⟩
 |[],_::_,_,_,_,h,_|_::_,[],_,_,_,h,_=>h.elim
theorem ey.length{get:Ω}{fk:J Nat}{os':U (Option fC)}:∀{rs:U (List AV)}{ts:U (List Tree)},ey get fk os' rs ts->rs.length=ts.length
 |[],[],_=>rfl
 |_::_,_::_,h=>by simp[h.2.length]
 |[],_::_,h|_::_,[],h=>h.elim
theorem Lg(hr:Rel P w0 O0 N β I σ a w){fk:J Nat}{os':U (Option fC)}{β':ζ}:∀{r:U AV}{t:U Tree}{vs:U Value},mA σ.obj fk os' r t->bp P β w I r vs->bp P β' w (Np σ w0 w β I O0 fk os') (t.map AV.t) vs
 |[],[],[],_,_=>by trivial
 |x::xs,y::ys,v::vs,h,hv=>by exact⟨EF hr h.1 hv.1,Lg hr h.2 hv.2⟩
 |[],_::_,_,h,_|_::_,[],_,h,_=>h.elim
 |[],[],_::_,_,hv|_::_,_::_,[],_,hv=>by trivial
theorem Ip(hr:Rel P w0 O0 N β I σ a w){fk:J Nat}{os':U (Option fC)}{β':ζ}:∀{rs:U (List AV)}{ts:U (List Tree)}{es:U MapEntry},ey σ.obj fk os' rs ts->cI P β w I rs es->cI P β' w (Np σ w0 w β I O0 fk os') (aI ts) es
 |[],[],[],_,_=>trivial
 |_::_,_::_,_::_,h,hm=>⟨Lg hr h.1 hm.1,Ip hr h.2 hm.2⟩
 |[],_::_,_,h,_|_::_,[],_,h,_=>h.elim
 |[],[],_::_,_,hm|_::_,_::_,[],_,hm=>hm.elim
theorem ey.nil{get:Ω}{fk:J Nat}{os':U (Option fC)}{t:U (List Tree)}(h:ey get fk os' [] t):t=[]:=by
 cases t with
 |nil=>rfl
 |cons=>trivial
theorem WQ(hr:Rel P w0 O0 N β I σ a w){F:Φ}{βi:ζ}{fk:J Nat}{os':U (Option fC)}(hF:∀k o b,fk=some k->σ.obj k=some o->¬kept os' k->gi β k b->F b)(hi:∀j,kept os' j->β j=βi j){x:AV}{c:RC}{v:Ψ}
 (h:HR σ.obj fk os' x c) (hv:VR P β w I x v):A3 P F βi c w (Np σ w0 w β I O0 fk os') v:=by
 unfold HR at h;split at h;rename_i cs ts;simp[VR]at hv;obtain⟨vs,rfl,hv⟩:=hv;refine⟨vs,rfl,?_⟩;have:∀(cs:U AV)(ts:U Tree)(vs:U Value),mA σ.obj fk os' cs ts->bp P β w I cs vs->eV w (Np σ w0 w β I O0 fk os') ts vs:=by
  intro cs
  induction cs with
  |nil=>intro ts vs h hv;cases ts<;>cases vs<;>first|trivial|grind|grind
  |cons x xs ih=>
   intro ts vs h hv;cases ts with
   |nil=>exact h.elim
   |cons t ts=>
    cases vs with
    |nil=>simp[bp]at hv
    |cons u us=>simp[bp]at hv;exact⟨EF hr h.1 hv.1,ih ts us h.2 hv.2⟩
 exact this cs ts vs.toList h hv;exact EF hr h hv;subst h;simp[VR]at hv;exact .inl ⟨rfl,hv⟩;rename_i k aa len sz rows;obtain⟨rfl,hnk,rfl,o,h1,rfl,h2,h3⟩:=h;simp only[VR]at hv;rcases hv with ⟨_,rfl,_,h4⟩|⟨b,sz,n,cap,ad,h4,rfl,h5,h6,h7⟩;exact .inl ⟨List.eq_nil_of_length_eq_zero (by omega),rfl⟩;have⟨B,hB,tc⟩:=hr.mem.cD k o h1;rw[h4]at hB;cases hB;obtain⟨hs,c,e,hc',hn,tc⟩:=tc;refine .inr ⟨b,c,e,cap,ad,n.s,by rw[h3],hF k o b rfl h1 hnk (.at h4),λhI=>hI.2.2 ⟨k,.inl rfl,⟨o,h1⟩,.at h4⟩,hc',by omega,?_,?_,λhc=>by simpa using h7 hc⟩;rw[<- hs,hn];simpa using h6;rw[<- hs];exact BL hr h2 (cd.take len _ _ _ _ tc);rename_i k aa len j len';obtain⟨rfl,rfl,rfl,hk⟩:=h;show VR P βi w (Np σ w0 w β I O0 fk os') (.own k 0 len') v;simp[VR]at hv ⊢;rw[<- hi k hk];exact hv
 grind
theorem zo{α:Type}(l:U α)(t:Nat):lk ((List.range l.length).zip l) t=l[t]? :=by
 have rx:∀(l:U α)(s t:Nat),(lk ((List.range' s l.length).zip l) t)=if s<=t/\t<s+l.length then l[t-s]? else none:=by
  intro l
  induction l with
  |nil=>simp[lk]
  |cons x xs ih=>
   simp[List.range'_succ,lk]
   all_goals grind
 simp[List.range_eq_range',rx]
theorem QA{x:AV}:∀{l:U AV},x∈l->∀k∈refs x,k∈fA l
 |[],h,_,_=>by simp at h
 |y::ys,h,k,hk=>by simp[fA];rcases aL.1 h with rfl|h;exact .inl hk;exact .inr (QA h k hk)
theorem akw(hT : fB P T){f : FuncId}{fn : Func}{c : Code}{args : U AV}{os : U fC}{os' : U (Option fC)}{rv : RV}(hfn : P.funcs[f]? = some fn)(hb : fn.body = some c)(hname : (fn.name == "runtime.NumGoroutine") = false)(hN : args.length <= fn.ntmps)(hargs : ∀ k ∈ fA args, k < 1000)(hos : os.length <= 1000)(hlen : os'.length = os.length)
 (h:Ev P fn.ntmps c (aq6 T fn.results.toList rv os') (so.st ⟨(List.range args.length).zip args,(List.range (os.map ir).length).zip (os.map ir)⟩)):rh P f args os os' rv:=by
 refine⟨⟨fn,hfn,by rw[hb];rfl,hname⟩,λw β I vs hβ hM hv=>?_⟩;have hvl:=bp.length _ _ hv;simp at hvl;have i9:∀k,lk ((List.range (os.map ir).length).zip (os.map ir)) k=sm os k:=λk=>by rw[zo];simp[sm]
 refine calls_of_wp hfn hb ?_;have hrel:Rel P w (nI β I) fn.ntmps β I (so.st ⟨(List.range args.length).zip args,(List.range (os.map ir).length).zip (os.map ir)⟩) { tmps:=vs++Array.replicate (fn.ntmps-vs.size) undef,defers:=[] } w:=by
  refine⟨rfl,by simp;omega,λt=>?_,?_⟩;simp only[so.st,zo,dg];by_cases ht:t<args.length;obtain⟨v,g1,g2⟩:=bp.get _ _ t _ hv (dP ht);rw[dP ht];simp only[Option.getD_some];have:(vs++Array.replicate (fn.ntmps-vs.size) undef).getD t undef=v:=by rw[Array.getElem?_toList]at g1;simp only[Array.getD_eq_getD_getElem?,Array.getElem?_append,show t<vs.size by omega,if_true,g1,Option.getD_some]
  rw[this];exact g2;rw[List.getElem?_eq_none (Nat.le_of_not_lt ht)];simp[VR];have:(so.st ⟨(List.range args.length).zip args,(List.range (os.map ir).length).zip (os.map ir)⟩).obj=sm os:=funext i9;rw[this];exact hM
 have hold:vf (so.st ⟨(List.range args.length).zip args,(List.range (os.map ir).length).zip (os.map ir)⟩):=by
  refine⟨λ t k hk=>?_,λk o hk=>?_⟩;simp[so.st,zo]at hk;cases ht:args[t]? with
  |none=>rw[ht]at hk;simp[refs]at hk
  |some x=>rw[ht]at hk;have:=hargs k (QA (cZ ht) k hk);omega
  have hk:sm os k=some o:=(i9 k).symm.trans hk;simp only[sm,iE]at hk;obtain⟨p,hp,rfl⟩:=hk;refine⟨by have:=(dx.1 hp).1;omega,λr hr x hx j hj=>?_⟩;simp[ir,aI,mem_map]at hr;obtain⟨q,_,rfl⟩:=hr;simp[mem_map]at hx;obtain⟨t,_,rfl⟩:=hx;simp[refs]at hj
 refine wp_mono (wpIn_wide.1 (h none w (nI β I) β I _ w hrel hold)) ?_
 have fin:∀(a':Act) (w':World) (β':Nat->J cH) (I':Nat->Prop) (σ':St),Rel P w (nI β I) fn.ntmps β' I' σ' a' w'->(∃ xs fk,l8 T σ' fn.results.toList=some xs/\HQ σ'.obj fk os' xs rv/\S8 σ'.obj fk os')->
  a'.defers=[]/\∃v,(results fn a'.tmps).run P w'=.ok v w'/\TO P w β I os' rv (.returned v) w':=by
  intro a' w' β' I' σ' hr ⟨xs,fk,hx,he,heo⟩;obtain⟨us,g1,g2⟩:=wG hT hr _ _ hx;have HF:=bp.length _ _ g2;have hm:=hr.mem;have hrun:(fn.results.mapM (SV a'.tmps)).run P w'=.ok us.toArray w':=by rw[Array.mapM_eq_mapM_toList,Sem.run_map,g1];rfl
  have hko:∀j p,os'[j]? =some (some p)->∃B o,β j=some B/\β' j=some B/\σ'.obj j=some o/\OR P β' w' I' o B/\o.sz=p.1/\ey σ'.obj fk os' (o.rows.take p.2.length) p.2:=by intro j p hj;have⟨_,o,e1,e2,e3⟩:=heo j p hj;have hjl:j<os.length:=(by rw[<- hlen];exact(dx.1 hj).1);obtain⟨B,hB,_⟩:=hM.cD j (ir os[j]) (by simp[sm,hjl]);have hB':=hm.anch j B (by simp only[nI];rw[aY (by omega)];exact hB);have⟨B',hB2,hO⟩:=hm.cD j o e1;rw[hB']at hB2;cases hB2;exact⟨B,o,hB,hB',e1,hO,e2,e3⟩
  have hkept:∀j,kept os' j->β' j=β j:=λj ⟨p,hp⟩=>by have⟨B,o,h1,h2,_⟩:=hko j p hp;rw[h1,h2]
  have sL:∀j o,Ey os' j=some o->∃p,os'[j]? =some (some p)/\o=ir p:=by intro j o hj;simp only[Ey,iE,Option.join_eq_some_iff]at hj;obtain⟨p,hp,rfl⟩:=hj;exact⟨p,hp,rfl⟩
  have m6:∀b,I b->¬Uj β b/\b<w.heap.size:=by intro b hb;refine⟨?_,hM.lt b hb⟩;rintro⟨j,B,hj,hB⟩;rcases Nat.lt_or_ge j os.length with hjl|hjl;exact(hM.ownB j (ir os[j]) B b (by simp[sm,hjl]) hj hB).1 hb;rw[hβ j hjl]at hj;cases hj
  have hOI:∀b,I b->Np σ' w w' β' I' (nI β I) fk os' b:=by intro b hb;have⟨g1,g2⟩:=m6 b hb;refine⟨.inr (.inl hb),Nat.lt_of_lt_of_le g2 hm.le,?_⟩;rintro⟨k,_,⟨o,ho⟩,hβk⟩;rcases (hm.j0 k o b ho hβk).2.2 with g|g;exact g1 g;omega
  have hmem:Mem P w (nI β I) β (Np σ' w w' β' I' (nI β I) fk os') (Ey os') w':=by
   constructor;intro j o hj;obtain⟨p,hp,rfl⟩:=sL j o hj;have⟨B,o1,b1,b2,b3,b4,b5,b6⟩:=hko j p hp;refine⟨B,b1,?_⟩;cases B with
   |none=>
    simp[OR]at b4 ⊢;rw[b4]at b6;have:=ey.nil (by simpa using b6);simp[ir,aI,this]
   | «at» b s n=>
    obtain⟨c1,c,e,c2,c3,c4⟩:=b4;refine⟨by rw[c1,b5];rfl,c,e,c2,c3,?_⟩;exact BL hr b6 (cd.take _ _ _ _ _ c4)
   |mp b=>
    obtain⟨es,cl,c1,cl',c2,c3⟩:=b4;have hl:=b6.length;simp[List.length_take]at hl;refine⟨es,cl,c1,by simp[ir,aI,length_map];omega,λe=>?_,c3⟩;have e':p.1=p.2.length:=(by simpa[ir,aI]using e);rw[take_of_length_le (by omega)]at b6;exact Ip hr b6 (c2 (by omega))
   intro j j' o o' B B' b h1 h2 h3 h4 h5 h6;obtain⟨p,hp,rfl⟩:=sL j o h1;obtain⟨p',hp',rfl⟩:=sL j' o' h2;have⟨_,o1,_,_,b3,_⟩:=hko j p hp;have⟨_,o1',_,_,b3',_⟩:=hko j' p' hp';rw[<- hkept j ⟨p,hp⟩]at h3;rw[<- hkept j' ⟨p',hp'⟩]at h4;exact hm.eI j j' o1 o1' B B' b b3 b3' h3 h4 h5 h6;intro j o B b h1 h2 h5;obtain⟨p,hp,rfl⟩:=sL j o h1;have⟨_,o1,_,_,b3,_⟩:=hko j p hp;rw[<- hkept j ⟨p,hp⟩]at h2;have⟨_,c2,c3⟩:=hm.ownB j o1 B b b3 h2 h5;exact⟨λ hb=>hb.2.2 ⟨j,.inr ⟨p,hp⟩,⟨o1,b3⟩,B,h2,h5⟩,c2,c3⟩;exact λb hb=>hb.2.1;intro b hb;rcases hb.1 with g|g|g|g;exact hm.up b g;exact .inl g;exact .inr (.inr g);exact .inr (.inl g);exact hm.keep;exact hm.le;exact hm.os;exact hm.tape;exact hm.output;intro j B hj;simp only[nI]at hj;split at hj;exact hj;cases hj;exact hM.vars.mono (λ b hb=>hm.keep b (m6 b hb).2 (m6 b hb).1) hOI
  have hF:∀k o b,fk=some k->σ'.obj k=some o->¬kept os' k->gi β' k b->CI w β os' b:=by intro k o b _ h2 h3 h4;refine⟨(hm.j0 k o b h2 h4).2.2,λj o' h5 h6=>?_⟩;obtain⟨p,hp,rfl⟩:=sL j o' h5;have⟨_,o1,_,_,b3,_⟩:=hko j p hp;have h6':gi β' j b:=(by obtain⟨B,e1,e2⟩:=h6;exact⟨B,by rw[hkept j ⟨p,hp⟩];exact e1,e2⟩);have:=hm.pc k j o o1 b h2 b3 h4 h6';subst this;exact h3 ⟨p,hp⟩
  have ret:∀v,sg P (CI w β os') β rv w' (Np σ' w w' β' I' (nI β I) fk os') v->TO P w β I os' rv (.returned v) w':=λv hv'=>⟨v,_,rfl,hmem,hOI,hv'⟩;refine⟨hr.defers,?_⟩;have hlist:∀(xs:U AV)(cs:U RC)(us:U Value),oR σ'.obj fk os' xs cs->bp P β' w' I' xs us->V5 P (CI w β os') β cs w' (Np σ' w w' β' I' (nI β I) fk os') us:=by
   intro xs
   induction xs with
   |nil=>intro cs us h1 h2;cases cs<;>cases us<;>first|trivial|exact h1.elim|(simp [bp]at h2)
   |cons x xs ih=>
    intro cs us h1 h2;cases cs with
    |nil=>exact h1.elim
    |cons c cs=>
     cases us with
     |nil=>simp[bp]at h2
     |cons u us=>simp[bp]at h2;exact⟨WQ hr hF hkept h1.1 h2.1,ih cs us h1.2 h2.2⟩
  simp only[ED,Sem.run_bind,hrun,Result.andThen_ok,Sem.run_pure];refine⟨_,rfl,ret _ ?_⟩
  match xs,us,rv,he,g2 with
  |[x],[u],.one c,he,g2=>
   simp only[bp]at g2;simpa[sg]using WQ hr hF hkept he g2.1
  |x::y::r,u::u'::us,.fm cs,he,g2=>
   have:=hlist _ _ _ he g2;rw[dif_neg (by simp)];exact⟨_,rfl,by simpa using this⟩
  |[],[],.fm cs,he,g2=>
   simp[HQ]at he;subst he;rw[dif_neg (by simp)];exact⟨_,rfl,trivial⟩
  |[x],[u],.fm cs,he,_=>exact he.elim
  |[],_,.one c,he,_=>exact he.elim
  |x::y::r,_,.one c,he,_=>exact he.elim
  |[],_::_,.fm _,_,g2=>simp[bp]at g2
  |[_],[],_,_,g2=>simp[bp]at g2
  |[_],_::_::_,_,_,g2=>simp[bp]at g2
  |_::_::_,[],_,_,g2=>simp[bp]at g2
  |_::_::_,[_],_,_,g2=>simp[bp]at g2
 rintro e a' w' ⟨β',I',σ',h1,h2,h3⟩;cases e with
 |normal=>exact fin a' w' β' I' σ' h1 h3
 |ret=>exact fin a' w' β' I' σ' h1 h3
 |_=>exact h3.elim
def HP(P:Ξ)(get:Ω)(xs:U AV)(os':U (Nat×aR))(rv:AV):Prop:=
 ∀(w0:World) (O0:iu) (β:Nat->J cH) (I:Nat->Prop) (w:World) (vs:Array Value),Mem P w0 O0 β I get w->bp P β w I xs vs.toList->∃ β' I',Mem P w0 O0 β' I' (qk os') w/\(∀ b,I b->I' b)/\VR P β' w I' rv (if h:vs.size=1 then vs[0]else .tuple vs)
def aqs(P:Ξ)(T:en)(rs:U ResultVar)(rv:AV)(os':U (Nat×aR)):Exit->St->Prop
 |.normal,σ=>∃xs,l8 T σ rs=some xs/\HP P σ.obj xs os' rv
 |.ret,σ=>∃xs,l8 T σ rs=some xs/\HP P σ.obj xs os' rv
 |_,_=>False
theorem aky(hT : fB P T){f : FuncId}{fn : Func}{c : Code}{args : U AV}{os : U aR}{os' : U (Nat × aR)}{rv : AV}(hfn : P.funcs[f]? = some fn)(hb : fn.body = some c)(hname : (fn.name == "runtime.NumGoroutine") = false)(hN : args.length <= fn.ntmps)(hargs : ∀ k ∈ fA args, k < 1000)(hos : os.length <= 1000)
 (arG:∀o∈os,∀r∈o.rows,∀x∈r,∀j∈refs x,j<1000)
 (h:Ev P fn.ntmps c (aqs P T fn.results.toList rv os') (so.st ⟨(List.range args.length).zip args,(List.range os.length).zip os⟩)):Hs P f args os os' rv:=by
 refine⟨⟨fn,hfn,by rw[hb];rfl,hname⟩,λw β I vs hβ hM hv=>?_⟩;have hvl:=bp.length _ _ hv;simp at hvl;have i9:∀k,lk ((List.range os.length).zip os) k=ue os k:=λk=>by rw[zo];rfl
 refine calls_of_wp hfn hb ?_;have hrel:Rel P w (nI β I) fn.ntmps β I (so.st ⟨(List.range args.length).zip args,(List.range os.length).zip os⟩) { tmps:=vs++Array.replicate (fn.ntmps-vs.size) undef,defers:=[] } w:=by
  refine⟨rfl,by simp;omega,λt=>?_,?_⟩;simp only[so.st,zo,dg];by_cases ht:t<args.length;obtain⟨v,g1,g2⟩:=bp.get _ _ t _ hv (dP ht);rw[dP ht];simp only[Option.getD_some];have:(vs++Array.replicate (fn.ntmps-vs.size) undef).getD t undef=v:=by rw[Array.getElem?_toList]at g1;simp only[Array.getD_eq_getD_getElem?,Array.getElem?_append,show t<vs.size by omega,if_true,g1,Option.getD_some]
  rw[this];exact g2;rw[List.getElem?_eq_none (Nat.le_of_not_lt ht)];simp[VR];have:(so.st ⟨(List.range args.length).zip args,(List.range os.length).zip os⟩).obj=ue os:=funext i9;rw[this];exact hM
 have hold:vf (so.st ⟨(List.range args.length).zip args,(List.range os.length).zip os⟩):=by
  refine⟨λ t k hk=>?_,λk o hk=>?_⟩;simp[so.st,zo]at hk;cases ht:args[t]? with
  |none=>rw[ht]at hk;simp[refs]at hk
  |some x=>rw[ht]at hk;have:=hargs k (QA (cZ ht) k hk);omega
  have hk:ue os k=some o:=(i9 k).symm.trans hk;simp[ue]at hk;refine⟨by have:=(dx.1 hk).1;omega,λr hr x hx j hj=>?_⟩;have:=arG o (cZ hk) r hr x hx j hj;omega
 refine wp_mono (wpIn_wide.1 (h none w (nI β I) β I _ w hrel hold)) ?_
 have fin:∀(a':Act) (w':World) (β':Nat->J cH) (I':Nat->Prop) (σ':St),Rel P w (nI β I) fn.ntmps β' I' σ' a' w'->(∃ xs,l8 T σ' fn.results.toList=some xs/\HP P σ'.obj xs os' rv)->
  a'.defers=[]/\∃v,(results fn a'.tmps).run P w'=.ok v w'/\Tb P w β I os' rv (.returned v) w':=by
  intro a' w' β' I' σ' hr ⟨xs,hx,he⟩;obtain⟨us,g1,g2⟩:=wG hT hr _ _ hx;have hrun:(fn.results.mapM (SV a'.tmps)).run P w'=.ok us.toArray w':=by rw[Array.mapM_eq_mapM_toList,Sem.run_map,g1];rfl
  have m6:∀b,I b->¬Uj β b/\b<w.heap.size:=by intro b hb;refine⟨?_,hM.lt b hb⟩;rintro⟨j,B,hj,hB⟩;rcases Nat.lt_or_ge j os.length with hjl|hjl;exact(hM.ownB j os[j] B b (by simp[ue]) hj hB).1 hb;rw[hβ j hjl]at hj;cases hj
  obtain⟨β2,I2,hm,hI2,hv2⟩:=he w (nI β I) β' I' w' us.toArray hr.mem (by simpa using g2);have hmem:Mem P w (nI β I) β2 (λ b=>I2 b\/I b) (qk os') w':=by constructor;intro k o hk;have⟨B,hB,hO⟩:=hm.cD k o hk;exact⟨B,hB,OR.mono (λ _ _ h=>h) (λ _ _=>rfl) (λ b hb=>.inl hb) (λ _ _=>rfl) hO⟩;exact hm.eI;intro k o B b h1 h2 h3;have⟨a1,a2,a3⟩:=hm.ownB k o B b h1 h2 h3;refine⟨?_,a2,a3⟩;rintro (hb|hb);exact a1 hb;have⟨c1,c2⟩:=m6 b hb;rcases a3 with a3|a3;exact c1 a3;omega;rintro b (hb|hb);exact hm.lt b hb;exact Nat.lt_of_lt_of_le (m6 b hb).2 hm.le;rintro b (hb|hb);exact hm.up b hb;exact .inl hb;exact hm.keep;exact hm.le;exact hm.os;exact hm.tape;exact hm.output;exact hm.anch;exact hm.vars.mono (λ _ _=>rfl) (λ b hb=>.inl hb)
  refine⟨hr.defers,?_⟩;simp only[ED,Sem.run_bind,hrun,Result.andThen_ok,Sem.run_pure];exact⟨_,rfl,_,β2,_,rfl,hmem,λb hb=>.inr hb,VR.mono (λ _ _ h=>h) (λ _ _=>rfl) (λ b hb=>.inl hb) _ _ hv2⟩
 rintro e a' w' ⟨β',I',σ',h1,h2,h3⟩;cases e with
 |normal|ret=>exact fin a' w' β' I' σ' h1 h3
 |_=>exact h3.elim
theorem sg.Ln{F F':Φ}{βi:ζ}{w':Δ}{I':Φ}(hF:∀b,F b->F' b){rv:RV}{v:Ψ}(h:sg P F βi rv w' I' v):sg P F' βi rv w' I' v:=by
 have hc:∀(c:RC)(v:Value),A3 P F βi c w' I' v->A3 P F' βi c w' I' v:=by
  intro c v h;cases c with
  |d x=>exact h
  |fresh sz rows=>
   rcases h with h|⟨b,c,e,cap,o,s,h1,h2,h3⟩;exact .inl h;exact .inr ⟨b,c,e,cap,o,s,h1,hF b h2,h3⟩
  |whole j len=>exact h
 cases rv with
 |one c=>exact hc c v h
 |fm cs=>
  obtain⟨vs,rfl,h⟩:=h;refine⟨vs,rfl,?_⟩;have:∀(cs:U RC)(vs:U Value),V5 P F βi cs w' I' vs->V5 P F' βi cs w' I' vs:=by
   intro cs
   induction cs with
   |nil=>intro vs h;cases vs with
    |nil=>trivial
    |cons=>trivial
   |cons c cs ih=>intro vs h;cases vs with
    |nil=>trivial
    |cons v vs=>exact⟨hc c v h.1,ih vs h.2⟩
  grind
theorem WR{f:FuncId}{args:U AV}{rv:RV}(h:rh P f args [] [] rv):tR P f args rv:=by
 refine⟨h.1,λw I vs hlt hgv hv=>?_⟩;have hM:Mem P w (nI ly I) ly I (sm []) w:=by
  refine⟨λ k o hk=>by trivial,λk k' o o' B B' b hk=>by trivial,λk o B b hk=>by trivial,hlt,λb hb=>.inl hb,λ_ _ _=>rfl,aB _,rfl,rfl,rfl,λj B hj=>?_,hgv⟩
  simp_all [nI,ly,ite_self]
 refine(h.2 w ly I vs (λ _ _=>rfl) hM hv).mono ?_;rintro e w' ⟨v,I',rfl,g1,g2,g3⟩;have hno:∀b,¬(nI ly I).own b:=λb ⟨j,B,hj,_⟩=>by cases hj
 refine⟨v,I',rfl,⟨g1.os,g1.tape,g1.output,g1.le,λb hb=>g1.keep b hb (hno b)⟩,g2,g1.lt,λb hb=>?_,sg.Ln (λ b hb=>?_) g3⟩;rcases g1.up b hb with h|h|h;exact .inl h;exact(hno b h).elim;exact .inr h;rcases hb.1 with h|h;exact(hno b h).elim;exact h
end
open Go.RowKit Go.WideShapes Go.ChangeShapes
inductive CS where
 |int (k:IntKind)
 |bool
 |str
 |sl (row:List CS)
 |any
  |mu (row:List CS)
 |back
def aq7:CS->Tree->Prop
 |.int k,x=>∃n,x=.sc (.int k n)/\(Lit.int k n).wf=true
 |.bool,x=>∃b,x=.sc (.bool b)
 |.str,x=>∃s,x=.sc (.string s)/\s.size<=maxLen
 |_,_=>False
def aqt:CS->Nat
 |.int .i64=>8
 |.int _=>1
 |.bool=>1
 |.str=>16
 |_=>24
def T5:CS->Nat
 |.int .i64=>8
 |.int _=>1
 |.bool=>1
 |_=>8
def apM:Nat->U CS->Nat
 |o,[]=>o
 |o,c::cs=>apM ((o+(T5 c-1))/T5 c*T5 c+aqt c) cs
def S7(r:U CS):Nat:=bif r.any (λ c=>T5 c==8)then(apM 0 r+7)/8*8 else apM 0 r
mutual
inductive IN(row:List CS):Tree->Prop
 |mk (rows:List (List Tree)) (hl:rows.length<=maxLen) (h:p6 row rows):IN row (.sl rows)
inductive p6(row:List CS):List (List Tree)->Prop
 |nil:p6 row []
 |cons {r:List Tree} {rs:List (List Tree)} (h:kw row row r) (t:p6 row rs):p6 row (r::rs)
inductive kw(row:List CS):List CS->List Tree->Prop
 |nil:kw row [] []
 |back {cs:List CS} {x:Tree} {xs:List Tree} (h:IN row x) (t:kw row cs xs):kw row (.back::cs) (x::xs)
 |one {c:CS} {cs:List CS} {x:Tree} {xs:List Tree} (h:aq7 c x) (t:kw row cs xs):kw row (c::cs) (x::xs)
end
mutual
def Fit:CS->Tree->Prop
 |.int k,x=>∃n,x=.sc (.int k n)/\(Lit.int k n).wf=true
 |.bool,x=>∃b,x=.sc (.bool b)
 |.str,x=>∃s,x=.sc (.string s)/\s.size<=maxLen
 |.sl row,x=>∃rows,x=.sl rows/\(rows.length<=maxLen/\rows.length*S7 row<=reachBytes)/\∀r∈rows,ed row r
 |.any,_=>True
 |.mu row,x=>IN row x
 |.back,_=>False
def ed:List CS->List Tree->Prop
 |[],[]=>True
 |c::cs,x::xs=>Fit c x/\ed cs xs
 |_,_=>False
end
mutual
def oY:Tree->Nat
 |.sc (.string s)=>s.size+1
 |.sc _=>1
 |.sl rows=>Ak rows+1
def Ak:List (List Tree)->Nat
 |[]=>0
 |r::rs=>lU r+Ak rs
def lU:List Tree->Nat
 |[]=>0
 |x::xs=>oY x+lU xs
end
theorem AY:∀a b:U Tree,lU (a++b)=lU a+lU b
 |[],b=>by simp[lU]
 |x::a,b=>by simp[lU,AY a b];omega
structure Bk(H:Type) where
 b:DataW H->Nat
 a:List (DataW H)->Nat
 str:∀l,b (.lit (.string l))=l.length+1
 int:∀k n,b (.lit (.int k n))=1
 bool:∀v,b (.lit (.bool v))=1
 nil:b .nil=1
 sl:∀e s,b (.slice e s)=a e+a s+1
 agg:∀p,b (.agg p)=a p+1
 a0:a []=0
 a1:∀d r,a (d::r)=b d+a r
theorem Bk.app{H:Type}(K:Bk H)(l r:U (DataW H)):K.a (l++r)=K.a l+K.a r:=by
 induction l with
 |nil=>simp[K.a0]
 |cons x l ih=>grind [K.a1]
theorem Bk.drop{H:Type}(K:Bk H){l:U (DataW H×List MemPlace)}{j:Nat}{y:DataW H×List MemPlace}(h:l[j]? =some y):K.a ((l.map (·.1)).drop j)=K.b y.1+K.a ((l.map (·.1)).drop (j+1)):=by obtain⟨hj,rfl⟩:=dx.1 h;rw[List.drop_eq_getElem_cons (by grind),K.a1];simp
def AS(P:Ξ)(go:TypeId->J (List CS)):Nat->U Field->J (List CS)
 |_,[]=>some []
 |o,f::fs=>(go f.type).bind λa=>if f.offset=o/\a.length=P.cellsOf f.type then(AS P go (o+a.length) fs).map (a++ ·)else none
def ahp(P:Ξ)(t u:Θ):J (List CS):=if u=t then some [.back]else match P.underlying u with
 |some (.int k)=>some [.int k]
 |some .bool=>some [.bool]
 |some .string=>some [.str]
 |_=>none
def T4(P:Ξ)(t e:Θ):J (List CS):=match P.underlying e with
 |some (.struct fs)=>(AS P (ahp P t) 0 fs.toList).bind λr=>if r.length=P.cellsOf e/\0<r.length then some r else none
 |_=>none
def C6(P:Ξ)(cut:U TypeId):Nat->TypeId->J (List CS)
 | 0,_=>none
 |n+1,t=>match P.underlying t with
  |some (.int k)=>some [.int k]
  |some .bool=>some [.bool]
  |some .string=>some [.str]
  |some (.slice e)=>if cut.contains t then(match T4 P t e with|some row=>some [.mu row]|none=>some [.any])else(C6 P cut n e).bind λr=>if r.length=P.cellsOf e/\0<r.length/\S7 r<=P.bytesOf e then some [.sl r]else none
  |some (.struct fs)=>(AS P (C6 P cut n) 0 fs.toList).bind λr=>if r.length=P.cellsOf t then some r else none
  |some (.array m e)=>(C6 P cut n e).bind λr=>if r.length=P.cellsOf e/\m*r.length=P.cellsOf t then some (List.replicate m r).flatten else none
  |_=>none
theorem ed.length:∀(cs:U CS)(ts:U Tree),ed cs ts->ts.length=cs.length
 |[],[],_=>rfl
 |c::cs,x::xs,h=>by simp[ed]at h;simp[ed.length cs xs h.2]
 |[],_::_,h|_::_,[],h=>by trivial
theorem ed.append:∀(cs:U CS)(ts:U Tree){cs':U CS}{ts':U Tree},ed cs ts->ed cs' ts'->ed (cs++cs') (ts++ts')
 |[],[],_,_,_,h=>h
 |c::cs,x::xs,_,_,h,h'=>by simp at h ⊢;exact⟨h.1,ed.append cs xs h.2 h'⟩
 |[],_::_,_,_,h,_|_::_,[],_,_,h,_=>by trivial
def Here(w:Δ)(b:Nat):Prop:=b<w.heap.size
section
variable {w:World} {I:Nat->Prop}
theorem eV.append:∀(ts:U Tree)(cs:U Value){ts':U Tree}{cs':U Value},eV w I ts cs->eV w I ts' cs'->eV w I (ts++ts') (cs++cs')
 |[],[],_,_,_,h=>h
 |_::xs,_::vs,_,_,h,h'=>⟨h.1,eV.append xs vs h.2 h'⟩
 |[],_::_,_,_,h,_|_::_,[],_,_,h,_=>h.elim
theorem eV.length:∀(ts:U Tree)(cs:U Value),eV w I ts cs->ts.length=cs.length
 |[],[],_=>rfl
 |_::xs,_::vs,h=>by simp[eV.length xs vs h.2]
 |[],_::_,h|_::_,[],h=>h.elim
theorem acG:∀(ts:U Tree)(cs:U Value)(b aa:Nat),eV w I ts cs->(∀ i,i<cs.length->w.cell? ⟨b,aa+i,none⟩=cs[i]?)->eh w I ts b aa
 |[],[],_,_,_,_=>by trivial
 |x::xs,v::vs,b,aa,h,hc=>by
  refine⟨⟨v,by simpa using hc 0 (by simp),h.1⟩,acG xs vs b (aa+1) h.2 λi hi=>?_⟩;have:=hc (i+1) (by grind)
  grind
 |[],_::_,_,_,h,_|_::_,[],_,_,h,_=>h.elim
end
section
variable {H:Type} {enc:TypeId×Value->H} {P:Program} {w:World} {sp:Nat->Bool} {held:Bool}
theorem QB{a:Addr}{v:Ψ}(h:w.cell? a=some v):a.spot=none/\a.block<w.heap.size:=by simp[World.cell?]at h;split at h;rename_i c e st hc;split at h;cases h;rename_i hs;exact⟨by simp_all,(Array.getElem?_eq_some_iff.1 hc).1⟩;cases h
def W8(P:Ξ)(t:Θ)(x:DataW H×List MemPlace):Prop:=∀k∈x.1.weights P t,k<=reachBytes
theorem zq{e:Θ}:∀{l:U (DataW H)}{d:DataW H},d∈l->∀k∈d.weights P e,k∈DataW.weightsAll P e l
 |a::l,d,h,k,hk=>by simp[DataW.weightsAll];rcases aL.1 h with rfl|h;exact .inl hk;exact .inr (zq h k hk)
theorem SY(m:Nat)(cs:U Value)(go:TypeId->J (List CS))(hgo:∀t sh,go t=some sh->∀cs x,DataW.trod enc P w 0 sp held m t cs=some x->W8 P t x->∃ts,eV w (Here w) ts cs/\ed sh ts/\∀K:Bk H,lU ts<=K.b x.1):
 ∀(fs:U Field)(l:U (DataW H×List MemPlace))(o:Nat)(sh:U CS),AS P go o fs=some sh->l.length=fs.length->(∀ (i:Nat) (f:Field) (x:DataW H×List MemPlace),fs[i]? =some f->l[i]? =some x->DataW.trod enc P w 0 sp held m f.type ((cs.drop f.offset).take (P.cellsOf f.type))=some x/\W8 P f.type x)->
  ∃ts,eV w (Here w) ts ((cs.drop o).take sh.length)/\ed sh ts/\∀K:Bk H,lU ts<=K.a (l.map (·.1))
 |[],l,o,sh,h,_,_=>by
  simp[AS]at h
  grind [eV,ed,lU]
 |f::fs,[],o,sh,h,hl,hf=>by grind
 |f::fs,x::l,o,sh,h,hl,hf=>by simp only[AS,ah]at h;obtain⟨a,h1,h2⟩:=h;split at h2;rename_i hc;obtain⟨hc1,hc2⟩:=hc;simp at h2;obtain⟨r,h3,rfl⟩:=h2;have⟨hx,hz⟩:=hf 0 f x rfl rfl;obtain⟨ts,g1,g2,k1⟩:=hgo _ _ h1 _ _ hx hz;obtain⟨ts',g3,g4,k2⟩:=SY m cs go hgo fs l _ _ h3 (by grind) λi f' x' hf' hx'=>hf (i+1) f' x' hf' hx';refine⟨ts++ts',?_,ed.append _ _ g2 g4,λK=>by have:=k1 K;have:=k2 K;rw[AY,bK,K.a1];omega⟩;rw[dZ,List.take_add,List.drop_drop];rw[hc1,<- hc2]at g1;exact eV.append _ _ g1 g3;cases h2
theorem kw.append{row:U CS}:∀{a b:U CS}{x y:U Tree},kw row a x->kw row b y->kw row (a++b) (x++y)
 |_,_,_,_,.nil,h=>h
 |_,_,_,_,.back h t,h'=>.back h (t.append h')
 |_,_,_,_,.one h t,h'=>.one h (t.append h')
theorem Nt{row:U CS}(m:Nat)(cs:U Value)(go:TypeId->J (List CS))(hgo:∀t sh,go t=some sh->∀cs x,DataW.trod enc P w 0 sp held m t cs=some x->∃ts,eV w (Here w) ts cs/\kw row sh ts/\∀K:Bk H,lU ts<=K.b x.1):
 ∀(fs:U Field)(l:U (DataW H×List MemPlace))(o:Nat)(sh:U CS),AS P go o fs=some sh->l.length=fs.length->(∀ (i:Nat) (f:Field) (x:DataW H×List MemPlace),fs[i]? =some f->l[i]? =some x->DataW.trod enc P w 0 sp held m f.type ((cs.drop f.offset).take (P.cellsOf f.type))=some x)->
  ∃ts,eV w (Here w) ts ((cs.drop o).take sh.length)/\kw row sh ts/\∀K:Bk H,lU ts<=K.a (l.map (·.1))
 |[],l,o,sh,h,_,_=>by simp[AS]at h;subst h;exact⟨[],by trivial,.nil,λK=>by simp[lU]⟩
 |f::fs,[],o,sh,h,hl,hf=>by grind
 |f::fs,x::l,o,sh,h,hl,hf=>by simp only[AS,ah]at h;obtain⟨a,h1,h2⟩:=h;split at h2;rename_i hc;obtain⟨hc1,hc2⟩:=hc;simp at h2;obtain⟨r,h3,rfl⟩:=h2;have hx:=hf 0 f x rfl rfl;obtain⟨ts,g1,g2,k1⟩:=hgo _ _ h1 _ _ hx;obtain⟨ts',g3,g4,k2⟩:=Nt m cs go hgo fs l _ _ h3 (by grind) λi f' x' hf' hx'=>hf (i+1) f' x' hf' hx';refine⟨ts++ts',?_,g2.append g4,λK=>by have:=k1 K;have:=k2 K;rw[AY,bK,K.a1];omega⟩;rw[dZ,List.take_add,List.drop_drop];rw[hc1,<- hc2]at g1;exact eV.append _ _ g1 g3;cases h2
theorem aoj{t e:Θ}{row:U CS}(hk:P.underlying t=some (.slice e))(hm:T4 P t e=some row):∀(fuel:Nat)(cs:U Value)(x:DataW H×List MemPlace),DataW.trod enc P w 0 sp held fuel t cs=some x->∃tr,eV w (Here w) [tr] cs/\IN row tr/\∀K:Bk H,oY tr<=K.b x.1:=by
 intro fuel
 induction fuel using Nat.strongRecOn with
 |_ fuel ih=>
 intro cs x hx;have one:∀m,m<fuel->∀uA y,DataW.trod enc P w 0 sp held m e uA=some y->∃ts,eV w (Here w) ts uA/\kw row row ts/\ts.length=row.length/\∀K:Bk H,lU ts<=K.b y.1:=by
  intro m hmf uA y hy;unfold T4 at hm;split at hm;rename_i fs hke;simp only[ah]at hm;obtain⟨r,h1,h2⟩:=hm;split at h2;rename_i hr;injection h2 with h2;subst h2;obtain⟨xs,m',hm',rfl,hl,hxs,hf⟩:=DataW.trod_struct hke hy;obtain⟨ts,g1,g2,k1⟩:=Nt (row:=r) m' uA (ahp P t) (λ u sh hsh cs x hx=>by unfold ahp at hsh;split at hsh;rename_i hu;cases hsh;rw[hu]at hx;obtain⟨tr,a1,a2,a3⟩:=ih m' (by omega) cs x hx;exact⟨[tr],a1,.back a2 .nil,λK=>by grind [lU]⟩;split at hsh;rename_i k D4;cases hsh;obtain⟨v,rfl,rfl,hw⟩:=DataW.trod_int D4 hx;exact⟨[.sc (.int k v)],by simp[eV,TR,oneCell],.one ⟨v,rfl,hw⟩ .nil,λK=>by simp[lU,oY,K.int]⟩;rename_i D4;cases hsh;obtain⟨v,rfl,rfl⟩:=DataW.trod_bool D4 hx;exact⟨[.sc (.bool v)],by simp[eV,TR,oneCell],.one ⟨v,rfl⟩ .nil,λK=>by simp[lU,oY,K.bool]⟩;rename_i D4;cases hsh;obtain⟨v,rfl,rfl,hw⟩:=DataW.trod_string D4 hx;exact⟨[.sc (.string v)],by simp[eV,TR,oneCell],.one ⟨v,rfl,hw⟩ .nil,λK=>by simp[lU,oY,K.str]⟩;cases hsh) fs.toList xs 0 r h1 (by simpa using hxs) (λ i f x hi hxi=>by have hi':fs[i]? =some f:=(by simpa using hi);rw[hf i f hi',hxi]);rw[List.drop_zero,take_of_length_le (by omega)]at g1;refine⟨ts,g1,g2,?_,λK=>by have:=k1 K;rw[K.agg];omega⟩;rw[eV.length _ _ g1];omega;cases h2;cases hm
 have rl:row.length=P.cellsOf e/\0<row.length:=by unfold T4 at hm;split at hm;simp only[ah]at hm;obtain⟨r,h1,h2⟩:=hm;split at h2;rename_i hr;cases h2;exact hr;cases h2;cases hm
 rcases DataW.trod_slice hk hx with ⟨rfl,rfl⟩|⟨a,len,cap,elems,ae,m,hfm,rfl,rfl,_,hl,hmx,hlen,hel,_,_⟩;refine⟨.sl [],?_,.mk [] (by simp[maxLen]) .nil,λK=>by simp[oY,Ak,K.nil]⟩;simp only[eV,TR];exact⟨.inl ⟨trivial,none,0,rfl,λ_=>rfl⟩,trivial⟩;have each:∀i,i<len->∃uA y,w.cells? 0 (a.add (i*P.cellsOf e)) (P.cellsOf e)=some uA/\DataW.trod enc P w 0 sp held m e uA=some y/\elems[i]? =some y:=by intro i hi;have h3:=hel i hi;have h6:elems[i]? =some (elems[i]'(by omega)):=dP (by omega);rw[h6,ah]at h3;obtain⟨uA,h4,h5⟩:=h3;exact⟨uA,_,h4,h5,h6⟩
 by_cases h0:len=0;subst h0;refine⟨.sl [],?_,.mk [] (by simp[maxLen]) .nil,λK=>by simp[oY,Ak,K.sl]⟩;simp only[eV,TR];exact⟨.inl ⟨trivial,some a,cap,rfl,λh=>by cases h⟩,trivial⟩;obtain⟨cs0,y0,c0,_,_⟩:=each 0 (by omega);obtain⟨_,c1,c2⟩:=World.cells?_some c0;have c3:=c2 0 (by omega);rw[dP (by omega)]at c3;have c4:=QB c3;simp[Nat.zero_mul,Addr.add,if_true]at c4;obtain⟨b,aa,s⟩:=a;simp at c4;obtain⟨rfl,hb⟩:=c4;have rows:∀q j,j+q=len->∃rows:U (List Tree),rows.length=q/\cC w (Here w) rows b (aa+j*P.cellsOf e) (P.cellsOf e)/\p6 row rows/\∀K:Bk H,Ak rows<=K.a ((elems.map (·.1)).drop j):=by
  intro q
  induction q with
  |zero=>intro j _;exact⟨[],rfl,by simp[cC],.nil,λK=>by simp[Ak]⟩
  |succ q ihq=>
   intro j hj;obtain⟨rows,g1,g2,g3,k3⟩:=ihq (j+1) (by omega);obtain⟨csj,y,g4,g5,gy⟩:=each j (by omega);obtain⟨ts,g6,g7,_,k6⟩:=one m (by omega) _ _ g5;obtain⟨_,g8,g9⟩:=World.cells?_some g4;refine⟨ts::rows,by simp[g1],?_,.cons g7 g3,λK=>by have:=k3 K;have:=k6 K;rw[K.drop gy,Ak];omega⟩;simp[cC];refine⟨(eV.length _ _ g6).trans g8,acG _ _ _ _ g6 λi hi=>?_,?_⟩;rw[<- g9 i (by omega),addr_add,addr_add];rw[show aa+j*P.cellsOf e+P.cellsOf e=aa+(j+1)*P.cellsOf e by rw[Nat.add_mul];omega];exact g2
 obtain⟨rows,g1,g2,g3,k3⟩:=rows len 0 (by omega);refine⟨.sl rows,?_,.mk rows (by omega) g3,λK=>by have:=k3 K;rw[List.drop_zero]at this;rw[K.sl,oY];omega⟩;simp only[eV,TR];exact⟨.inr ⟨b,aa,cap,P.cellsOf e,by rw[g1],by omega,hb,by simpa using g2⟩,trivial⟩
theorem EG{cut:U TypeId}:∀(n:Nat)(t:TypeId)(sh:U CS),C6 P cut n t=some sh->∀(fuel:Nat)(cs:U Value)(x:DataW H×List MemPlace),DataW.trod enc P w 0 sp held fuel t cs=some x->W8 P t x->
 ∃ts,eV w (Here w) ts cs/\ed sh ts/\∀K:Bk H,lU ts<=K.b x.1
 | 0,_,_,h,_,_,_,_,_=>by trivial
 |n+1,t,sh,h,fuel,cs,x,hx,hz=>by
  unfold C6 at h;split at h;rename_i k hk;cases h;obtain⟨v,rfl,rfl,hw⟩:=DataW.trod_int hk hx;exact⟨[.sc (.int k v)],by simp[eV,TR,oneCell],by simp only[ed,Fit];exact⟨⟨v,rfl,hw⟩,trivial⟩,λK=>by simp[lU,oY,K.int]⟩;rename_i hk;cases h;obtain⟨v,rfl,rfl⟩:=DataW.trod_bool hk hx;exact⟨[.sc (.bool v)],by simp[eV,TR,oneCell],by simp only[ed,Fit];exact⟨⟨v,rfl⟩,trivial⟩,λK=>by simp[lU,oY,K.bool]⟩;rename_i hk;cases h;obtain⟨v,rfl,rfl,hw⟩:=DataW.trod_string hk hx;exact⟨[.sc (.string v)],by simp[eV,TR,oneCell],by simp only[ed,Fit];exact⟨⟨v,rfl,hw⟩,trivial⟩,λK=>by simp[lU,oY,K.str]⟩;rename_i e hk;split at h;split at h;rename_i row hmr;cases h;have⟨tr,g1,g2,k1⟩:=aoj hk hmr fuel cs x hx;exact⟨[tr],g1,by simp only[ed,Fit];exact⟨g2,trivial⟩,λK=>by have:=k1 K;simp only[lU];omega⟩;cases h;rcases DataW.trod_slice hk hx with ⟨rfl,rfl⟩|⟨a,len,cap,elems,ae,m,_,rfl,rfl,_,hl,hm,hlen,hel,_,_⟩;exact⟨[.sc (.slice none 0 0)],by simp[eV,TR,oneCell],by simp[ed,Fit],λK=>by simp[lU,oY,K.nil]⟩;exact⟨[.sc (.slice (some a) len cap)],by simp[eV,TR,oneCell],by simp[ed,Fit],λK=>by simp[lU,oY,K.sl]⟩;simp only[ah]at h;obtain⟨r,h1,h2⟩:=h;split at h2;rename_i hr;cases h2;rcases DataW.trod_slice hk hx with ⟨rfl,rfl⟩|⟨a,len,cap,elems,ae,m,_,rfl,rfl,_,hl,hm,hlen,hel,_,_⟩;refine⟨[.sl []],?_,by simp only[ed,Fit];exact⟨⟨[],rfl,by simp[maxLen],by simp⟩,trivial⟩,λK=>by simp[lU,oY,Ak,K.nil]⟩;simp only[eV,TR];exact⟨.inl ⟨trivial,none,0,rfl,λ_=>rfl⟩,trivial⟩;have hzw:∀k,k=(elems.length+ae.length)*P.bytesOf e\/k∈DataW.weightsAll P e (elems.map (·.1))->k<=reachBytes:=by intro k hkk;refine hz k ?_;simp only[DataW.weights,hk,aL,bF,length_map];rcases hkk with h|h;exact .inl h;exact .inr (.inl h)
  have each:∀i,i<len->∃uA y,w.cells? 0 (a.add (i*P.cellsOf e)) (P.cellsOf e)=some uA/\DataW.trod enc P w 0 sp held m e uA=some y/\W8 P e y/\elems[i]? =some y:=by intro i hi;have h3:=hel i hi;have h6:elems[i]? =some (elems[i]'(by omega)):=dP (by omega);rw[h6,ah]at h3;obtain⟨uA,h4,h5⟩:=h3;exact⟨uA,_,h4,h5,λk hk=>hzw k (.inr (zq (mem_map.2 ⟨_,List.getElem_mem (by omega),rfl⟩) k hk)),h6⟩
  have hbytes:len*S7 r<=reachBytes:=by have h1:=hzw _ (.inl rfl);have h2:len*S7 r<=(elems.length+ae.length)*P.bytesOf e:=Nat.mul_le_mul (by omega) hr.2.2;omega
  by_cases h0:len=0;subst h0;refine⟨[.sl []],?_,by simp only[ed,Fit];exact⟨⟨[],rfl,by simp[maxLen],by simp⟩,trivial⟩,λK=>by simp[lU,oY,Ak,K.sl]⟩;simp only[eV,TR];exact⟨.inl ⟨trivial,some a,cap,rfl,λh=>by cases h⟩,trivial⟩;obtain⟨cs0,y0,c0,_,_,_⟩:=each 0 (by omega);obtain⟨_,c1,c2⟩:=World.cells?_some c0;have c3:=c2 0 (by omega);rw[dP (by omega)]at c3;have c4:=QB c3;simp[Nat.zero_mul,Addr.add,if_true]at c4;obtain⟨b,aa,s⟩:=a;simp at c4;obtain⟨rfl,hb⟩:=c4;have rows:∀m j,j+m=len->∃rows:U (List Tree),rows.length=m/\cC w (Here w) rows b (aa+j*P.cellsOf e) (P.cellsOf e)/\(∀ x∈rows,ed r x)/\∀K:Bk H,Ak rows<=K.a ((elems.map (·.1)).drop j):=by
   intro m
   induction m with
   |zero=>intro j _;exact⟨[],rfl,by simp[cC],by simp,λK=>by simp[Ak]⟩
   |succ m ih=>
    intro j hj;obtain⟨rows,g1,g2,g3,k3⟩:=ih (j+1) (by omega);obtain⟨csj,y,g4,g5,g5z,gy⟩:=each j (by omega);obtain⟨ts,g6,g7,k6⟩:=EG n e r h1 _ _ _ g5 g5z;obtain⟨_,g8,g9⟩:=World.cells?_some g4;refine⟨ts::rows,by simp[g1],?_,λx hx=>?_,λK=>by have:=k3 K;have:=k6 K;rw[K.drop gy,Ak];omega⟩;simp[cC];refine⟨(eV.length _ _ g6).trans g8,acG _ _ _ _ g6 λi hi=>?_,?_⟩;rw[<- g9 i (by omega),addr_add,addr_add];rw[show aa+j*P.cellsOf e+P.cellsOf e=aa+(j+1)*P.cellsOf e by rw[Nat.add_mul];omega];exact g2;rcases aL.1 hx with rfl|hx;exact g7;exact g3 x hx
  obtain⟨rows,g1,g2,g3,k3⟩:=rows len 0 (by omega);refine⟨[.sl rows],?_,by simp only[ed,Fit];exact⟨⟨rows,rfl,⟨by omega,by rw[g1];exact hbytes⟩,g3⟩,trivial⟩,λK=>by have:=k3 K;rw[List.drop_zero]at this;rw[K.sl];simp[lU,oY];omega⟩;simp only[eV,TR];exact⟨.inr ⟨b,aa,cap,P.cellsOf e,by rw[g1],by omega,hb,by simpa using g2⟩,trivial⟩;cases h2;rename_i fs hk;simp only[ah]at h;obtain⟨r,h1,h2⟩:=h;split at h2;rename_i hr;injection h2 with h2;subst h2;obtain⟨xs,m,_,rfl,hl,hxs,hf⟩:=DataW.trod_struct hk hx;obtain⟨ts,g1,g2,k1⟩:=SY m cs (C6 P cut n) (λ t sh hsh cs x hx hz=>EG n t sh hsh m cs x hx hz) fs.toList xs 0 r h1 (by simpa using hxs) (λ i f x hi hxi=>by have hi':fs[i]? =some f:=(by simpa using hi);have:=hf i f hi';rw[hxi]at this;refine⟨this,λk hk'=>hz k ?_⟩;simp[DataW.weights,hk];exact DataW.weights_mem_each (j:=i) (t:=f.type) (d:=x.1) (by simp[hi']) (by simp[hxi]) k hk');refine⟨ts,?_,g2,λK=>by have:=k1 K;rw[K.agg];omega⟩;rw[List.drop_zero,take_of_length_le (by omega)]at g1;exact g1;cases h2;rename_i m e hk;simp only[ah]at h;obtain⟨r,h1,h2⟩:=h;split at h2;rename_i hr;cases h2;obtain⟨xs,q,_,rfl,hl,hxs,hf⟩:=DataW.trod_array hk hx;have part:∀i j,j+i=m->∃ts,eV w (Here w) ts (cs.drop (j*P.cellsOf e))/\ed (List.replicate i r).flatten ts/\∀K:Bk H,lU ts<=K.a ((xs.map (·.1)).drop j):=by
   intro i
   induction i with
   |zero=>
    intro j hj;refine⟨[],?_,by simp[ed],λK=>by simp[lU]⟩;have:j=m:=(by omega);subst this;rw[List.drop_of_length_le (by rw[hl,<- hr.2,<- hr.1];omega)];simp[eV]
   |succ i ih=>
    intro j hj;obtain⟨ts,g1,g2,k1⟩:=ih (j+1) (by omega);have:=hf j (by omega);have hxj:xs[j]? =some (xs[j]'(by omega)):=dP (by omega);rw[hxj]at this;obtain⟨ts0,g3,g4,k3⟩:=EG n e r h1 _ _ _ this (λ k hk'=>hz k (by simp[DataW.weights,hk];exact zq (mem_map.2 ⟨_,List.getElem_mem (by omega),rfl⟩) k hk'));refine⟨ts0++ts,?_,?_,λK=>by have:=k1 K;have:=k3 K;rw[K.drop hxj,AY];omega⟩;have:=eV.append _ _ g3 g1;rw[show (j+1)*P.cellsOf e=j*P.cellsOf e+P.cellsOf e by rw[Nat.add_mul];omega,<- List.drop_drop,List.take_append_drop]at this;exact this;exact ed.append _ _ g4 g2
  obtain⟨ts,g1,g2,k1⟩:=part m 0 (by omega);exact⟨ts,by simpa using g1,g2,λK=>by have:=k1 K;rw[List.drop_zero]at this;rw[K.agg];omega⟩;cases h2;cases h
inductive VS where
 |one (c:CS)
 |agg (cs:List CS)
def PQ(P:Ξ)(cut:U TypeId)(t:Θ):J VS:=
 (C6 P cut 12 t).bind λsh=>match P.underlying t with
  |some (.struct _)|some (.array _ _)=>some (.agg sh)
  |_=>match sh with
   |[c]=>some (.one c)
   |_=>none
def HO:VS->TV->Prop
 |.one c,x=>∃y,x=.s y/\Fit c y
 |.agg cs,x=>∃ys,x=.a ys/\ed cs ys
def WS:U VS->U TV->Prop
 |[],[]=>True
 |s::ss,x::xs=>HO s x/\WS ss xs
 |_,_=>False
def RW:TV->Nat
 |.s y=>oY y
 |.a ys=>lU ys
def C0:U TV->Nat
 |[]=>0
 |x::xs=>RW x+C0 xs
theorem amb{cut:U TypeId}{t:Θ}{s:VS}{v:Ψ}{d:DataW H}{ps:U MemPlace}{b0:Nat}(hs:PQ P cut t=some s)(hval:Value.okWide P w .any b0 t v)(hd:DataW.Trod enc P w 0 sp held t v d ps)(hz:∀k∈d.weights P t,k<=reachBytes):
 ∃x,vd w (Here w) x v/\HO s x/\∀K:Bk H,RW x<=K.b d:=by
 obtain⟨fuel,hf⟩:=hd;simp[PQ,ah]at hs;obtain⟨sh,h1,h2⟩:=hs;obtain⟨ts,g1,g2,k1⟩:=EG 12 t sh h1 _ _ _ hf hz;have hag:∀cs:Array Value,v=.agg cs->s=.agg sh->∃x,vd w (Here w) x v/\HO s x/\∀K:Bk H,RW x<=K.b d:=by rintro cs rfl rfl;exact⟨.a ts,⟨cs,rfl,by trivial⟩,⟨ts,rfl,g2⟩,k1⟩
 unfold Value.okWide at hval;split at h2;rename_i hu;injection h2 with h2;rw[hu]at hval;obtain⟨cs,rfl,_⟩:=hval;exact hag cs rfl h2.symm;rename_i hu;injection h2 with h2;rw[hu]at hval;obtain⟨cs,rfl,_⟩:=hval;exact hag cs rfl h2.symm;split at h2;cases h2;have hone:v.cells.toList=[v]:=by
  cases hu:P.underlying t with
  |none=>simp_all [hu,Cell.okWide,Cell.ok]
  |some d=>
   rw[hu]at hval;cases v<;>first|rfl|(exfalso;revert hval;cases d<;>simp_all [Cell.okWide,Cell.ok])
 rw[hone]at g1
 match ts,g1,g2,k1 with
 |[y],g1,g2,k1=>
  simp only[ed]at g2;exact⟨.s y,g1.1,⟨y,rfl,g2.1⟩,λK=>by have:=k1 K;simpa[lU,RW]using this⟩
 |[],g1,_,_=>exact g1.elim
 |_::_::_,g1,_,_=>exact g1.2.elim
 cases h2
theorem aa1{cut:U TypeId}:∀{ts:U TypeId}{ss:U VS}{vs:U Value}{ds:U (DataW H)}{ps:U MemPlace}{b0:Nat},ts.mapM (PQ P cut)=some ss->
 (∀ (j:Nat) t v,ts[j]? =some t->vs[j]? =some v->Value.okWide P w .any b0 t v)->DataW.TrodAll enc P w 0 sp held ts vs ds ps->(∀ k∈DataW.weightsEach P ts ds,k<=reachBytes)->∃xs,oc w (Here w) xs vs/\WS ss xs/\∀K:Bk H,C0 xs<=K.a ds
 |[],ss,vs,ds,ps,b0,hs,_,hd,_=>by obtain⟨rfl,rfl,rfl⟩:=trodAll_nil hd;simp at hs;subst hs;exact⟨[],trivial,trivial,λK=>by simp[C0]⟩
 |t::ts,ss,vs,ds,ps,b0,hs,hval,hd,hz=>by obtain⟨v,vs',d,ds',p,q,rfl,rfl,rfl,h0,r0⟩:=trodAll_cons hd;simp[ah]at hs;obtain⟨s,h1,ss',h2,rfl⟩:=hs;obtain⟨x,g1,g2,k1⟩:=amb h1 (hval 0 t v rfl rfl) h0 (λ k hk=>hz k (by grind [DataW.weightsEach]));obtain⟨xs,g3,g4,k2⟩:=aa1 h2 (λ j t v h h'=>hval (j+1) t v h h') r0 (λ k hk=>hz k (by grind [DataW.weightsEach]));exact⟨x::xs,⟨g1,g3⟩,⟨g2,g4⟩,λK=>by have:=k1 K;have:=k2 K;rw[C0,K.a1];omega⟩
theorem S9{β:ζ}{I:Φ}:∀(xs:U TV)(vs:U Value),oc w I xs vs->bp P β w I (xs.map TV.av) vs
 |[],[],_=>by trivial
 |x::xs,v::vs,h=>by
  refine⟨?_,S9 xs vs h.2⟩;have h1:=h.1;cases x with
  |s y=>trivial
  |a cs=>
   obtain⟨us,rfl,h2⟩:=h1;refine⟨us,rfl,?_⟩;have:∀(cs:U Tree) (us:U Value),eV w I cs us->bp P β w I (cs.map AV.t) us:=by
    intro cs
    induction cs with
    |nil=>intro us h;cases us<;>first|trivial|grind
    |cons c cs ih=>intro us h;cases us with
     |nil=>trivial
     |cons u us=>simp;exact⟨h.1,ih us h.2⟩
   grind
 |[],_::_,h|_::_,[],h=>h.elim
end
section
variable {H:Type} {enc:TypeId×Value->H} {P:Program}
theorem ahq{f:Func}{s:ChangeSpec}{apart fresh handsOn again:Bool}{W W':Δ}{args:η}{v:Ψ}{ds gs:U (DataW H)}{before pa pv:U MemPlace}
 (hW:DataW.Whole enc P f.params.toList s.vars apart W args.toList ds gs before)
 (hres:∀(b:Nat)(sp:Nat->Bool)(hd:Bool),DataW.TrodAll enc P W' b sp hd f.resultTypes.toList (v.resultList f.resultTypes.size) (s.fn H (ds++gs)).results [])
 (hargs:∀sp:Nat->Bool,(∀ p∈before,sp p.block=true)->DataW.TrodAll enc P W' 0 sp true f.params.toList args.toList (s.fn H (ds++gs)).args pa)
 (hvars:∀sp:Nat->Bool,(∀ p∈before,sp p.block=true)->DataW.TrodVars enc P W' sp s.vars (s.fn H (ds++gs)).vars pv)
 (hps:before=pa++pv) (hb:Below W.heap.size W W')
 (hok:∀(j:Nat)(t:TypeId)(r:Value),f.resultTypes[j]? =some t->(v.resultList f.resultTypes.size)[j]? =some r->Value.okWide P W' .any 0 t r):
 s.post enc P f apart fresh handsOn again W args v W':=by
 have hlt:∀p∈before,p.block<W.heap.size:=λp hp=>hW.lt p hp;have hold:∀p∈before,(λ b=>decide (b<W.heap.size)) p.block=true:=λp hp=>by simpa using hlt p hp
 refine⟨ds,gs,before,[],pa,pv,hW,hres _ _ _,hargs _ hold,hvars _ hold,World.keptBut_mono (λ p hp=>⟨hp,?_⟩) (hb.frame (· ∈before)),λ_=>?_⟩;rw[hps,bF]at hp;exact Or.inr hp;obtain⟨_,_,_,_,_,hz,hn⟩:=hW;refine⟨hok,_,_,([]++pa)++pv,⟨[]++pa,pv,trodAll_append (hargs _ (λ _ _=>rfl)) (hres _ _ _),hvars _ (λ _ _=>rfl),rfl,?_,?_⟩,?_⟩;intro b aa hp;have hin:MemPlace.cell b aa∈before:=by rw[hps];simpa using hp
 rw[hb.frozen (hlt _ hin)];exact hz b aa hin;intro ha;have:=hn ha;rw[hps]at this;simpa using this;intro p hp _;rw[hps];simpa using hp
theorem Lh(hl:laidOutB P=true){W W':Δ}(hb:Below W.heap.size W W'):∀{ts:U TypeId}{vs:U Value}{ds:U (DataW H)}{ps:U MemPlace},(∀ t∈ts,P.readableRec t=true/\t<P.types.size)->
 DataW.TrodAll enc P W 0 (λ _=>true) true ts vs ds ps->(∀ x∈ps,x.block<W.heap.size)->∀sp:Nat->Bool,(∀ p∈ps,sp p.block=true)->DataW.TrodAll enc P W' 0 sp true ts vs ds ps
 |[],vs,ds,ps,_,hd,_,sp,_=>by obtain⟨rfl,rfl,rfl⟩:=trodAll_nil hd;exact trodAll_mk0
 |t::ts,vs,ds,ps,ht,hd,hlt,sp,hsp=>by
  obtain⟨v,vs',d,ds',p,q,rfl,rfl,rfl,h0,r0⟩:=trodAll_cons hd;obtain⟨h1,h2⟩:=ht t (by simp)
  exact trodAll_cons_mk (WideElems.Trod_stays hl h1 h2 h0 (λ x hx=>hb.same (hlt x (by simp[hx]))) (λ x hx=>hsp x (by simp[hx])))
   (Lh hl hb (λ t ht'=>ht t (by simp[ht'])) r0 (λ x hx=>hlt x (by simp[hx])) sp (λ x hx=>hsp x (by simp[hx])))
theorem Ta{w:Δ}{base:Nat}{sp:Nat->Bool}{held:Bool}:∀{ts:U TypeId}{vs:U Value}{ds:U (DataW H)}{ps:U MemPlace},DataW.TrodAll enc P w base sp held ts vs ds ps->ds.length=ts.length
 |[],_,_,_,h=>by obtain⟨_,rfl,_⟩:=trodAll_nil h;rfl
 |_::_,_,_,_,h=>by obtain⟨_,_,_,_,_,_,_,rfl,_,_,h2⟩:=trodAll_cons h;simp[Ta h2]
theorem aeG:∀{ts:U TypeId}{ds:U (DataW H)}{vt:U TypeId}{gs:U (DataW H)},ds.length=ts.length->∀k∈DataW.weightsEach P ts ds,k∈DataW.weightsEach P (ts++vt) (ds++gs)
 |[],[],_,_,_,k,h=>by simp[DataW.weightsEach]at h
 |t::ts,d::ds,vt,gs,hl,k,h=>by simp[DataW.weightsEach]at h ⊢;rcases h with h|h;exact .inl h;exact .inr (aeG (by simpa using hl) k h)
 |[],_::_,_,_,h,_,_|_::_,[],_,_,h,_,_=>by simp at h
theorem acH{cut:U TypeId}{C:Checked}{f:FuncId}{fn:Func}{s:ChangeSpec}{ss:U VS}{tb:Θ}(hl:laidOutB C.prog=true)(hread:(fn.params.toList.all λt=>C.prog.readableRec t&&decide (t<C.prog.types.size))=true)
 (hss:fn.params.toList.mapM (PQ C.prog cut)=some ss) (hvars:s.vars=[]) (hres:fn.resultTypes=#[tb]) (hb:C.prog.underlying tb=some .bool)
 (hs:∀ds:U (DataW H),ds.length=fn.params.toList.length->s.fn H ds={ results:=[.lit (.bool true)],args:=ds })
 {B:Φ} (arM:∀xs,WS ss xs->(∀ n,B n->C0 xs<=n)->tR C.prog f (xs.map TV.av) (.one (.d (.s (.sc (.bool true))))))
 {W:Δ} {base:Nat} {args:η} {ds gs:U (DataW H)} {before:U MemPlace}
 (hval:∀(j:Nat) t v,fn.params[j]? =some t->args[j]? =some v->Value.okWide C.prog W .any base t v)
 (hW:DataW.Whole enc C.prog fn.params.toList s.vars false W args.toList ds gs before)
 {vt:U TypeId} (hz:(DataW.weightsEach C.prog (fn.params.toList++vt) (ds++gs)).all (· <=reachBytes)=true) (hv:k5 W (Here W)) (hB:∀n,B n->∃K:Bk H,K.a ds<=n):
 Calls C.prog f args W λe W'=>∃v,e=.returned v/\s.post enc C.prog fn false true false false W args v W':=by
 have hW':=hW;obtain⟨p,q,hA,hV,rfl,_,_⟩:=hW;rw[hvars]at hV;obtain⟨rfl,rfl⟩:=trodVars_none hV;have hlen:=Ta hA;obtain⟨xs,g1,g2,g3⟩:=aa1 hss (λ j t v h1 h2=>hval j t v (by simpa using h1) (by simpa using h2)) hA (λ k hk=>by have:=all_eq_true.1 hz k (aeG hlen k hk);simpa using this);simp at hW';have hlt:∀x∈p,x.block<W.heap.size:=λx hx=>hW'.lt x hx;refine((arM xs g2 (λ n hn=>by have⟨K,hK⟩:=hB n hn;exact Nat.le_trans (g3 K) hK)).2 W (Here W) args (λ _ h=>h) hv (S9 _ _ g1)).mono λe W' ⟨v,I',he,hbel,_,_,_,hr⟩=>⟨v,he,?_⟩;simp[sg]at hr;obtain⟨rfl,_⟩:=hr;have hfn:s.fn H (ds++[])={ results:=[.lit (.bool true)],args:=ds }:=by rw[append_nil];exact hs ds hlen
 refine ahq (pa:=p) (pv:=[]) hW' (λ b sp hd=>?_) (λ sp hsp=>?_) (λ sp _=>?_) (by simp) hbel (ok_one (by rw[hres]) rfl (okWide_bool_mk hb _));rw[hfn,hres];exact trodAll_mk1 (shut_bool hb _);rw[hfn];refine Lh hl hbel (λ t ht=>?_) hA hlt sp hsp;have:=all_eq_true.1 hread t ht;simpa using this;rw[hfn,hvars];rfl
end
def apN:C2->TypeDesc->Bool
 |.slice e,.slice e'=>e==e'
 |.arr n e,.array n' e'=>n==n'&&e==e'
 |.struct fs,.struct fa=>fa.toList.map (λ f=>(f.offset,f.type))==fs
 |.bool,.bool=>true
 |.str,.string=>true
 |.int k,.int k'=>k==k'
 |.map k e,.map k' e'=>k==k'&&e==e'
 |.other,_=>true
 |_,_=>false
def amc:Value->Value->Bool
 |.int k a,.int k' b=>k==k'&&a==b
 |.bool a,.bool b=>a==b
 |.string a,.string b=>decide (a=b)
 |.slice none 0 0,.slice none 0 0=>true
 |.pointer none,.pointer none=>true
 |.nilFunc,.nilFunc=>true
 |.nilIface,.nilIface=>true
 |.map none,.map none=>true
 |_,_=>false
theorem aeH{a b:Ψ}(h:amc a b=true):a=b:=by unfold amc at h;split at h<;>simp_all
def WT:U Value->U Value->Bool
 |[],[]=>true
 |a::as,b::bs=>amc a b&&WT as bs
 |_,_=>false
theorem Nu:∀{a b:U Value},WT a b=true->a=b
 |[],[],_=>rfl
 |a::as,b::bs,h=>by simp[WT]at h;rw[aeH h.1,Nu h.2]
 |[],_::_,h|_::_,[],h=>by simp[WT]at h
def amd(P:Ξ)(t:Θ)(ti:p5):Bool:=
 match P.info? t,P.underlying t with
 |some info,some d=>match info.zero with
  |some z=>info.size==ti.size&&info.bytes==ti.bytes&&tz d==ti.agg&&apN ti.k d&&ti.zero.all km&&ti.zero.length==ti.size&&
   (ti.cmp.isEmpty || match d with
    |.struct fa=>!P.stoodInHeld t&&!P.eqGuardType P.depth t&&fx P 99 0 fa.toList ti.cmp
    |.array _ _=>ti.cmp==[9]&&!P.eqGuardType P.depth t
    |_=>false)&&WT z.cells.toList ti.zero&&tS ti.agg z
  |none=>false
 |_,_=>false
theorem ahr{k:C2}{d:TypeDesc}(h:apN k d=true):kOk k d:=by unfold apN at h;split at h;simp at h;subst h;rfl;simp at h;obtain⟨rfl,rfl⟩:=h;rfl;rename_i fs fa;exact⟨fa,rfl,by simpa using h⟩;rfl;rfl;simp at h;subst h;rfl;simp at h;obtain⟨rfl,rfl⟩:=h;rfl;trivial;cases h
theorem aeI{P:Ξ}{t:Θ}{ti:p5}(h:amd P t ti=true):my P t ti:=by
 unfold amd at h;split at h;rename_i info d h1 h2;split at h
 .rename_i z h3;simp only[aX,beq_iff_eq]at h;obtain⟨⟨⟨⟨⟨⟨⟨⟨a1,a2⟩,a3⟩,a4⟩,a5⟩,a6⟩,a7⟩,a8⟩,a9⟩:=h;refine⟨⟨info,d,z,h1,h2,a1,a2,h3,Nu a8,a3,ahr a4⟩,a5,a6,λinfo' z' e1 e2=>by rw[h1]at e1;cases e1;rw[h3]at e2;cases e2;exact a9,λhne=>?_⟩
  all_goals grind
 cases h;cases h
def WU(l:U (TypeId×p5)):en:=λt=>(l.find? λp=>p.1==t).map (·.2)
theorem ame{P:Ξ}{l:U (TypeId×p5)}(h:(l.all λp=>amd P p.1 p.2)=true):fB P (WU l):=by intro t ti ht;simp only[WU,iE]at ht;obtain⟨p,hp,rfl⟩:=ht;have h1:=List.find?_some hp;simp at h1;subst h1;exact aeI (all_eq_true.1 h p (List.mem_of_find?_eq_some hp))
inductive CT(ι:Type) where
 |int (k:IntKind)
 |bool
 |str
 |sl (e:CT ι)
 |st (i:ι)
 |any
 |mp (k v:CT ι)
 deriving DecidableEq
structure SE where
 ι:Type
 dec:DecidableEq ι
 T:ι->Type
 row:(i:ι)->T i->List Tree
instance (E:SE):DecidableEq E.ι:=E.dec
section
variable (E:SE)
@[reducible] def CT.T:CT E.ι->Type
 |.int _=>Int
 |.bool=>Bool
 |.str=>ByteArray
 |.sl e=>U (CT.T e)
 |.st i=>E.T i
 |.any=>Tree
 |.mp k v=>U (CT.T k×CT.T v)
def CT.row:(c:CT E.ι)->CT.T E c->U Tree
 |.int k,n=>[.sc (.int k n)]
 |.bool,b=>[.sc (.bool b)]
 |.str,s=>[.sc (.string s)]
 |.sl e,l=>[.sl (List.map (CT.row e) l)]
 |.st i,x=>E.row i x
 |.any,x=>[x]
 |.mp _ _,_=>[.sl []]
def CT.one{ι:Type}:CT ι->Bool
 |.st _=>false
 |_=>true
def CT.tv:(c:CT E.ι)->CT.T E c->TV
 |.int k,n=>.s (.sc (.int k n))
 |.bool,b=>.s (.sc (.bool b))
 |.str,s=>.s (.sc (.string s))
 |.sl e,l=>.s (.sl (List.map (CT.row E e) l))
 |.st i,x=>.a (E.row i x)
 |.any,x=>.s x
 |.mp _ _,_=>.s (.sl [])
def HL:U (CT E.ι)->Type
 |[]=>Unit
 |c::l=>CT.T E c×HL l
def HL.row:(l:U (CT E.ι))->HL E l->U Tree
 |[],_=>[]
 |c::l,h=>CT.row E c h.1++HL.row l h.2
def HL.pr:(l:U (CT E.ι))->HL E l->U TV
 |[],_=>[]
 |c::l,h=>CT.tv E c h.1::HL.pr l h.2
end
structure Arr(E:SE) where
 i:E.ι
 c:CT E.ι
 f:E.T i->List (CT.T E c)
 g:List (CT.T E c)->Option (E.T i)
structure SX extends SE where
 de:ι->List (CT ι)
 get:(i:ι)->T i->HL toSE (de i)
 make:(i:ι)->HL toSE (de i)->T i
 pj:∀i x,row i x=HL.row toSE (de i) (get i x)
 gS:∀i h,row i (make i h)=HL.row toSE (de i) h
 flat:∀i,(de i).all CT.one=true
 gv:Nat->Option ((c:CT ι)×CT.T toSE c)
 BY:∀g,(gv g).map (λ p=>CT.row toSE p.1 p.2)=(z6 g).map λr=>r.map Tree.sc
 ar:TypeId->Option (Arr toSE):=λ_=>none
 ar7:∀t a,ar t=some a->a.c.one=true/\(∀ x,row a.i x=((a.f x).map (CT.row toSE a.c)).flatten)/\∀l x,a.g l=some x->a.f x=l:=by intro t a h;cases h
section
variable (X:SX)
abbrev SX.C:=CT X.ι
abbrev SX.t(c:CT X.ι):Type:=CT.T X.toSE c
def CT.sz:CT X.ι->Nat
 |.st i=>(X.de i).length
 |_=>1
inductive DV where
 |c (t:CT X.ι) (x:CT.T X.toSE t)
 |agg (cs:List DV)
 |fm (vs:List DV)
 |own (k aa len:Nat)
 |ptr (k row aa:Nat)
 |rK (k:Nat) (n:Int) (aa:Nat)
 |ud (k row aa m:Nat) (n:Int)
 |rp (t:CT X.ι) (x:CT.T X.toSE t) (aa:Nat)
 |zd (t:CT X.ι) (x:CT.T X.toSE t) (aa m:Nat) (n:Int)
 |fn (f:FuncId) (first caps:List DV)
 |d7 (as:List (CT X.ι)) (r:CT X.ι) (φ:HL X.toSE as->Option (CT.T X.toSE r))
 |mp (k:Nat)
 |oz (k len:Nat)
 |raw (v:Value)
 |nil
 |ub
 |skip
 |undef
inductive bz where
 |cells (sz:Nat) (rows:List (List (DV X)))
 |ek (c:CT X.ι) (l:List (CT.T X.toSE c))
 |map (kc vc:CT X.ι) (l:List (CT.T X.toSE kc×CT.T X.toSE vc))
structure cM where
 env:List (Nat×DV X)
 obj:List (Nat×Option (bz X))
 nx:Nat
 log:List Nat
variable {X}
mutual
def den:DV X->AV
 |.c t x=>(CT.tv X.toSE t x).av
 |.agg cs=>.agg (bL cs)
 |.fm vs=>.fm (bL vs)
 |.own k aa len=>.own k aa len
 |.ptr k row aa=>.ptr k row aa
 |.rK k n aa=>.ptr k n.toNat aa
 |.ud k row aa _ n=>.ptr k row (aa+n.toNat)
 |.rp t x aa=>.eE (CT.row X.toSE t x) aa
 |.zd t x aa _ n=>.eE (CT.row X.toSE t x) (aa+n.toNat)
 |.fn f first caps=>.fn f (bL first) (bL caps)
 |.d7 as r φ=>.d7 λts u=>∃h x,φ h=some x/\ts=HL.pr X.toSE as h/\u=CT.tv X.toSE r x
 |.mp k=>.mp k
 |.oz k len=>.oz k len
 |.raw v=>cv v
 |.nil=>.cT
 |.ub=>.ub
 |.skip=>.undef
 |.undef=>.undef
def bL:List (DV X)->List AV
 |[]=>[]
 |x::xs=>den x::bL xs
end
theorem oP:∀l:U (DV X),bL l=l.map den
 |[]=>rfl
 |x::xs=>by simp[bL,oP xs]
def bP:bz X->aR
 |.cells sz rows=>⟨sz,rows.map bL⟩
 |.ek c l=>⟨CT.sz X c,aI (l.map (CT.row X.toSE c))⟩
 |.map kc vc l=>⟨l.length,l.map λp=>[(CT.tv X.toSE kc p.1).av,(CT.tv X.toSE vc p.2).av]⟩
def jH(u:U (Nat×Option (bz X))):U (Nat×Option aR):=u.map λp=>(p.1,p.2.map bP)
def gd(o:U (Nat×Option (bz X)))(k:Nat):J (bz X):=(lk o k).join
def ea(e:U (Nat×DV X))(t:Nat):DV X:=(lk e t).getD .undef
def cM.st(s:cM X):St:=⟨λ t=>den (ea s.env t),λk=>(gd s.obj k).map bP,λ_=>none⟩
def lV(a b:CT X.ι)(x:CT.T X.toSE a):J (CT.T X.toSE b):=
 match decEq a b with
 |isTrue h=>some (h ▸ x)
 |isFalse _=>none
theorem tC{a b:CT X.ι}{x:CT.T X.toSE a}{y:CT.T X.toSE b}(h:lV a b x=some y):∃e:a=b,y=e ▸ x:=by unfold lV at h;split at h;rename_i e _;injection h with h;exact⟨e,h.symm⟩;cases h
def HL.cells:(l:U (CT X.ι))->HL X.toSE l->U (DV X)
 |[],_=>[]
 |c::l,h=>.c c h.1::HL.cells l h.2
theorem row_one{c:CT X.ι}(h:c.one=true)(x:CT.T X.toSE c):∃t,CT.row X.toSE c x=[t]/\CT.tv X.toSE c x=.s t:=by cases c<;>first|exact⟨_,rfl,rfl⟩|cases h
theorem HL.ry:∀(l:U (CT X.ι))(h:HL X.toSE l),l.all CT.one=true->bL (HL.cells l h)=(HL.row X.toSE l h).map AV.t
 |[],_,_=>rfl
 |c::l,h,ha=>by simp only[all_cons,aX]at ha;obtain⟨t,h1,h2⟩:=row_one ha.1 h.1;simp[HL.cells,bL,den,HL.row,h1,h2,TV.av,HL.ry l h.2 ha.2]
theorem HL.pw:∀(l:U (CT X.ι))(h:HL X.toSE l),l.all CT.one=true->(HL.row X.toSE l h).length=l.length
 |[],_,_=>rfl
 |c::l,h,ha=>by simp only[all_cons,aX]at ha;obtain⟨t,h1,_⟩:=row_one ha.1 h.1;simp[HL.row,h1,HL.pw l h.2 ha.2]
theorem Iq(c:CT X.ι)(x:CT.T X.toSE c):(CT.row X.toSE c x).length=CT.sz X c:=by
 cases c<;>try rfl
 rename_i i;exact(congrArg List.length (X.pj i x)).trans (HL.pw _ _ (X.flat i))
def vQ:(c:CT X.ι)->CT.T X.toSE c->U (DV X)
 |.st i,x=>HL.cells (X.de i) (X.get i x)
 |c,x=>[.c c x]
theorem qh(c:CT X.ι)(x:CT.T X.toSE c):bL (vQ c x)=(CT.row X.toSE c x).map AV.t:=by
 cases c<;>try rfl
 rename_i i;exact(HL.ry _ _ (X.flat i)).trans (congrArg (List.map AV.t) (X.pj i x).symm)
def wH:DV X->Bool
 |.agg _|.fm _|.undef|.skip|.raw _|.c (.st _) _=>false
 |_=>true
theorem Td{x:DV X}(h:wH x=true):qg (den x)=true:=by
 cases x<;>try rfl
 case c t x=>cases t<;>first|rfl|simp[wH]at h
 all_goals simp[wH]at h
def cellsD:DV X->J (List (DV X))
 |.agg cs=>if cs.all wH then some cs else none
 |.c (.st i) x=>some (vQ (.st i) x)
 |.fm _|.undef|.skip|.raw _=>none
 |x=>some [x]
theorem ajv{l:U (DV X)}(h:l.all wH=true):(bL l).all qg=true:=by rw[oP,List.all_map,all_eq_true];exact λx hx=>Td (all_eq_true.1 h x hx)
theorem EH{x:DV X}{cs:U (DV X)}(h:cellsD x=some cs):cellsOf (den x)=some (bL cs):=by
 cases x
 case c t x=>
  cases t
  case st i=>
   simp[cellsD]at h;subst h;simp only[den,CT.tv,TV.av,cellsOf,qh];show(if ((X.row i x).map AV.t).all qg then some ((X.row i x).map AV.t)else none)=some ((X.row i x).map AV.t);rw[aY];rw[List.all_map,all_eq_true];exact λ_ _=>rfl
  all_goals simp[cellsD]at h;subst h;rfl
 case agg l=>
  simp only[cellsD]at h;split at h;cases h;simp only[den,cellsOf];rw[aY (ajv ‹_›)];cases h
 all_goals simp[cellsD]at h;try (subst h;rfl)
def xF:Value->DV X
 |.slice none 0 0=>.nil
 |.int k n=>.c (.int k) n
 |.bool b=>.c .bool b
 |.string s=>.c .str s
 |v=>.raw v
theorem ajw(v:Ψ):den (xF (X:=X) v)=cv v:=by unfold xF;split<;>rfl
theorem Df(l:U Value):bL (l.map (xF (X:=X)))=l.map cv:=by rw[oP,map_map];exact map_congr_left λv _=>ajw v
def ZX(env:Nat->DV X):Operand->DV X
 |.tmp t=>env t
 |.const v=>xF v
 |.global g=>match X.gv g with
  |some p=>.rp p.1 p.2 0
  |none=>.undef
 |.func f=>.fn f [] []
theorem WV(env:Nat->DV X)(x:Operand):den (ZX env x)=mL (λ t=>den (env t)) x:=by
 cases x with
 |global g=>
  have h:=X.BY g;simp[ZX,mL];cases h1:X.gv g with
  |none=>
   rw[h1]at h;cases h2:z6 g with
   |none=>rfl
   |some r=>rw[h2]at h;cases h
  |some p=>grind [den]
 |const v=>exact ajw _
 |tmp t|func f=>rfl
end
def bu{α:Type}(l:U α)(n:Int):J α:=bif decide (0<=n)then l[n.toNat]? else none
def sub{α:Type}(l:U α)(aa len:Nat):U α:=(l.drop aa).take len
def cz(n:Int)(len:Nat):Bool:=decide (0<=n)&&decide (n<(len:Int))
def jm{α β:Type}(a:α)(f:α->β):β:=f a
def bR(lo len ln n bytes:Nat):Bool:=decide (lo=len)&&decide (ln=n)&&decide ((len+n)*bytes<=140737488355328)&&decide (len+n<=maxLen)
def aE(a b:Nat):Bool:=decide (a=b)
def BM(l h:Int)(len:Nat):Bool:=decide (0<=l)&&decide (l<=h)&&decide (h<=(len:Int))
def WW(a b:ByteArray):Bool:=Op.bytesLess a.toList b.toList
def WX(a b:ByteArray):Bool:=decide (a.size+b.size<=maxLen)
abbrev iN(n:Int):Int:=n
abbrev bN(b:Bool):Bool:=b
def WY{A:Type}:U Bool->J A->J A
 |[],k=>k
 |c::cs,k=>bif c then WY cs k else none
section
variable {X:SX} {A:Type}
abbrev KK(X:SX)(A:Type):=DV X->U (Nat×Option (bz X))->U Nat->U Nat->J A
def amf(t:Bool)(x y:DV X):DV X:=
 match x,y with
 |.c a p,.c b q=>match decEq b a with
  |isTrue h=>.c a (bif t then p else h ▸ q)
  |isFalse _=>bif t then .c a p else .c b q
 |x,y=>bif t then x else y
def Ir(agg:Bool)(size:Nat)(cs:U (DV X)):J (DV X):=
 if cs.length=size then(if agg then some (.agg cs)else match cs with|[x]=>if wH x then some x else none|_=>none)else none
def T3(agg:Bool)(size:Nat)(c:CT X.ι)(y:CT.T X.toSE c)(aa:Nat):J (DV X):=
 match c,y with
 |.st i,y=>if aa=0/\agg=true/\size=(X.de i).length then some (.c (.st i) y)else Ir agg size (((vQ (.st i) y).drop aa).take size)
 |c,y=>Ir agg size (((vQ c y).drop aa).take size)
def LP(d:DV X)(c:CT X.ι):J (CT.T X.toSE c):=
 match d,c with
 |.c a x,c=>lV a c x
 |.nil,.sl _=>some []
 |.nil,.any=>some (.sl [])
 |_,_=>none
def EI:U (DV X)->(l:U (CT X.ι))->J (HL X.toSE l)
 |[],[]=>some ()
 |d::ds,c::l=>(LP d c).bind λx=>(EI ds l).bind λh=>some (x,h)
 |_,_=>none
def G2(d:DV X)(i:X.ι):J (CT.T X.toSE (.st i)):=
 match d with
 |.agg cs=>(EI cs (X.de i)).bind λh=>some (X.make i h)
 |.c a x=>lV a (.st i) x
 |_=>none
def dat(d:DV X)(c:CT X.ι):J (CT.T X.toSE c):=
 match c with
 |.st i=>G2 d i
 |c=>LP d c
def mk1(c:CT X.ι):U (DV X)->J (CT.T X.toSE c)
 |[d]=>LP d c
 |_=>none
def Nv(c:CT X.ι)(ds:U (DV X)):J (CT.T X.toSE c):=
 match c with
 |.st i=>(EI ds (X.de i)).bind λh=>some (X.make i h)
 |c=>mk1 c ds
def PP(r:U (DV X))(aa:Nat)(cs:U (DV X)):U (DV X):=r.take aa++cs++r.drop (aa+cs.length)
variable (T:en) (code:TypeId->Option (CT X.ι))
def ldD(t:Θ)(x:DV X)(get:Nat->J (bz X))(k:KK X A):J A:=
 (T t).bind λti=>match x with
 |.ptr kk row aa=>(get kk).bind λo=>match o with
  |.cells _ rows=>(rows[row]?).bind λr=>(Ir ti.agg ti.size ((r.drop aa).take ti.size)).bind λv=>k v [] [kk] []
  |_=>none
 |.rK kk n aa=>(get kk).bind λo=>match o with
  |.ek c l=>(bu l n).bind λy=>(T3 ti.agg ti.size c y aa).bind λv=>k v [] [kk] []
  |_=>none
 |.rp c y aa=>(T3 ti.agg ti.size c y aa).bind λv=>k v [] [] []
 |_=>none
def Ys(t:Θ)(x y:DV X)(get:Nat->J (bz X))(k:KK X A):J A:=
 (T t).bind λti=>(cellsD y).bind λcs=>if cs.length=ti.size then match x with
 |.ptr kk row aa=>(get kk).bind λo=>match o with
  |.cells sz rows=>(rows[row]?).bind λr=>if aa+cs.length<=r.length then k .undef [(kk,some (.cells sz (rows.set row (PP r aa cs))))] [kk] [kk]else none
  |_=>none
 |.rK kk n aa=>(get kk).bind λo=>match o with
  |.ek c l=>(bu l n).bind λy=>if aa+cs.length<=CT.sz X c then(Nv c (PP (vQ c y) aa cs)).bind λz=>k .undef [(kk,some (.ek c (l.set n.toNat z)))] [kk] [kk]else none
  |_=>none
 |_=>none else none
def LQ(t:Θ)(x:DV X)(f:Nat)(k:KK X A):J A:=
 (AO T t f).bind λp=>match x with
 |.ptr kk row aa=>k (.ptr kk row (aa+p.1)) [] [] []
 |.rK kk n aa=>k (.rK kk n (aa+p.1)) [] [] []
 |.rp c y aa=>k (.rp c y (aa+p.1)) [] [] []
 |_=>none
def aht(t:Θ)(x:DV X)(f:Nat)(k:KK X A):J A:=
 (AO T t f).bind λp=>match x with
 |.agg cs=>(Ir p.2.agg p.2.size ((cs.drop p.1).take p.2.size)).bind λv=>k v [] [] []
 |.c (.st i) y=>(Ir p.2.agg p.2.size (((vQ (.st i) y).drop p.1).take p.2.size)).bind λv=>k v [] [] []
 |_=>none
def LU(t:Θ)(x j:DV X)(get:Nat->J (bz X))(k:KK X A):J A:=
 (T t).bind λti=>match ti.k,j with
 |.slice e,.c (.int _) n=>(T e).bind λei=>match x with
  |.c (.sl c) l=>if CT.sz X c=ei.size then(bu l n).bind λy=>k (.rp c y 0) [] [] []else none
  |.own kk aa len=>(get kk).bind λo=>match o with
   |.ek c _=>if CT.sz X c=ei.size then bif cz n len then k (.rK kk ((aa:Int)+iN n) 0) [] [kk] []else none else none
   |.cells sz _=>if sz=ei.size then bif cz n len then k (.ptr kk (aa+n.toNat) 0) [] [kk] []else none else none
   |.map _ _ _=>none
  |_=>none
 |.arr m e,.c (.int _) n=>(T e).bind λei=>bif cz n m then match x with
  |.ptr kk row aa=>k (.ptr kk row (aa+n.toNat*ei.size)) [] [] []
  |.rK kk r aa=>k (.rK kk r (aa+n.toNat*ei.size)) [] [] []
  |.rp c y aa=>k (.rp c y (aa+n.toNat*ei.size)) [] [] []
  |_=>none
  else none
 |_,_=>none
def WZ(x:DV X)(j:Nat)(k:KK X A):J A:=
 match x with
 |.fm vs=>(vs[j]?).bind λv=>k v [] [] []
 |_=>none
def Iu(op:BinOp)(kd:IntKind)(a b:Int):(DV X)×Option Bool:=
 match op with
 |.add=>(.c (.int kd) (kd.wrap (a+b)),none)
 |.sub=>(.c (.int kd) (kd.wrap (a-b)),none)
 |.mul=>(.c (.int kd) (kd.wrap (a*b)),none)
 |.quo=>(.c (.int kd) (kd.wrap (a.tdiv b)),some (b !=0))
 |.rem=>(.c (.int kd) (a.tmod b),some (b !=0))
 |.and=>(.c (.int kd) (bits .and kd a b),none)
 |.or=>(.c (.int kd) (bits .or kd a b),none)
 |.xor=>(.c (.int kd) (bits .xor kd a b),none)
 |.andNot=>(.c (.int kd) (bits .andNot kd a b),none)
 |.shl=>(.c (.int kd) (kd.wrap (a*2 ^ b.toNat)),some (decide (0<=b)&&decide (b<=kd.bits)))
 |.shr=>(.c (.int kd) (a/2 ^ b.toNat),some (decide (0<=b)&&decide (b<=kd.bits)))
 |.eql=>(.c .bool (a==b),none)
 |.neq=>(.c .bool (a !=b),none)
 |.lss=>(.c .bool (decide (a<b)),none)
 |.leq=>(.c .bool (decide (a<=b)),none)
 |.gtr=>(.c .bool (decide (a>b)),none)
 |.geq=>(.c .bool (decide (a>=b)),none)
def acI:Nat->DV X->DV X->J Bool
 | 0,.c (.int j) a,.c (.int k) b=>if j=k then some (iN a==iN b)else none
 | 1,.c .bool a,.c .bool b=>some (bN a==bN b)
 | 2,.c .str a,.c .str b=>some (a.toList==b.toList)
 |_,_,_=>none
def Iw:U Nat->U (DV X)->U (DV X)->J Bool
 |[],[],[]=>some true
 |k::ks,x::xs,y::ys=>(acI k x y).bind λa=>(Iw ks xs ys).bind λb=>some (a&&b)
 |_,_,_=>none
def S6:DV X->J (List (DV X))
 |.agg cs=>some cs
 |.c (.st i) y=>some (vQ (.st i) y)
 |_=>none
def apO(op:BinOp)(t:Θ)(x y:DV X)(k:KK X A):J A:=
 match x,y with
 |.c (.int kd) a,.c (.int yk) b=>if kd=yk\/op=.shl\/op=.shr then match (Iu op kd a b:DV X×Option Bool).2 with
  |none=>k (Iu op kd a b).1 [] [] []
  |some g=>bif g then k (Iu op kd a b).1 [] [] []else none
  else none
 |.c .str a,.c .str b=>match op with
  |.eql=>k (.c .bool (a.toList==b.toList)) [] [] []
  |.neq=>k (.c .bool (!(a.toList==b.toList))) [] [] []
  |.lss=>k (.c .bool (WW a b)) [] [] []
  |.gtr=>k (.c .bool (!(WW a b || a.toList==b.toList))) [] [] []
  |.add=>bif WX a b then k (.c .str (a++b)) [] [] []else none
  |_=>none
 |.c .bool a,.c .bool b=>(T t).bind λti=>match ti.k,op with
  |.bool,.eql=>k (.c .bool (bN a==bN b)) [] [] []
  |.bool,.neq=>k (.c .bool (!(bN a==bN b))) [] [] []
  |_,_=>none
 |x,y=>(S6 x).bind λxs=>(S6 y).bind λys=>(T t).bind λti=>if ti.cmp=[]then none else(Iw ti.cmp xs ys).bind λb=>match op with
  |.eql=>k (.c .bool b) [] [] []
  |.neq=>k (.c .bool (!b)) [] [] []
  |_=>none
def XS(op:UnOp)(x:DV X)(k:KK X A):J A:=
 match op,x with
 |.not,.c .bool b=>k (.c .bool (!b)) [] [] []
 |.neg,.c (.int kd) n=>k (.c (.int kd) (kd.wrap (0-iN n))) [] [] []
 |_,_=>none
def Ka(mx:Bool)(kd:IntKind):Int->U (DV X)->J Int
 |a,[]=>some a
 |a,.c (.int k') b::r=>if k'=kd then Ka mx kd (if mx then max a b else min a b) r else none
 |_,_=>none
def Sf(mx:Bool)(args:U (DV X))(k:KK X A):J A:=
 match args with
 |.c (.int kd) a::r=>(Ka mx kd a r).bind λn=>k (.c (.int kd) n) [] [] []
 |_=>none
def apP(t:Θ)(x:DV X)(k:KK X A):J A:=
 (T t).bind λti=>match ti.k,x with
 |.slice _,.c (.sl _) l=>k (.c (.int .i64) (l.length:Int)) [] [] []
 |.slice _,.own _ _ len=>k (.c (.int .i64) (len:Int)) [] [] []
 |.slice _,.oz _ len=>k (.c (.int .i64) (len:Int)) [] [] []
 |.slice _,.nil=>k (.c (.int .i64) (0:Int)) [] [] []
 |.str,.c .str s=>k (.c (.int .i64) (s.size:Int)) [] [] []
 |_,_=>none
def IH(place:Nat->J (Nat×Nat)):U (DV X)->U (Nat×DV X)->J (List (DV X))
 |cells,[]=>some cells
 |cells,(j,x)::ae=>(place j).bind λp=>(cellsD x).bind λcs=>
  if cs.length=p.2/\p.1+cs.length<=cells.length then IH place (PP cells p.1 cs) ae else none
def ahu(t:Θ)(parts:U (Nat×DV X))(k:KK X A):J A:=
 (T t).bind λti=>match ti.k with
 |.struct fs=>if fs.all (λ p=>(T p.2).isSome)then
  (IH (λ j=>(fs[j]?).bind λp=>(T p.2).bind λui=>some (p.1,ui.size)) (ti.zero.map xF) parts).bind λcells=>k (.agg cells) [] [] []else none
 |.arr _ e=>(T e).bind λei=>(IH (λ j=>some (j*ei.size,ei.size)) (ti.zero.map xF) parts).bind λcells=>k (.agg cells) [] [] []
 |_=>none
def PM(c:CT X.ι):Nat->U (Nat×DV X)->J (List (CT.T X.toSE c))
 |_,[]=>some []
 |n,(j,x)::r=>if j=n then(dat x c).bind λy=>(PM c (n+1) r).bind λl=>some (y::l)else none
def Iy(i:Nat)(t:Θ)(len:Nat)(parts:U (Nat×DV X))(k:KK X A):J A:=
 (T t).bind λti=>match ti.k with
 |.slice e=>(T e).bind λei=>(code e).bind λc=>if ei.size=0\/len*ei.size>2 ^ 24\/CT.sz X c≠ei.size\/parts.length≠len then none else
  (PM c 0 parts).bind λl=>k (.own (cJ i) 0 len) [(cJ i,some (.ek c l))] [] []
 |_=>none
def ahv(i:Nat)(e:Θ)(k:KK X A):J A:=
 (T e).bind λti=>k (.ptr (cJ i) 0 0) [(cJ i,some (.cells ti.size [ti.zero.map xF]))] [] []
def apQ(i:Nat)(x:DV X)(k:KK X A):J A:=
 (cellsD x).bind λcs=>k (.ptr (cJ i) 0 0) [(cJ i,some (.cells cs.length [cs]))] [] []
def CN(d:Int):J (DV X)->J Int
 |none=>some d
 |some (.c (.int _) n)=>some n
 |_=>none
def ahw(t:Θ)(x:DV X)(lo hi:J (DV X))(get:Nat->J (bz X))(k:KK X A):J A:=
 (T t).bind λti=>match ti.k with
 |.slice e=>(T e).bind λei=>match x with
  |.own kk aa len=>(get kk).bind λo=>if (bP o).sz=ei.size then(CN 0 lo).bind λl=>(CN len hi).bind λh=>
   bif BM l h len then k (.own kk (aa+l.toNat) (h.toNat-l.toNat)) [] [kk] []else none else none
  |.c (.sl c) xs=>if CT.sz X c=ei.size then(CN 0 lo).bind λl=>(CN xs.length hi).bind λh=>
   bif BM l h xs.length then k (.c (.sl c) (sub xs l.toNat (h.toNat-l.toNat))) [] [] []else none else none
  |_=>none
 |_=>none
def apR(y:DV X)(c:CT X.ι)(get:Nat->J (bz X)):J (Nat×List (CT.T X.toSE c)×List Nat):=
 match y with
 |.own kk aa len=>(get kk).bind λo=>match o with
  |.ek b l=>(lV (.sl b) (.sl c) l).bind λl=>some (len,sub l aa len,[kk])
  |_=>none
 |.c b l=>(lV b (.sl c) l).bind λ(l:List (CT.T X.toSE c))=>some (l.length,l,[])
 |_=>none
def W9{α:Type}:Nat->U α->U α
 | 0,l=>l
 |n+1,l=>l.drop (n+1)
def acJ(i:Nat)(t:Θ)(x y:DV X)(get:Nat->J (bz X))(k:KK X A):J A:=
 (T t).bind λti=>match ti.k with
 |.slice e=>(T e).bind λei=>(code e).bind λc=>if CT.sz X c=ei.size then(apR y c get).bind λs=>match x with
  |.own kk aa len=>(get kk).bind λo=>match o with
   |.ek b l=>(lV (.sl b) (.sl c) l).bind λ(l:List (CT.T X.toSE c))=>bif bR (W9 aa l).length len s.2.1.length s.1 ei.bytes then jm (W9 aa l++s.2.1) λr=>k (.own (cJ i) 0 r.length) [(cJ i,some (.ek c r)),(kk,none)] (kk::s.2.2) [kk]else none
   |_=>none
  |.nil=>bif bR 0 0 s.2.1.length s.1 ei.bytes then jm s.2.1 λr=>k (.own (cJ i) 0 r.length) [(cJ i,some (.ek c r))] s.2.2 []else none
  |_=>none
  else none
 |_=>none
def Xa(i:Nat)(b:Builtin)(args:U (DV X))(de:U TypeId)(get:Nat->J (bz X))(k:KK X A):J A:=
 match b,args,de with
 |.len,[x],[t]=>apP T t x k
 |.max,args,_=>Sf true args k
 |.min,args,_=>Sf false args k
 |.append,[x,y],[t,u]=>if t=u then acJ T code i t x y get k else none
 |_,_,_=>none
def Sa(i:Nat)(o:Op)(ρ:Operand->DV X)(get:Nat->J (bz X))(k:KK X A):J A:=
 match o with
 |.move x=>k (ρ x) [] [] []
 |.assign x=>k (ρ x) [] [] []
 |.pick c a b=>match ρ c with|.c .bool t=>k (amf t (ρ a) (ρ b)) [] [] []|_=>none
 |.alloc e=>ahv T i e k
 |.box _ x=>apQ i (ρ x) k
 |.build t parts=>ahu T t (parts.toList.map λp=>(p.1,ρ p.2)) k
 |.buildSlice t len parts=>Iy T code i t len (parts.toList.map λp=>(p.1,ρ p.2)) k
 |.load t a=>ldD T t (ρ a) get k
 |.store t a x=>Ys T t (ρ a) (ρ x) get k
 |.binOp op t x y _=>apO T op t (ρ x) (ρ y) k
 |.unOp op _ x=>XS op (ρ x) k
 |.makeFunc (.func f) first caps=>k (.fn f (first.toList.map ρ) (caps.toList.map ρ)) [] [] []
 |.slice t x lo hi none=>ahw T t (ρ x) (lo.map ρ) (hi.map ρ) get k
 |.fieldAddr t x f=>LQ T t (ρ x) f k
 |.field t x f=>aht T t (ρ x) f k
 |.indexAddr t x j=>LU T t (ρ x) (ρ j) get k
 |.extract x j=>WZ (ρ x) j k
 |.call { callee:=.builtin b,args:=args,argTypes:=de }=>Xa T code i b (args.toList.map ρ) de.toList get k
 |_=>none
end
section
variable {X:SX} {A:Type} {T:en} {code:TypeId->Option (CT X.ι)} {get:Nat->Option (bz X)} {k:KK X A} {r:A} {i:Nat}
def gq(get:Nat->J (bz X)):Nat->J aR:=λj=>(get j).map bP
theorem fF{rd:U Nat}{j:Nat}{o:bz X}(hj:j∈rd)(h:get j=some o):dU rd (gq get) j=some (bP o):=by simp[dU,hj,gq,h]
theorem jc(l:U (DV X)):(bL l).length=l.length:=by simp[oP]
theorem lu(l:U (DV X))(a b:Nat):bL ((l.drop a).take b)=((bL l).drop a).take b:=by simp[oP]
theorem Nw{α:Type}{l:U α}{n:Int}{x:α}(h:bu l n=some x):0<=n/\l[n.toNat]? =some x:=by
 unfold bu at h
 all_goals grind
theorem akA(t:Bool)(x y:DV X):den (amf t x y)=Rr t (den x) (den y):=by
 rw[Wn];have base:∀x y:DV X,den (bif t then x else y)=if t=true then den x else den y:=λx y=>by cases t<;>rfl
 unfold amf;split;split;rename_i h _;subst h;cases t<;>rfl;exact base _ _;exact base _ _
theorem Dg{agg:Bool}{size:Nat}{cs:U (DV X)}{v:DV X}(h:Ir agg size cs=some v):part' agg size (bL cs)=some (den v):=by
 unfold Ir at h;unfold part';rw[jc];split at h;rename_i hl;rw[aY hl];cases agg with
 |true=>simp at h ⊢;subst h;rfl
 |false=>
  simp at h ⊢
  match cs,h with
  |[x],h=>
   simp only at h;split at h;rename_i hx;cases h;simp only[bL];rw[aY (Td hx)];cases h
  |[],h|_::_::_,h=>cases h
 cases h
theorem QC{agg:Bool}{size aa:Nat}{c:CT X.ι}{y:CT.T X.toSE c}{v:DV X}(h:Ir agg size (((vQ c y).drop aa).take size)=some v):part' agg size ((((CT.row X.toSE c y).drop aa).take size).map AV.t)=some (den v):=by have:=Dg h;rw[lu,qh]at this;rw[<- this,map_take,map_drop]
theorem aa3{agg:Bool}{size aa:Nat}{c:CT X.ι}{y:CT.T X.toSE c}{v:DV X}(h:T3 agg size c y aa=some v):part' agg size ((((CT.row X.toSE c y).drop aa).take size).map AV.t)=some (den v):=by
 cases c
 case st j=>
  simp[T3]at h;split at h;rename_i hh;obtain⟨rfl,rfl,rfl⟩:=hh;cases h;have hl:(CT.row X.toSE (.st j) y).length=(X.de j).length:=Iq (.st j) y;rw[List.drop_zero,take_of_length_le (by omega)];unfold part';rw[aY (by simpa using hl)];rfl;exact QC h
 all_goals exact QC h
theorem akB{t:Θ}{x:DV X}(h:ldD T t x get k=some r):∃cy rd dv out,K8 T t (den x) cy (dU rd (gq get))=some out/\lg out.obs/\out.v=den dv/\out.upd=[]/\k dv [] rd []=some r:=by unfold ldD at h;unfold K8;rw[ah]at h;obtain⟨ti,h1,h⟩:=h;simp only[h1,ai];split at h;rename_i kk row aa;rw[ah]at h;obtain⟨o,h2,h⟩:=h;split at h;rw[ah]at h;obtain⟨rw',h3,h⟩:=h;rw[ah]at h;obtain⟨v,h4,h⟩:=h;refine⟨.none,[kk],v,⟨den v,[],[]⟩,?_,trivial,rfl,rfl,h⟩;have h5:=Dg h4;rw[lu]at h5;simp[den,fF (List.mem_singleton_self kk) h2,bP,h3,h5,pv];cases h;rename_i kk n aa;rw[ah]at h;obtain⟨o,h2,h⟩:=h;split at h;rename_i c l;rw[ah]at h;obtain⟨y,h3,h⟩:=h;rw[ah]at h;obtain⟨v,h4,h⟩:=h;have⟨_,h6⟩:=Nw h3;refine⟨.row ((CT.row X.toSE c y).map AV.t),[kk],v,⟨den v,[],[(aI (l.map (CT.row X.toSE c)))[n.toNat]? =some ((CT.row X.toSE c y).map AV.t)]⟩,?_,?_,rfl,rfl,h⟩;have h5:=aa3 h4;rw[map_take,map_drop]at h5;simp[den,fF (List.mem_singleton_self kk) h2,bP,h5,nr];simp[lg,aI,h6];cases h;rename_i c y aa;have⟨v,h4,h⟩:=ah.1 h;refine⟨.none,[],v,⟨den v,[],[]⟩,?_,trivial,rfl,rfl,h⟩;simp only[den,aa3 h4,ai,pv];cases h
theorem Xb(a:U (DV X))(aa:Nat)(cs:U (DV X)):bL (PP a aa cs)=put' (bL a) aa (bL cs):=by simp[PP,put',oP]
theorem pG{a c:CT X.ι}{x:CT.T X.toSE a}{y:CT.T X.toSE c}(h:lV a c x=some y):den (.c a x)=den (.c c y)/\CT.row X.toSE a x=CT.row X.toSE c y:=by
 obtain⟨e,h⟩:=tC h
 grind
theorem Wk{c:CT X.ι}(hc:c.one=true)(x:CT.T X.toSE c):[(CT.tv X.toSE c x).av]=(CT.row X.toSE c x).map AV.t:=by obtain⟨t,h1,h2⟩:=row_one hc x;rw[h1,h2];rfl
theorem apw{c:CT X.ι}(x:CT.T X.toSE c):wk (CT.tv X.toSE c x).av=(CT.tv X.toSE c x).av:=by cases c<;>rfl
theorem wS{d:DV X}{c:CT X.ι}{x:CT.T X.toSE c}(h:LP d c=some x):wk (den d)=(CT.tv X.toSE c x).av:=by unfold LP at h;split at h;rw[(pG h).1];exact apw x;cases h;rfl;cases h;rfl;cases h
theorem ajy{d:DV X}{c:CT X.ι}{x:CT.T X.toSE c}(hc:c.one=true)(h:LP d c=some x):wH d=true:=by
 cases d
 case c a y=>
  obtain⟨e,_⟩:=tC (show lV a c y=some x by cases c<;>exact h);subst e;cases a<;>first|rfl|simp[CT.one]at hc
 case nil=>rfl
 all_goals cases c<;>cases h
theorem zu:∀{ds:U (DV X)}{l:U (CT X.ι)}{h:HL X.toSE l},EI ds l=some h->l.all CT.one=true->(bL ds).map wk=(HL.row X.toSE l h).map AV.t/\ds.all wH=true
 |[],[],h,_,_=>⟨rfl,rfl⟩
 |d::ds,c::l,h,hr,ha=>by simp[EI]at hr;have⟨x,h1,hr⟩:=ah.1 hr;have⟨g,h2,hr⟩:=ah.1 hr;cases hr;simp only[all_cons,aX]at ha ⊢;have⟨i1,i2⟩:=zu h2 ha.2;simp[bL,HL.row,i1,wS h1,i2,ajy ha.1 h1];simp[<- Wk ha.1 x]
 |[],_::_,_,hr,_|_::_,[],_,hr,_=>by simp[EI]at hr
theorem Xc(j:X.ι)(h:HL X.toSE (X.de j)):CT.row X.toSE (.st j) (X.make j h)=HL.row X.toSE (X.de j) h:=X.gS j h
theorem aol{c:CT X.ι}(hc:c.one=true){ds:U (DV X)}{x:CT.T X.toSE c}(h:mk1 c ds=some x):(bL ds).map wk=(CT.row X.toSE c x).map AV.t:=by
 match ds,h with
 |[d],h=>
  rw[<- Wk hc x];simp[bL,wS h]
 |[],h|_::_::_,h=>cases h
theorem zb{c:CT X.ι}{ds:U (DV X)}{x:CT.T X.toSE c}(h:Nv c ds=some x):(bL ds).map wk=(CT.row X.toSE c x).map AV.t:=by
 cases c
 case st j=>
  simp[Nv]at h;have⟨g,h1,h⟩:=ah.1 h;cases h;rw[(zu h1 (X.flat j)).1,Xc]
 all_goals exact aol rfl h
theorem ahx{d:DV X}{c:CT X.ι}(hc:c.one=true){x:CT.T X.toSE c}(h:LP d c=some x):∃cs,cellsOf (den d)=some cs/\cs.map wk=(CT.row X.toSE c x).map AV.t:=by
 have hk:=ajy hc h;have hd:=wS h;have he:cellsOf (den d)=some [den d]:=by
  have:=EH (x:=d) (cs:=[d]) (by
   cases d
   case c t y=>cases t<;>first|rfl|simp[wH]at hk
   all_goals first|rfl|simp[wH]at hk)
  simpa[bL]using this
 exact⟨_,he,by rw[<- Wk hc x];simp[hd]⟩
theorem akC{d:DV X}{c:CT X.ι}{x:CT.T X.toSE c}(h:dat d c=some x):∃cs,cellsOf (den d)=some cs/\cs.map wk=(CT.row X.toSE c x).map AV.t:=by
 cases c
 case st j=>
  replace h:G2 d j=some x:=h
  cases d
  case agg cs=>
   simp[G2]at h;rw[ah]at h;obtain⟨g,h1,h⟩:=h;cases h;have⟨i1,i2⟩:=zu h1 (X.flat j);refine⟨bL cs,?_,by rw[i1,Xc]⟩;simp only[den,cellsOf];rw[aY (ajv i2)]
  case c a y=>
   rw[(pG h).1];refine⟨(CT.row X.toSE (.st j) x).map AV.t,?_,?_⟩;show cellsOf (.agg _)=_;simp only[cellsOf];rw[aY];rfl;rw[List.all_map,all_eq_true];exact λ_ _=>rfl;rw[map_map];rfl
  all_goals cases h
 all_goals exact ahx rfl h
theorem akD{t:Θ}{x y:DV X}(h:Ys T t x y get k=some r):∃cy kk u out,V8 T t (den x) (den y) cy (dU [kk] (gq get))=some out/\lg out.obs/\out.v=.undef/\out.upd=jH [(kk,u)]/\k .undef [(kk,u)] [kk] [kk]=some r:=by
 unfold Ys at h;unfold V8;rw[ah]at h;obtain⟨ti,h1,h⟩:=h;rw[ah]at h;obtain⟨cs,h2,h⟩:=h;simp[h1,EH h2];split at h;rename_i hl;have hdl:(bL cs).length=ti.size:=by rw[jc];exact hl
 simp[hdl];split at h;rename_i kk row aa;rw[ah]at h;obtain⟨o,h3,h⟩:=h;split at h;rw[ah]at h;obtain⟨rw',h4,h⟩:=h;split at h;rename_i hle;refine⟨.none,kk,_,⟨.undef,_,[]⟩,?_,trivial,rfl,rfl,h⟩;simp only[den,fF (List.mem_singleton_self kk) h3,ai,bP,List.getElem?_map,h4,Option.map_some,jc];rw[aY (by rw[<- hl];exact hle)];simp[Xb];cases h;cases h;rename_i kk n aa;rw[ah]at h;obtain⟨o,h3,h⟩:=h;split at h;rename_i c l;rw[ah]at h;obtain⟨z,h4,h⟩:=h;split at h;rename_i hle;have⟨z',h5,h⟩:=ah.1 h;have⟨_,h6⟩:=Nw h4;refine⟨.set ((CT.row X.toSE c z).map AV.t) (aI ((l.set n.toNat z').map (CT.row X.toSE c))),kk,_,⟨.undef,_,[(aI (l.map (CT.row X.toSE c)))[n.toNat]? =some ((CT.row X.toSE c z).map AV.t)/\aI ((l.set n.toNat z').map (CT.row X.toSE c))=eF ((aI (l.map (CT.row X.toSE c))).set n.toNat (put' ((CT.row X.toSE c z).map AV.t) aa (bL cs)))]⟩,?_,?_,rfl,rfl,h⟩;simp only[den,fF (List.mem_singleton_self kk) h3,ai,bP];rw[aY (by rw[length_map,Iq,<- hl];exact hle)];simp[bP];refine⟨by simp[aI,h6],?_⟩;have h7:=zb h5;rw[Xb,qh]at h7;have hid:eF (aI (l.map (CT.row X.toSE c)))=aI (l.map (CT.row X.toSE c)):=by simp[eF,aI,wk]
 simp[eF,h7];have:(aI (l.map (CT.row X.toSE c))).map (List.map wk)=aI (l.map (CT.row X.toSE c)):=hid;rw[this];simp[aI];cases h;cases h;cases h;cases h
theorem QD{t:Θ}{x:DV X}{f:Nat}(h:LQ T t x f k=some r):∃dv out,zm T t (den x) f=some out/\lg out.obs/\out.v=den dv/\out.upd=[]/\k dv [] [] []=some r:=by unfold LQ at h;unfold zm;rw[ah]at h;obtain⟨⟨d,u⟩,h1,h⟩:=h;simp[h1];split at h;exact⟨_,_,rfl,trivial,rfl,rfl,h⟩;exact⟨_,_,rfl,trivial,rfl,rfl,h⟩;exact⟨_,_,rfl,trivial,rfl,rfl,h⟩;cases h
theorem acL{t:Θ}{x:DV X}{f:Nat}(h:aht T t x f k=some r):∃dv out,V9 T t (den x) f=some out/\lg out.obs/\out.v=den dv/\out.upd=[]/\k dv [] [] []=some r:=by unfold aht at h;unfold V9;rw[ah]at h;obtain⟨⟨d,u⟩,h1,h⟩:=h;simp[h1];split at h;rw[ah]at h;obtain⟨v,h2,h⟩:=h;have h3:=Dg h2;rw[lu]at h3;exact⟨v,⟨den v,[],[]⟩,by simp[den,h3,pv],trivial,rfl,rfl,h⟩;rename_i j y;have⟨v,h2,h⟩:=ah.1 h;have h3:=QC h2;rw[map_take,map_drop]at h3;refine⟨v,⟨den v,[],[]⟩,?_,trivial,rfl,rfl,h⟩;show(part' u.agg u.size (List.take u.size (List.drop d ((CT.row X.toSE (.st j) y).map AV.t)))).bind pv=_;rw[h3];rfl;cases h
theorem eu{α:Type}{b:Bool}{x:J α}{r:α}(h:(bif b then x else none)=some r):b=true/\x=some r:=by grind
theorem Xd{n:Int}{len:Nat}(h:cz n len=true):0<=n/\n.toNat<len:=by simp[cz]at h;omega
theorem qN{A:Type}:∀{cs:U Bool}{k:J A}{r:A},WY cs k=some r->(∀ c∈cs,c=true)/\k=some r
 |[],_,_,h=>⟨by simp,h⟩
 |c::cs,k,r,h=>by have⟨h1,h2⟩:=eu h;have⟨h3,h4⟩:=qN h2;exact⟨λ x hx=>(aL.1 hx).elim (λ e=>e ▸ h1) (h3 x),h4⟩
theorem QE{t:Θ}{x j:DV X}(h:LU T t x j get k=some r):∃cy rd dv out,mV T t (den x) (den j) cy (dU rd (gq get))=some out/\lg out.obs/\out.v=den dv/\out.upd=[]/\k dv [] rd []=some r:=by unfold LU at h;unfold mV;rw[ah]at h;obtain⟨ti,h1,h⟩:=h;simp[h1];split at h;rename_i e kd n hk;rw[ah]at h;obtain⟨ei,h2,h⟩:=h;simp[hk,den,CT.tv,TV.av,h2];split at h;rename_i c l;split at h;rename_i hs;rw[ah]at h;obtain⟨y,h3,h⟩:=h;have⟨h4,h5⟩:=Nw h3;refine⟨.tg (CT.row X.toSE c y),[],_,⟨.eE (CT.row X.toSE c y) 0,[],[0<=n/\(l.map (CT.row X.toSE c))[n.toNat]? =some (CT.row X.toSE c y)]⟩,?_,?_,rfl,rfl,h⟩;simp only[den,CT.tv,TV.av];rw[aY (by rw[Iq];exact hs)];rfl;exact⟨h4,by simp[h5]⟩;cases h;rename_i kk aa len;rw[ah]at h;obtain⟨o,h3,h⟩:=h;split at h;rename_i c l;split at h;rename_i hs;have⟨h4,h⟩:=eu h;have⟨h5,h6⟩:=Xd h4;refine⟨.none,[kk],_,⟨.ptr kk (aa+n.toNat) 0,[],[0<=n/\n.toNat<len]⟩,?_,⟨h5,h6⟩,?_,rfl,h⟩;simp only[den,fF (List.mem_singleton_self kk) h3,ai,bP];rw[aY hs];rfl;simp[iN];congr 1;have:(0:Int)<=n:=h5;omega;cases h;rename_i sz rows;split at h;rename_i hs;have⟨h4,h⟩:=eu h;have⟨h5,h6⟩:=Xd h4;refine⟨.none,[kk],_,⟨.ptr kk (aa+n.toNat) 0,[],[0<=n/\n.toNat<len]⟩,?_,⟨h5,h6⟩,rfl,rfl,h⟩;simp only[den,fF (List.mem_singleton_self kk) h3,ai,bP];rw[aY hs];rfl;cases h;cases h;cases h;rename_i m e kd n hk;have⟨ei,h2,h⟩:=ah.1 h;simp[hk,den,CT.tv,TV.av,h2];have⟨h4,h⟩:=eu h;have⟨h5,h6⟩:=Xd h4;split at h;exact⟨.none,[],_,_,rfl,⟨h5,h6⟩,rfl,rfl,h⟩;exact⟨.none,[],_,_,rfl,⟨h5,h6⟩,rfl,rfl,h⟩;exact⟨.none,[],_,_,rfl,⟨h5,h6⟩,rfl,rfl,h⟩;cases h;cases h
theorem Xe{x:DV X}{j:Nat}(h:WZ x j k=some r):∃dv out,Ig (den x) j=some out/\lg out.obs/\out.v=den dv/\out.upd=[]/\k dv [] [] []=some r:=by unfold WZ at h;split at h;have⟨v,h2,h⟩:=ah.1 h;refine⟨v,⟨den v,[],[]⟩,?_,trivial,rfl,rfl,h⟩;simp[Ig,den,oP,h2,pv];cases h
end
section
variable {X:SX} {A:Type} {T:en} {code:TypeId->Option (CT X.ι)} {get:Nat->Option (bz X)} {k:KK X A} {r:A} {i:Nat}
theorem acM{op:BinOp}{kd:IntKind}{a b:Int}:∃v obs,V7 op kd a b=some (v,obs)/\den (Iu (X:=X) op kd a b).1=.t (.sc v)/\(∀ g,(Iu (X:=X) op kd a b).2=some g->g=true->lg obs)/\((Iu (X:=X) op kd a b).2=none->lg obs):=by
 cases op<;>refine⟨_,_,rfl,rfl,λg hg ht=>?_,λhn=>?_⟩<;>simp[Iu]at* <;>try trivial
 all_goals subst hg;simp_all [lg]
theorem aeK{n:Nat}{x y:DV X}{b:Bool}(h:acI n x y=some b):Ie n (den x) (den y)=some b:=by unfold acI at h;split at h;split at h;cases h;simp only[den,CT.tv,TV.av,Ie];rw[aY ‹_›];cases h;exact h;exact h;cases h
theorem Ny:∀{ks:U Nat}{xs ys:U (DV X)}{b:Bool},Iw ks xs ys=some b->jC ks (bL xs) (bL ys)=some b
 |[],[],[],b,h=>h
 |k::ks,x::xs,y::ys,b,h=>by simp[Iw]at h;rw[ah]at h;obtain⟨p,h1,h⟩:=h;rw[ah]at h;obtain⟨q,h2,h⟩:=h;simp[bL,jC,aeK h1,Ny h2,h]
 |[],_::_,_,_,h|[],[],_::_,_,h|_::_,[],_,_,h|_::_,_::_,[],_,h=>by simp[Iw]at h
theorem aeL{x:DV X}{xs:U (DV X)}(h:S6 x=some xs):den x=.agg (bL xs):=by unfold S6 at h;split at h;cases h;rfl;cases h;rw[qh];rfl;cases h
theorem ahy{op:BinOp}{t:Θ}{x y:DV X}(h:apO T op t x y k=some r):∃dv out,ZN T op t (den x) (den y)=some out/\lg out.obs/\out.v=den dv/\out.upd=[]/\k dv [] [] []=some r:=by
 unfold apO at h;split at h;rename_i kd a yk b;split at h;rename_i hk;have⟨v,obs,h1,h2,h3,h4⟩:=acM (X:=X) (op:=op) (kd:=kd) (a:=a) (b:=b);have fin:lg obs->k (Iu op kd a b).1 [] [] []=some r->∃dv out,ZN T op t (den (.c (.int kd) a:DV X)) (den (.c (.int yk) b:DV X))=some out/\lg out.obs/\out.v=den dv/\out.upd=[]/\k dv [] [] []=some r:=by intro ho hkk;refine⟨_,⟨.t (.sc v),[],obs⟩,?_,ho,h2.symm,rfl,hkk⟩;simp only[den,CT.tv,TV.av,ZN];rw[aY hk,h1];rfl
 split at h;rename_i hn;exact fin (h4 hn) h;rename_i g hg;have⟨hgt,h⟩:=eu h;exact fin (h3 g hg hgt) h;cases h;split at h;exact⟨_,_,rfl,trivial,rfl,rfl,h⟩;exact⟨_,_,rfl,trivial,rfl,rfl,h⟩;exact⟨_,_,rfl,trivial,rfl,rfl,h⟩;exact⟨_,_,rfl,trivial,rfl,rfl,h⟩;have⟨hc,h⟩:=eu h;exact⟨_,_,rfl,show _<=maxLen from of_decide_eq_true hc,rfl,rfl,h⟩;cases h;rw[ah]at h;obtain⟨ti,h1,h⟩:=h;split at h;rename_i hk;refine⟨_,⟨.t (.sc (.bool _)),[],[]⟩,?_,trivial,rfl,rfl,h⟩;simp[ZN,h1,hk];rfl;rename_i hk;refine⟨_,⟨.t (.sc (.bool _)),[],[]⟩,?_,trivial,rfl,rfl,h⟩;simp[ZN,h1,hk];rfl;cases h;rw[ah]at h;obtain⟨xs,h1,h⟩:=h;rw[ah]at h;obtain⟨ys,h2,h⟩:=h;rw[ah]at h;obtain⟨ti,h3,h⟩:=h;split at h;cases h;rename_i hc;have⟨b,h4,h⟩:=ah.1 h;have h5:=Ny h4;rw[aeL h1,aeL h2];split at h;refine⟨_,⟨.t (.sc (.bool b)),[],[]⟩,?_,trivial,rfl,rfl,h⟩;simp only[ZN,h3,ai];rw[aT hc,h5];rfl;refine⟨_,⟨.t (.sc (.bool (!b))),[],[]⟩,?_,trivial,rfl,rfl,h⟩;simp only[ZN,h3,ai];rw[aT hc,h5];rfl;cases h
theorem akE{op:UnOp}{x:DV X}(h:XS op x k=some r):∃dv out,W7 op (den x)=some out/\lg out.obs/\out.v=den dv/\out.upd=[]/\k dv [] [] []=some r:=by unfold XS at h;split at h;exact⟨_,_,rfl,trivial,rfl,rfl,h⟩;exact⟨_,_,rfl,trivial,rfl,rfl,h⟩;cases h
theorem Te(mx:Bool)(kd:IntKind):∀(l:U (DV X))(a n:Int),Ka mx kd a l=some n->Eu mx kd a (bL l)=some n
 |[],a,n,h=>h
 |x::l,a,n,h=>by
  cases x
  case c t y=>
   cases t
   case int k'=>
    simp only[Ka]at h;simp only[bL,den,CT.tv,TV.av,Eu];split at h;rename_i hk;rw[aY hk];exact Te mx kd l _ _ h;cases h
   all_goals simp[Ka]at h
  all_goals simp[Ka]at h
theorem aa4{mx:Bool}{args:U (DV X)}(h:Sf mx args k=some r):∃dv out,IM mx (bL args)=some out/\lg out.obs/\out.v=den dv/\out.upd=[]/\k dv [] [] []=some r:=by unfold Sf at h;split at h;rename_i kd a l;rw[ah]at h;obtain⟨n,h1,h⟩:=h;refine⟨_,⟨.t (.sc (.int kd n)),[],[]⟩,?_,trivial,rfl,rfl,h⟩;simp[bL,den,CT.tv,TV.av,IM];have:=Te mx kd l a n h1;simp[this];rfl;cases h
theorem ahz{t:Θ}{x:DV X}(h:apP T t x k=some r):∃cy dv out,CL T t (den x) cy=some out/\lg out.obs/\out.v=den dv/\out.upd=[]/\k dv [] [] []=some r:=by unfold apP at h;unfold CL;rw[ah]at h;obtain⟨ti,h1,h⟩:=h;simp[h1];split at h;rename_i e c l hk;simp[hk];exact⟨.num (l.length:Int),_,⟨.t (.sc (.int .i64 (l.length:Int))),[],[(l.length:Int)=((l.map (CT.row X.toSE c)).length:Int)]⟩,rfl,by simp[lg],rfl,rfl,h⟩;rename_i hk;simp[hk];exact⟨.none,_,_,rfl,trivial,rfl,rfl,h⟩;rename_i hk;simp[hk];exact⟨.none,_,_,rfl,trivial,rfl,rfl,h⟩;rename_i hk;simp[hk];exact⟨.none,_,_,rfl,trivial,rfl,rfl,h⟩;rename_i hk;simp[hk];exact⟨.none,_,_,rfl,trivial,rfl,rfl,h⟩;cases h
theorem QF(place:Nat->J (Nat×Nat)):∀(parts:U (Nat×DV X))(cells out:U (DV X)),IH place cells parts=some out->F9 place (bL cells) (parts.map λp=>(p.1,den p.2))=some (bL out)
 |[],cells,out,h=>by simp[IH]at h;subst h;rfl
 |(j,x)::ae,cells,out,h=>by simp[IH]at h;rw[ah]at h;obtain⟨⟨aa,size⟩,h1,h⟩:=h;rw[ah]at h;obtain⟨cs,h2,h⟩:=h;split at h;rename_i hl;simp only[bK,F9,h1,EH h2,ai,jc];rw[aY hl,<- Xb];exact QF place ae _ _ h;cases h
theorem acN{t:Θ}{parts:U (Nat×DV X)}(h:ahu T t parts k=some r):∃dv out,Wi T t (parts.map λp=>(p.1,den p.2))=some out/\lg out.obs/\out.v=den dv/\out.upd=[]/\k dv [] [] []=some r:=by unfold ahu at h;unfold Wi;rw[ah]at h;obtain⟨ti,h1,h⟩:=h;simp[h1];split at h;rename_i fs hk;split at h;rename_i ha;rw[ah]at h;obtain⟨cells,h2,h⟩:=h;have h3:=QF _ _ _ _ h2;rw[Df]at h3;refine⟨_,⟨.agg (bL cells),[],[]⟩,?_,trivial,rfl,rfl,h⟩;simp only[hk];rw[aY ha,h3];rfl;cases h;rename_i m e hk;rw[ah]at h;obtain⟨ei,h2,h⟩:=h;rw[ah]at h;obtain⟨cells,h3,h⟩:=h;have h4:=QF _ _ _ _ h3;rw[Df]at h4;refine⟨_,⟨.agg (bL cells),[],[]⟩,?_,trivial,rfl,rfl,h⟩;simp[hk,h2,h4];rfl;cases h
theorem aa5(size:Nat)(c:CT X.ι)(hs:CT.sz X c=size)(z:U AV):∀(parts:U (Nat×DV X))(n:Nat)(l:U (CT.T X.toSE c))(done:U (List AV)),PM c n parts=some l->done.length=n->
 ∃css:U (List AV),M9 size (done++List.replicate parts.length z) (parts.map λp=>(p.1,den p.2))=some (done++css)/\css.map (λ r=>r.map wk)=aI (l.map (CT.row X.toSE c))
 |[],n,l,done,h,_=>by simp[PM]at h;subst h;exact⟨[],by simp[M9],rfl⟩
 |(j,x)::ae,n,l,done,h,hd=>by
  simp only[PM]at h;split at h;rename_i hj;subst hj;have⟨y,h1,h⟩:=ah.1 h;have⟨l',h2,h⟩:=ah.1 h;cases h;have⟨cs,g1,g2⟩:=akC h1;have hl:cs.length=size:=by have:=congrArg List.length g2;simp[Iq]at this;omega
  obtain⟨css,i1,i2⟩:=aa5 size c hs z ae (j+1) l' (done++[cs]) h2 (by simp[hd]);refine⟨cs::css,?_,?_⟩;simp only[bK,M9,g1,ai];rw[aY ⟨hl,by simp;omega⟩];have:(done++List.replicate (ae.length+1) z).set j cs=done++[cs]++List.replicate ae.length z:=by rw[List.set_append_right _ _ (by omega),hd];simp[List.replicate_succ]
  simp only[gB,this,i1];simp;simp[i2,g2,aI];cases h
theorem Nz{t:Θ}{len:Nat}{parts:U (Nat×DV X)}(h:Iy T code i t len parts k=some r):∃dv u out,wR T i t len (parts.map λp=>(p.1,den p.2))=some out/\lg out.obs/\out.v=den dv/\out.upd=jH [(cJ i,u)]/\k dv [(cJ i,u)] [] []=some r:=by unfold Iy at h;unfold wR;rw[ah]at h;obtain⟨ti,h1,h⟩:=h;simp[h1];split at h;rename_i e hk;rw[ah]at h;obtain⟨ei,h2,h⟩:=h;rw[ah]at h;obtain⟨c,h3,h⟩:=h;simp only[hk,h2,ai];split at h;cases h;rename_i hno;simp only[not_or,Decidable.not_not]at hno;obtain⟨n1,n2,n3,n4⟩:=hno;have⟨l,h4,h⟩:=ah.1 h;have⟨css,g1,g2⟩:=aa5 ei.size c n3 (ei.zero.map cv) parts 0 l [] h4 rfl;simp[n4]at g1;refine⟨_,_,⟨.own (cJ i) 0 len,[(cJ i,some ⟨ei.size,eF css⟩)],[]⟩,?_,trivial,rfl,?_,h⟩;rw[aT (by simp only[not_or];exact⟨n1,n2⟩),g1];rfl;simp[jH,bP,n3];rw[show eF css=aI (l.map (CT.row X.toSE c))from g2];cases h
theorem acO{e:Θ}(h:ahv T i e k=some r):∃dv u out,Wj T i e=some out/\lg out.obs/\out.v=den dv/\out.upd=jH [(cJ i,u)]/\k dv [(cJ i,u)] [] []=some r:=by unfold ahv at h;unfold Wj;have⟨ti,h1,h⟩:=ah.1 h;exact⟨_,_,⟨_,[(cJ i,some ⟨ti.size,[ti.zero.map cv]⟩)],[]⟩,by simp[h1];rfl,trivial,rfl,by simp[jH,bP,Df],h⟩
theorem ahA{x:DV X}(h:apQ i x k=some r):∃dv u out,P1 i (den x)=some out/\lg out.obs/\out.v=den dv/\out.upd=jH [(cJ i,u)]/\k dv [(cJ i,u)] [] []=some r:=by unfold apQ at h;unfold P1;rw[ah]at h;obtain⟨cs,h1,h⟩:=h;exact⟨_,_,⟨_,[(cJ i,some ⟨(bL cs).length,[bL cs]⟩)],[]⟩,by simp[EH h1];rfl,trivial,rfl,by simp[jH,bP,jc],h⟩
theorem Dh{d n:Int}{x:J (DV X)}(h:CN d x=some n):bnd d (x.map den)=some n:=by unfold CN at h;split at h;exact h;exact h;cases h
theorem aa6{l h:Int}{len:Nat}(hh:BM l h len=true):0<=l/\l<=h/\h<=(len:Int):=by simpa[BM,and_assoc]using hh
theorem acP{t:Θ}{x:DV X}{lo hi:J (DV X)}(h:ahw T t x lo hi get k=some r):∃cy rd dv out,Wl T t (den x) (lo.map den) (hi.map den) cy (dU rd (gq get))=some out/\lg out.obs/\out.v=den dv/\out.upd=[]/\k dv [] rd []=some r:=by
 unfold ahw at h;unfold Wl;rw[ah]at h;obtain⟨ti,h1,h⟩:=h;simp[h1];split at h;rename_i e hk;rw[ah]at h;obtain⟨ei,h2,h⟩:=h;simp[hk,h2];split at h;rename_i kk aa len;rw[ah]at h;obtain⟨o,h3,h⟩:=h;split at h;rename_i hs;rw[ah]at h;obtain⟨l,h4,h⟩:=h;rw[ah]at h;obtain⟨hh,h5,h⟩:=h;have⟨h6,h⟩:=eu h;refine⟨.none,[kk],_,⟨.own kk (aa+l.toNat) (hh.toNat-l.toNat),[],[0<=l/\l<=hh/\hh<=(len:Int)]⟩,?_,aa6 h6,rfl,rfl,h⟩;simp only[den,fF (List.mem_singleton_self kk) h3,ai];rw[aY hs,Dh h4,ai,Dh h5];rfl;cases h;rename_i c xs;split at h;rename_i hs;have⟨l,h4,h⟩:=ah.1 h;have⟨hh,h5,h⟩:=ah.1 h;have⟨h6,h⟩:=eu h;refine⟨.C5 ((sub xs l.toNat (hh.toNat-l.toNat)).map (CT.row X.toSE c)),[],_,⟨.t (.sl ((sub xs l.toNat (hh.toNat-l.toNat)).map (CT.row X.toSE c))),[],[0<=l/\l<=hh/\hh<=((xs.map (CT.row X.toSE c)).length:Int)/\(sub xs l.toNat (hh.toNat-l.toNat)).map (CT.row X.toSE c)=((xs.map (CT.row X.toSE c)).drop l.toNat).take (hh.toNat-l.toNat)/\(∀ q∈xs.map (CT.row X.toSE c),q.length=ei.size)]⟩,?_,?_,rfl,rfl,h⟩;simp only[den,CT.tv,TV.av,Dh h4,ai];have h7:bnd ((xs.map (CT.row X.toSE c)).length:Int) (hi.map den)=some hh:=by have:=Dh h5;simpa using this
 rw[h7];rfl;have⟨a1,a2,a3⟩:=aa6 h6;refine⟨a1,a2,by simpa using a3,by simp[sub],λq hq=>?_⟩;obtain⟨y,_,rfl⟩:=mem_map.1 hq;rw[Iq];exact hs;cases h;cases h;cases h
end
section
variable {X:SX} {A:Type} {T:en} {code:TypeId->Option (CT X.ι)} {get:Nat->Option (bz X)} {k:KK X A} {r:A} {i:Nat}
theorem jN{b c:CT X.ι}{l:U (CT.T X.toSE b)}{l':U (CT.T X.toSE c)}(h:lV (.sl b) (.sl c) l=some l'):CT.sz X b=CT.sz X c/\l.map (CT.row X.toSE b)=l'.map (CT.row X.toSE c):=by
 obtain⟨e,h⟩:=tC h
 grind
theorem aeM{y:DV X}{c:CT X.ι}{n:Nat}{l:U (CT.T X.toSE c)}{rd:U Nat}(h:apR y c get=some (n,l,rd))(hl:l.length=n)(rd':U Nat)(hrd:∀j∈rd,j∈rd'):
 ∃ob,Wm (CT.sz X c) (den y) (dU rd' (gq get))=some (n,ob,aI (l.map (CT.row X.toSE c)))/\ob:=by unfold apR at h;split at h;rename_i kk aa len;rw[ah]at h;obtain⟨o,h1,h⟩:=h;split at h;rw[ah]at h;obtain⟨l1,h2,h⟩:=h;injection h with h;obtain⟨rfl,rfl,rfl⟩:=h;have⟨h3,h4⟩:=jN h2;refine⟨True,?_,trivial⟩;simp only[den,Wm,fF (hrd kk (by simp)) h1,ai,bP];rw[aY h3];simp[h4];simp[aI,sub];cases h;rename_i b l0;have⟨l1,h2,h⟩:=ah.1 h;injection h with h;simp at h;obtain⟨rfl,rfl,rfl⟩:=h;refine⟨∀ q∈l1.map (CT.row X.toSE c),q.length=CT.sz X c,?_,?_⟩;rw[(pG h2).1];simp[den,CT.tv,TV.av,Wm];intro q hq;obtain⟨z,_,rfl⟩:=mem_map.1 hq;exact Iq c z;cases h
theorem Xf{lo len ln n bytes:Nat}(h:bR lo len ln n bytes=true):lo=len/\ln=n/\(len+n)*bytes<=140737488355328/\len+n<=maxLen:=by simpa[bR,and_assoc]using h
theorem pS{α:Type}(n:Nat)(l:U α):W9 n l=l.drop n:=by cases n<;>rfl
theorem ZY{t:Θ}{x y:DV X}(h:acJ T code i t x y get k=some r):∃cy rd wr dv upd out,AP T i t (den x) (den y) cy (dU rd (gq get))=some out/\lg out.obs/\out.v=den dv/\out.upd=jH upd/\(∀ p∈upd,p.1=cJ i\/p.1∈wr)/\k dv upd rd wr=some r:=by
 unfold acJ at h;unfold AP;rw[ah]at h;obtain⟨ti,h1,h⟩:=h;simp only[h1,ai];split at h;rename_i e hk;rw[ah]at h;obtain⟨ei,h2,h⟩:=h;rw[ah]at h;obtain⟨c,h3,h⟩:=h;simp only[hk,h2,ai];split at h;rename_i hs;rw[ah]at h;obtain⟨⟨n,l,rd⟩,h4,h⟩:=h;split at h;rename_i kk aa len;have⟨o,h5,h⟩:=ah.1 h;split at h;have⟨l1,h6,h⟩:=ah.1 h;have⟨h7,h⟩:=eu h;rw[pS]at h7 h;have hd:(aI (l1.map (CT.row X.toSE c))).drop aa=aI ((l1.drop aa).map (CT.row X.toSE c)):=by simp[aI]
 have⟨g1,g2,g3,g4⟩:=Xf h7;have⟨h8,h9⟩:=jN h6;obtain⟨ob,i1,i2⟩:=aeM h4 g2 (kk::rd) (λ j hj=>by simp[hj]);have i3:=fF (rd:=kk::rd) (by simp) h5
 refine⟨.rows (aI ((l1.drop aa++l).map (CT.row X.toSE c))),kk::rd,[kk],_,_,⟨.own (cJ i) 0 (aI ((l1.drop aa++l).map (CT.row X.toSE c))).length,[(cJ i,some ⟨ei.size,aI ((l1.drop aa++l).map (CT.row X.toSE c))⟩),(kk,none)],
  [ob/\(aI ((l1.drop aa).map (CT.row X.toSE c))).length=len/\(aI (l.map (CT.row X.toSE c))).length=n/\aI ((l1.drop aa++l).map (CT.row X.toSE c))=aI ((l1.drop aa).map (CT.row X.toSE c))++aI (l.map (CT.row X.toSE c))/\(len+n)*ei.bytes<=140737488355328/\len+n<=maxLen]⟩,?_,?_,?_,?_,?_,h⟩
 rw[hs]at i1;simp only[i1,ai,den,i3,bP,h9,hd];rw[aY (by rw[h8,hs])];exact⟨i2,by simpa[aI]using g1,by simpa[aI]using g2,by simp[aI],g3,g4⟩;simp[den,aI];simp[jH,bP,hs];intro p hp;simp at hp;rcases hp with rfl|rfl;exact .inl rfl;exact .inr (by simp);cases h;have⟨h7,h⟩:=eu h;have⟨g1,g2,g3,g4⟩:=Xf h7;obtain⟨ob,i1,i2⟩:=aeM h4 g2 rd (λ j hj=>hj)
 refine⟨.rows (aI (l.map (CT.row X.toSE c))),rd,[],_,_,⟨.own (cJ i) 0 (aI (l.map (CT.row X.toSE c))).length,[(cJ i,some ⟨ei.size,aI (l.map (CT.row X.toSE c))⟩)],
  [ob/\(aI (l.map (CT.row X.toSE c))).length=n/\aI (l.map (CT.row X.toSE c))=aI (l.map (CT.row X.toSE c))/\n*ei.bytes<=140737488355328/\n<=maxLen]⟩,?_,?_,?_,?_,?_,h⟩
 rw[hs]at i1;simp[i1,den];exact⟨i2,by simpa[aI]using g2,rfl,by simpa using g3,by simpa using g4⟩;simp[den,aI];simp[jH,bP,hs];intro p hp;simp at hp;rcases hp with rfl;exact .inl rfl;cases h;cases h;cases h
def aqu(T:en)(i:Nat)(o:Oper)(ρ:Operand->DV X)(get:Nat->J (bz X))(k:KK X A)(r:A):Prop:=
 ∃cy rd wr dv upd out,ru T i o cy (λ x=>den (ρ x)) (dU rd (gq get))=some out/\lg out.obs/\out.v=den dv/\out.upd=jH upd/\(∀ p∈upd,p.1=cJ i\/p.1∈wr)/\k dv upd rd wr=some r
theorem Xg{b:Builtin}{args:U (DV X)}{de:U TypeId}(h:Xa T code i b args de get k=some r):∃cy rd wr dv upd out,Da T i b (bL args) de cy (dU rd (gq get))=some out/\lg out.obs/\out.v=den dv/\out.upd=jH upd/\(∀ p∈upd,p.1=cJ i\/p.1∈wr)/\k dv upd rd wr=some r:=by unfold Xa at h;unfold Da;split at h;have⟨cy,dv,out,h1,h2,h3,h4,h5⟩:=ahz h;exact⟨cy,[],[],dv,[],out,h1,h2,h3,h4,by simp,h5⟩;have⟨dv,out,h1,h2,h3,h4,h5⟩:=aa4 h;exact⟨.none,[],[],dv,[],out,h1,h2,h3,h4,by simp,h5⟩;have⟨dv,out,h1,h2,h3,h4,h5⟩:=aa4 h;exact⟨.none,[],[],dv,[],out,h1,h2,h3,h4,by simp,h5⟩;split at h;rename_i htu;have⟨cy,rd,wr,dv,upd,out,h1,h2⟩:=ZY h;refine⟨cy,rd,wr,dv,upd,out,?_,h2⟩;simp only[bL];rw[aY htu];exact h1;cases h;cases h
theorem VE(ρ:Operand->DV X)(l:U Operand):l.map (λ x=>den (ρ x))=bL (l.map ρ):=by rw[oP,map_map];rfl
theorem aa7{o:Oper}{ρ:Operand->DV X}(h:Sa T code i o.op ρ get k=some r):aqu T i o ρ get k r:=by
 obtain⟨dst,op,ty,am,after,guard⟩:=o;unfold aqu ru;simp at h;unfold Sa at h;split at h;exact⟨.none,[],[],_,[],_,rfl,trivial,rfl,rfl,by simp,h⟩;exact⟨.none,[],[],_,[],_,rfl,trivial,rfl,rfl,by simp,h⟩;rename_i c a b;split at h;rename_i t hc;refine⟨.none,[],[],_,[],⟨Rr t (den (ρ a)) (den (ρ b)),[],[]⟩,?_,trivial,(akA t _ _).symm,rfl,by simp,h⟩;simp[hc,den,CT.tv,TV.av,pv];cases h;have⟨dv,u,out,h1,h2,h3,h4,h5⟩:=acO h;exact⟨.none,[],[],dv,_,out,h1,h2,h3,h4,by simp,h5⟩;have⟨dv,u,out,h1,h2,h3,h4,h5⟩:=ahA h;exact⟨.none,[],[],dv,_,out,h1,h2,h3,h4,by simp,h5⟩;rename_i t parts;have⟨dv,out,h1,h2,h3,h4,h5⟩:=acN h;refine⟨.none,[],[],dv,[],out,?_,h2,h3,h4,by simp,h5⟩;rw[map_map]at h1;exact h1;rename_i t len parts;have⟨dv,u,out,h1,h2,h3,h4,h5⟩:=Nz h;refine⟨.none,[],[],dv,_,out,?_,h2,h3,h4,by simp,h5⟩;rw[map_map]at h1;exact h1;have⟨cy,rd,dv,out,h1,h2,h3,h4,h5⟩:=akB h;exact⟨cy,rd,[],dv,[],out,h1,h2,h3,h4,by simp,h5⟩;have⟨cy,kk,u,out,h1,h2,h3,h4,h5⟩:=akD h;exact⟨cy,[kk],[kk],.undef,_,out,h1,h2,h3,h4,by simp,h5⟩;have⟨dv,out,h1,h2,h3,h4,h5⟩:=ahy h;exact⟨.none,[],[],dv,[],out,h1,h2,h3,h4,by simp,h5⟩;have⟨dv,out,h1,h2,h3,h4,h5⟩:=akE h;exact⟨.none,[],[],dv,[],out,h1,h2,h3,h4,by simp,h5⟩;rename_i f first caps
 refine⟨.none,[],[],_,[],⟨.fn f (first.toList.map λx=>den (ρ x)) (caps.toList.map λx=>den (ρ x)),[],[]⟩,rfl,trivial,?_,rfl,by simp,h⟩;simp[den,VE];rename_i t x lo hi;have⟨cy,rd,dv,out,h1,h2,h3,h4,h5⟩:=acP h;refine⟨cy,rd,[],dv,[],out,?_,h2,h3,h4,by simp,h5⟩;simp at h1;exact h1;have⟨dv,out,h1,h2,h3,h4,h5⟩:=QD h;exact⟨.none,[],[],dv,[],out,h1,h2,h3,h4,by simp,h5⟩;have⟨dv,out,h1,h2,h3,h4,h5⟩:=acL h;exact⟨.none,[],[],dv,[],out,h1,h2,h3,h4,by simp,h5⟩;have⟨cy,rd,dv,out,h1,h2,h3,h4,h5⟩:=QE h;exact⟨cy,rd,[],dv,[],out,h1,h2,h3,h4,by simp,h5⟩;have⟨dv,out,h1,h2,h3,h4,h5⟩:=Xe h;exact⟨.none,[],[],dv,[],out,h1,h2,h3,h4,by simp,h5⟩;rename_i b args de;have⟨cy,rd,wr,dv,upd,out,h1,h2⟩:=Xg h;refine⟨cy,rd,wr,dv,upd,out,?_,h2⟩;simp[VE];exact h1;cases h
end
inductive Pt(ι:Type) where
 |v (c:CT ι)
 |o (k:Nat)
 |p (k:Nat)
 |nil
 |f (F:FuncId) (fs cs:List (Pt ι))
 |od (k:Nat)
 |mp (k:Nat)
 |oz (k:Nat)
 |a (ps:List (Pt ι))
inductive OP(ι:Type) where
 |l (c:CT ι)
 |m (k v:CT ι)
 |c (sz:Nat) (rows:List (List (Pt ι)))
section
variable {ι:Type}
mutual
def Pt.vars:Pt ι->List (CT ι)
 |.v c=>[c]
 |.a ps=>cP ps
 |.f _ fs cs=>cP fs++cP cs
 |.od _=>[.int .i64]
 |_=>[]
def cP:List (Pt ι)->List (CT ι)
 |[]=>[]
 |p::ps=>p.vars++cP ps
end
def i6:U (Nat×Pt ι)->U (CT ι)
 |[]=>[]
 |p::ps=>p.2.vars++i6 ps
def wT:U (List (Pt ι))->U (CT ι)
 |[]=>[]
 |r::rs=>cP r++wT rs
def df:U (Nat×OP ι)->U (CT ι)
 |[]=>[]
 |(_,.l c)::r=>.sl c::df r
 |(_,.m k v)::r=>.mp k v::df r
 |(_,.c _ rows)::r=>wT rows++df r
end
section
variable {X:SX}
structure DC(X:SX) where
 c:CT X.ι
 x:CT.T X.toSE c
@[reducible] def VT:U (CT X.ι)->Type
 |[]=>Unit
 |[c]=>CT.T X.toSE c
 |c::c'::l=>CT.T X.toSE c×VT (c'::l)
def Hi:(l:U (CT X.ι))->U (DC X)->J (VT (X:=X) l)
 |[],[]=>some ()
 |[c],[d]=>lV d.c c d.x
 |c::c'::l,d::ds=>(lV d.c c d.x).bind λx=>(Hi (c'::l) ds).bind λv=>some (x,v)
 |_,_=>none
def wU:(l:U (CT X.ι))->VT (X:=X) l->U (DC X)
 |[],_=>[]
 |[c],x=>[⟨c,x⟩]
 |c::c'::l,v=>⟨c,v.1⟩::wU (c'::l) v.2
theorem aeN{d:DC X}{c:CT X.ι}{x:CT.T X.toSE c}(h:lV d.c c d.x=some x):(⟨c,x⟩:DC X)=d:=by obtain⟨a,y⟩:=d;have⟨e,h⟩:=tC h;simp at e;subst e;subst h;rfl
theorem Xh:∀{l:U (CT X.ι)}{ds:U (DC X)}{v:VT (X:=X) l},Hi l ds=some v->wU l v=ds
 |[],[],_,_=>rfl
 |[c],[d],v,h=>by simp[Hi]at h;simp[wU,aeN h]
 |c::c'::l,d::ds,v,h=>by simp[Hi]at h;rw[ah]at h;obtain⟨x,h1,h⟩:=h;rw[ah]at h;obtain⟨v',h2,h⟩:=h;cases h;simp[wU,aeN h1,Xh h2]
 |[],_::_,_,h|[_],[],_,h|[_],_::_::_,_,h|_::_::_,[],_,h=>by simp[Hi]at h
theorem Xi{c:CT X.ι}(x:CT.T X.toSE c):lV c c x=some x:=by unfold lV;split;rfl;rename_i h _;exact absurd rfl h
def IF(d:DC X):Nat:=match lV d.c (.int .i64) d.x with|some x=>Int.toNat x|none=>0
section
variable (dE:Nat->Nat)
mutual
def eP:Pt X.ι->List (DC X)->DV X×List (DC X)
 |.v _,L=>match L with
  |d::r=>(.c d.c d.x,r)
  |[]=>(.undef,[])
 |.o k,L=>(.own k 0 (dE k),L)
 |.p k,L=>(.ptr k 0 0,L)
 |.mp k,L=>(.mp k,L)
 |.oz k,L=>(.oz k (dE k),L)
 |.nil,L=>(.nil,L)
 |.f F fs cs,L=>(.fn F (lE fs L).1 (lE cs (lE fs L).2).1,(lE cs (lE fs L).2).2)
 |.od k,L=>match L with
  |d::r=>(.own k (IF d) (dE k-IF d),r)
  |[]=>(.undef,[])
 |.a ps,L=>(.agg (lE ps L).1,(lE ps L).2)
def lE:List (Pt X.ι)->List (DC X)->List (DV X)×List (DC X)
 |[],L=>([],L)
 |p::ps,L=>((eP p L).1::(lE ps (eP p L).2).1,(lE ps (eP p L).2).2)
end
def xM:U (Nat×Pt X.ι)->U (DC X)->U (Nat×DV X)
 |[],_=>[]
 |(t,p)::r,L=>(t,(eP dE p L).1)::xM r (eP dE p L).2
def wV:U (List (Pt X.ι))->U (DC X)->U (List (DV X))×List (DC X)
 |[],L=>([],L)
 |r::rs,L=>((lE dE r L).1::(wV rs (lE dE r L).2).1,(wV rs (lE dE r L).2).2)
def cO:U (Nat×OP X.ι)->U (DC X)->U (Nat×Option (bz X))
 |[],_=>[]
 |(k,.l _)::r,L=>match L with
  |⟨.sl c',x⟩::L=>(k,some (.ek c' x))::cO r L
  |_=>[]
 |(k,.m _ _)::r,L=>match L with
  |⟨.mp kc vc,x⟩::L=>(k,some (.map kc vc x))::cO r L
  |_=>[]
 |(k,.c sz rows)::r,L=>(k,some (.cells sz (wV dE rows L).1))::cO r (wV dE rows L).2
end
def lens:U (Nat×OP X.ι)->U (DC X)->U (Nat×Nat)
 |[],_=>[]
 |(k,.l _)::r,L=>match L with
  |⟨.sl _,x⟩::L=>(k,List.length x)::lens r L
  |_=>[]
 |(_,.m _ _)::r,L=>lens r (L.drop 1)
 |(_,.c _ rows)::r,L=>lens r (L.drop (wT rows).length)
def ml:Nat->U (Pt X.ι)->U (Nat×Pt X.ι)
 |_,[]=>[]
 |n,p::ps=>(n,p)::ml (n+1) ps
theorem QG:∀(n:Nat)(ps:U (Pt X.ι)),i6 (ml n ps)=cP ps
 |_,[]=>rfl
 |n,p::ps=>by simp[ml,i6,cP,QG (n+1) ps]
structure cQ(X:SX) where
 m5:List (Pt X.ι)
 js:List (Nat×OP X.ι)
 gh:List (Pt X.ι)
 j7:List (Nat×OP X.ι)
 fn:VT (X:=X) (cP m5++df js)->Option (VT (X:=X) (i6 (ml 0 gh)++df j7))
def EJ(O:U (Nat×OP X.ι))(L:U (DC X))(k:Nat):Nat:=(lk (lens O L) k).getD 0
def Xj(ps:U (Pt X.ι))(O:U (Nat×OP X.ι))(L:U (DC X)):U (DV X):=(lE (EJ O (L.drop (cP ps).length)) ps (L.take (cP ps).length)).1
def ID(ps:U (Pt X.ι))(O:U (Nat×OP X.ι))(L:U (DC X)):U (Nat×Option (bz X)):=cO (EJ O (L.drop (cP ps).length)) O (L.drop (cP ps).length)
def zw:U (DV X)->DV X
 |[d]=>d
 |ds=>.fm ds
def dL:U (Nat×Option (bz X))->U (Nat×bz X)
 |[]=>[]
 |(k,some o)::r=>(k,o)::dL r
 |(_,none)::r=>dL r
def pY(l:U (Nat×bz X)):U (Nat×aR):=l.map λp=>(p.1,bP p.2)
def cQ.args(g:cQ X)(v:VT (X:=X) (cP g.m5++df g.js)):U (DV X):=Xj g.m5 g.js (wU _ v)
def cQ.cD(g:cQ X)(v:VT (X:=X) (cP g.m5++df g.js)):U (Nat×bz X):=dL (ID g.m5 g.js (wU _ v))
def cQ.res(g:cQ X)(r:VT (X:=X) (i6 (ml 0 g.gh)++df g.j7)):DV X:=zw (Xj g.gh g.j7 (wU _ r))
def cQ.outs(g:cQ X)(r:VT (X:=X) (i6 (ml 0 g.gh)++df g.j7)):U (Nat×bz X):=dL (ID g.gh g.j7 (wU _ r))
def H2(P:Ξ)(f:FuncId)(g:cQ X):Prop:=∀v r,g.fn v=some r->Hs P f (bL (g.args v)) ((g.cD v).map λp=>bP p.2) (pY (g.outs r)) (den (g.res r))
end
inductive AT(ι:Type) where
 |d (c:CT ι)
 |ref (c:CT ι)
 |d7 (as:List (CT ι)) (r:CT ι)
 |mut (c:CT ι)
 |kA (c:CT ι)
 |nil
 deriving DecidableEq
def AT.im{ι:Type}:AT ι->Bool
 |.mut _|.kA _=>true
 |_=>false
def AT.pl{ι:Type}:AT ι->Bool
 |.mut _|.kA _|.nil=>false
 |_=>true
inductive RT(ι:Type) where
 |d (c:CT ι)
 |fresh (e:CT ι)
 |whole (j:Nat)
 |mu (c:CT ι)
 |mr (c:CT ι)
 |mv
def RT.out{ι:Type}:RT ι->Bool
 |.mu _|.mr _|.mv=>true
 |_=>false
section
variable (X:SX)
@[reducible] def AT.T:AT X.ι->Type
 |.d c=>CT.T X.toSE c
 |.ref c=>CT.T X.toSE c
 |.d7 as r=>HL X.toSE as->J (CT.T X.toSE r)
 |.mut c=>U (CT.T X.toSE c)
 |.kA c=>CT.T X.toSE c
 |.nil=>Unit
@[reducible] def RT.T:RT X.ι->Type
 |.d c=>CT.T X.toSE c
 |.fresh e=>U (CT.T X.toSE e)
 |.whole _=>Unit
 |.mu c=>U (CT.T X.toSE c)
 |.mr c=>CT.T X.toSE c
 |.mv=>Unit
@[reducible] def jB:U (AT X.ι)->Type
 |[]=>Unit
 |a::l=>AT.T X a×jB l
@[reducible] def uh:U (RT X.ι)->Type
 |[]=>Unit
 |[r]=>RT.T X r
 |r::r'::l=>RT.T X r×uh (r'::l)
structure ci where
 args:List (AT X.ι)
 res:List (RT X.ι)
 fn:jB X args->Option (uh X res)
 gen:Option (cQ X):=none
variable {X}
def fe:Nat->(l:U (AT X.ι))->jB X l->U AV
 |_,[],_=>[]
 |n,.d c::l,a=>(CT.tv X.toSE c a.1).av::fe n l a.2
 |n,.ref c::l,a=>.eE (CT.row X.toSE c a.1) 0::fe n l a.2
 |n,.d7 as r::l,a=>den (.d7 as r a.1:DV X)::fe n l a.2
 |n,.mut _::l,a=>.own n 0 (List.length a.1)::fe (n+1) l a.2
 |n,.kA _::l,a=>.ptr n 0 0::fe (n+1) l a.2
 |n,.nil::l,a=>.cT::fe n l a.2
abbrev zx(l:U (AT X.ι))(a:jB X l):U AV:=fe 0 l a
def vD(c:CT X.ι)(l:U (CT.T X.toSE c)):fC:=(CT.sz X c,l.map (CT.row X.toSE c))
def vE:(l:U (AT X.ι))->jB X l->U fC
 |[],_=>[]
 |.mut c::l,a=>vD c a.1::vE l a.2
 |.kA c::l,a=>vD c [a.1]::vE l a.2
 |.d _::l,a=>vE l a.2
 |.ref _::l,a=>vE l a.2
 |.d7 _ _::l,a=>vE l a.2
 |.nil::l,a=>vE l a.2
def rR:(r:RT X.ι)->RT.T X r->U (Option fC)
 |.mu c,x=>[some (vD c x)]
 |.mr c,x=>[some (vD c [x])]
 |.mv,_=>[none]
 |_,_=>[]
def qi:(l:U (RT X.ι))->uh X l->U (Option fC)
 |[],_=>[]
 |[r],x=>rR r x
 |r::r'::l,x=>rR r x.1++qi (r'::l) x.2
def Z0:(r:RT X.ι)->RT.T X r->U Nat
 |.mu _,x=>[List.length x]
 |.mr _,_=>[1]
 |.mv,_=>[0]
 |_,_=>[]
def AN:(l:U (RT X.ι))->uh X l->U Nat
 |[],_=>[]
 |[r],x=>Z0 r x
 |r::r'::l,x=>Z0 r x.1++AN (r'::l) x.2
def Xk(ns:U Nat):(r:RT X.ι)->RT.T X r->U RC
 |.d c,x=>[.d (CT.tv X.toSE c x)]
 |.fresh e,l=>[.fresh (CT.sz X e) (l.map (CT.row X.toSE e))]
 |.whole j,_=>[.whole j (ns.getD j 0)]
 |_,_=>[]
def EK(ns:U Nat):(l:U (RT X.ι))->uh X l->U RC
 |[],_=>[]
 |[r],x=>Xk ns r x
 |r::r'::l,x=>Xk ns r x.1++EK ns (r'::l) x.2
def uo(l:U (RT X.ι))(x:uh X l):RV:=
 match EK (AN l x) l x with
 |[c]=>.one c
 |cs=>.fm cs
def qq(P:Ξ)(Γ:FuncId->J (ci X)):Prop:=
 ∀f s,Γ f=some s->eZ P f/\(∀ a r,s.fn a=some r->rh P f (zx s.args a) (vE s.args a) (qi s.res r) (uo s.res r))/\∀g,s.gen=some g->H2 P f g
theorem aqv:∀{l:U (AT X.ι)},(l.all λq=>q.pl)=true->(l.all λq=>!q.im)=true:=λ{l} h=>by rw[all_eq_true]at h ⊢;intro q hq;have:=h q hq;cases q<;>simp_all [AT.pl,AT.im]
theorem Iz:∀{l:U (AT X.ι)}{a:jB X l},(l.all λq=>!q.im)=true->vE l a=[]
 |[],_,_=>rfl
 |.d _::l,a,h|.ref _::l,a,h|.d7 _ _::l,a,h=>Iz (l:=l) (by grind)
 |.mut _::l,a,h|.kA _::l,a,h=>by trivial
 |.nil::l,a,h=>Iz (l:=l) (by grind)
theorem aeO{r:RT X.ι}{x:RT.T X r}(h:(!r.out)=true):rR r x=[]:=by cases r<;>first|rfl|trivial
theorem aeP:∀{l:U (RT X.ι)}{x:uh X l},(l.all λq=>!q.out)=true->qi l x=[]
 |[],_,_=>rfl
 |[r],x,h=>aeO (by grind)
 |r::r'::l,x,h=>by simp only[all_cons,aX]at h;simp[qi,aeO h.1];exact aeP (l:=r'::l) (by grind)
mutual
def bx:DV X->List Nat
 |.own k _ _=>[k]
 |.ptr k _ _=>[k]
 |.rK k _ _=>[k]
 |.ud k _ _ _ _=>[k]
 |.mp k=>[k]
 |.oz k _=>[k]
 |.agg cs=>aP cs
 |.fm cs=>aP cs
 |.fn _ first caps=>aP first++aP caps
 |_=>[]
def aP:List (DV X)->List Nat
 |[]=>[]
 |x::xs=>bx x++aP xs
end
theorem AZ(c:CT X.ι)(x:CT.T X.toSE c):refs (CT.tv X.toSE c x).av=[]:=by
 cases c<;>try rfl
 rename_i i;show fA ((X.row i x).map AV.t)=[];generalize X.row i x=l
 induction l with
 |nil=>rfl
 |cons y ys ih=>trivial
mutual
theorem ja:∀x:DV X,refs (den x)=bx x
 |.c t x=>AZ t x
 |.agg cs|.fm cs=>by simp[den,refs,bx,jo cs]
 |.own _ _ _|.ptr _ _ _|.rK _ _ _|.mp _|.oz _ _|.ud _ _ _ _ _|.rp _ _ _|.zd _ _ _ _ _=>rfl
 |.fn f first caps=>by simp[den,refs,bx,jo first,jo caps]
 |.d7 _ _ _=>rfl
 |.raw v=>by simp[den,cv];split;rfl;split<;>rfl
 |.nil|.ub|.skip|.undef=>rfl
theorem jo:∀l:List (DV X),fA (bL l)=aP l
 |[]=>rfl
 |x::xs=>by simp[bL,fA,aP,ja x,jo xs]
end
def Xl(get:Nat->J (bz X))(d:DV X)(c:CT X.ι):J (CT.T X.toSE c×List Bool):=
 match d,c with
 |.own kk aa len,.sl e=>(get kk).bind λo=>match o with
  |.ek b l=>(lV (.sl b) (.sl e) l).bind λ(l:List (CT.T X.toSE e))=>some (sub l aa len,[aE (sub l aa len).length len])
  |_=>none
 |.own kk aa len,.any=>(get kk).bind λo=>match o with
  |.ek b l=>some (.sl (List.map (CT.row X.toSE b) (sub l aa len)),[aE (sub l aa len).length len])
  |_=>none
 |.oz kk len,.sl e=>(get kk).bind λo=>match o with
  |.ek b l=>(lV (.sl b) (.sl e) l).bind λ(l:List (CT.T X.toSE e))=>some (sub l 0 len,[aE (sub l 0 len).length len])
  |_=>none
 |d,c=>(LP d c).bind λx=>some (x,[])
def IA(get:Nat->J (bz X)):U (DV X)->(l:U (CT X.ι))->J (HL X.toSE l×List Bool)
 |[],[]=>some ((),[])
 |d::ds,c::l=>(Xl get d c).bind λx=>(IA get ds l).bind λh=>some ((x.1,h.1),x.2++h.2)
 |_,_=>none
def If(get:Nat->J (bz X))(d:DV X)(i:X.ι):J (CT.T X.toSE (.st i)×List Bool):=
 match d with
 |.agg cs=>(IA get cs (X.de i)).bind λh=>some (X.make i h.1,h.2)
 |.c a x=>(lV a (.st i) x).bind λx=>some (x,[])
 |_=>none
def Gf(get:Nat->J (bz X))(d:DV X)(c:CT X.ι):J (CT.T X.toSE c×List Bool):=
 match c with
 |.st i=>If get d i
 |c=>Xl get d c
def ami(get:Nat->J (bz X))(d:DV X)(c:CT X.ι):J (CT.T X.toSE c):=
 match d with
 |.ptr kk row 0=>(get kk).bind λo=>match o with
  |.cells _ rows=>(rows[row]?).bind λq=>if q.all (λ x=>match x with|.c _ _=>true|_=>false)then Nv c q else none
  |_=>none
 |.rp a x 0=>lV a c x
 |_=>none
def AE:(l l':U (AT X.ι))->jB X l->jB X l'->jB X (l++l')
 |[],_,_,b=>b
 |_::l,l',a,b=>(a.1,AE l l' a.2 b)
def hlA:(as:U (CT X.ι))->HL X.toSE as->jB X (as.map AT.d)
 |[],_=>()
 |_::l,h=>(h.1,hlA l h.2)
def wW:U (AT X.ι)->Nat
 |[]=>0
 |q::l=>(if q.im then 1 else 0)+wW l
theorem uq:∀(n:Nat)(l l':U (AT X.ι))(a:jB X l)(b:jB X l'),fe n (l++l') (AE l l' a b)=fe n l a++fe (n+wW l) l' b
 |n,[],_,_,_=>rfl
 |n,.d c::l,l',a,b|n,.ref c::l,l',a,b|n,.d7 as r::l,l',a,b=>by simp[fe,AE,uq n l l' a.2 b,wW,AT.im]
 |n,.mut c::l,l',a,b|n,.kA c::l,l',a,b=>by simp[fe,AE,uq (n+1) l l' a.2 b,wW,AT.im,Nat.add_assoc]
 |n,.nil::l,l',a,b=>by simp[fe,AE,uq n l l' a.2 b,wW,AT.im]
theorem QH:∀(n:Nat)(as:U (CT X.ι))(h:HL X.toSE as),fe n (as.map AT.d) (hlA as h)=(HL.pr X.toSE as h).map TV.av
 |_,[],_=>rfl
 |n,c::l,h=>congrArg ((CT.tv X.toSE c h.1).av:: ·) (QH n l h.2)
def apx{a b:CT X.ι}(h:a=b)(o:J (CT.T X.toSE a)):J (CT.T X.toSE b):=h ▸ o
def uw(get:Nat->J (bz X))(pZ:FuncId->U (DV X)->U (DV X)->(as:U (CT X.ι))->(r:CT X.ι)->J ((HL X.toSE as->J (CT.T X.toSE r))×List Bool)):U (DV X)->(l:U (AT X.ι))->J (jB X l×List Bool)
 |[],[]=>some ((),[])
 |d::ds,.d c::l=>(Gf get d c).bind λx=>(uw get pZ ds l).bind λh=>some ((x.1,h.1),x.2++h.2)
 |d::ds,.ref c::l=>(ami get d c).bind λx=>(uw get pZ ds l).bind λh=>some ((x,h.1),h.2)
 |d::ds,.d7 as r::l=>(match d with
  |.d7 as' r' φ=>if h:as'=as/\r'=r then some (λ x=>apx h.2 (φ (h.1 ▸ x)),[])else none
  |.fn f first caps=>pZ f first caps as r
  |_=>none).bind λφ=>(uw get pZ ds l).bind λq=>some ((φ.1,q.1),φ.2++q.2)
 |_,_=>none
def Tf(Γ:FuncId->J (ci X))(get:Nat->J (bz X)):Nat->U (DV X)->(l:U (AT X.ι))->J (jB X l×List Bool)
 | 0,ds,l=>uw get (λ _ _ _ _ _=>none) ds l
 |n+1,ds,l=>uw get (λ f first caps as r=>(Γ f).bind λs=>match s with
   |⟨sa,[.d r'],fn,_⟩=>
    if h:r'=r/\sa=sa.take first.length++(as.map AT.d++sa.drop (first.length+as.length))/\first.length=0 then
     (Tf Γ get n first (sa.take first.length)).bind λhf=>(Tf Γ get n caps (sa.drop (first.length+as.length))).bind λhc=>
      some (λ x=>apx h.1 (fn (h.2.1 ▸ AE _ _ hf.1 (AE _ _ (hlA as x) hc.1))),hf.2++hc.2)
    else none
   |_=>none) ds l
section
variable {P:Program} {Γ:FuncId->Option (ci X)} {get:Nat->Option (bz X)} {rd:List Nat}
theorem iM{a b:U Prop}(h:∀p∈a,p)(h':∀p∈b,p):∀p∈a++b,p:=by grind
theorem IB{d:DV X}{c:CT X.ι}{x:CT.T X.toSE c×List Bool}(h:Xl get d c=some x)(hc:∀b∈x.2,b=true)(hrd:∀j∈bx d,j∈rd):∃hs obs,(∀ p∈obs,p)/\∀ae,qd P (dU rd (gq get)) (den d) (hs++ae)=some ((CT.tv X.toSE c x.1).av,ae,obs):=by
 have base:∀{d:DV X}{c:CT X.ι}{x:CT.T X.toSE c},LP d c=some x->∃hs obs,(∀ p∈obs,p)/\∀ae,qd P (dU rd (gq get)) (den d) (hs++ae)=some ((CT.tv X.toSE c x).av,ae,obs):=by
  intro d c x h;unfold LP at h;split at h;rw[(pG h).1];refine⟨[],[],by simp,λae=>?_⟩;simp;cases c<;>try rfl
  rename_i j;show qd P _ (.agg ((X.row j x).map AV.t)) ae=_;have:∀(l:U Tree)(hs:U LH),nE P (dU rd (gq get)) (l.map AV.t) hs=some (l.map AV.t,hs,[]):=by
   intro l
   induction l with
   |nil=>intro hs;rfl
   |cons y ys ih=>simp_all [nE,qd,ih]
  simp[qd,this];rfl;cases h;exact⟨[.emp],[],by simp,λae=>rfl⟩;cases h;exact⟨[.emp],[],by simp,λae=>rfl⟩;cases h
 unfold Xl at h;split at h;rename_i kk aa len e;rw[ah]at h;obtain⟨o,h1,h⟩:=h;split at h;rename_i b l0;rw[ah]at h;obtain⟨l,h2,h⟩:=h;cases h;have h3:(sub l aa len).length=len:=by simpa[aE]using hc (aE (sub l aa len).length len) (by simp)
 have⟨h4,h5⟩:=jN h2;refine⟨[.rows ((sub l aa len).map (CT.row X.toSE e))],[(((bP (.ek b l0):aR).rows.drop aa).take len=aI ((sub l aa len).map (CT.row X.toSE e))/\((sub l aa len).map (CT.row X.toSE e)).length=len)],?_,λae=>?_⟩;intro p hp;simp only[bg]at hp;subst hp;refine⟨?_,by simpa using h3⟩;simp[bP,h5];simp[aI,sub];simp[den,qd,fF (hrd kk (by simp[bx])) h1];rfl;cases h;rename_i kk aa len;rw[ah]at h;obtain⟨o,h1,h⟩:=h;split at h;rename_i b l0;cases h;have h3:(sub l0 aa len).length=len:=by simpa[aE]using hc (aE (sub l0 aa len).length len) (by simp)
 refine⟨[.rows ((sub l0 aa len).map (CT.row X.toSE b))],[(((bP (.ek b l0):aR).rows.drop aa).take len=aI ((sub l0 aa len).map (CT.row X.toSE b))/\((sub l0 aa len).map (CT.row X.toSE b)).length=len)],?_,λae=>?_⟩;intro p hp;simp only[bg]at hp;subst hp;refine⟨?_,by simpa using h3⟩;simp[bP];simp[aI,sub];simp[den,qd,fF (hrd kk (by simp[bx])) h1];rfl;cases h;rename_i kk len e;rw[ah]at h;obtain⟨o,h1,h⟩:=h;split at h;rename_i b l0;have⟨l,h2,h⟩:=ah.1 h;cases h;have h3:(sub l 0 len).length=len:=by simpa[aE]using hc (aE (sub l 0 len).length len) (by simp)
 have⟨h4,h5⟩:=jN h2;refine⟨[.rows ((sub l 0 len).map (CT.row X.toSE e))],[(((bP (.ek b l0):aR).rows.drop 0).take len=aI ((sub l 0 len).map (CT.row X.toSE e))/\((sub l 0 len).map (CT.row X.toSE e)).length=len)],?_,λae=>?_⟩;intro p hp;simp only[bg]at hp;subst hp;refine⟨?_,by simpa using h3⟩;simp[bP,h5];simp[aI,sub];simp[den,qd,fF (hrd kk (by simp[bx])) h1];rfl;cases h;have⟨y,h1,h⟩:=ah.1 h;cases h
 simp_all
theorem NA:∀{ds:U (DV X)}{l:U (CT X.ι)}{h:HL X.toSE l×List Bool},IA get ds l=some h->(∀ b∈h.2,b=true)->l.all CT.one=true->(∀ j∈aP ds,j∈rd)->
 ∃hs obs,(∀ p∈obs,p)/\∀ae,nE P (dU rd (gq get)) (bL ds) (hs++ae)=some ((HL.row X.toSE l h.1).map AV.t,ae,obs)
 |[],[],h,_,_,_,_=>⟨[],[],by simp,λae=>rfl⟩
 |d::ds,c::l,h,hr,hc,ha,hrd=>by simp[IA]at hr;have⟨x,h1,hr⟩:=ah.1 hr;have⟨g,h2,hr⟩:=ah.1 hr;cases hr;simp only[all_cons,aX]at ha;obtain⟨hs1,o1,p1,q1⟩:=IB (P:=P) (rd:=rd) h1 (λ b hb=>hc b (by grind)) (λ j hj=>hrd j (by simp[aP,hj]));obtain⟨hs2,o2,p2,q2⟩:=NA h2 (λ b hb=>hc b (by grind)) ha.2 (λ j hj=>hrd j (by simp[aP,hj]));refine⟨hs1++hs2,o1++o2,iM p1 p2,λae=>?_⟩;simp only[bL,nE,aV,q1,ai,q2];show _=some ((CT.row X.toSE c x.1++HL.row X.toSE l g.1).map AV.t,ae,o1++o2);rw[List.map_append,<- Wk ha.1 x.1];rfl
 |[],_::_,_,hr,_,_,_|_::_,[],_,hr,_,_,_=>by trivial
theorem A7{d:DV X}{c:CT X.ι}{x:CT.T X.toSE c×List Bool}(h:Gf get d c=some x)(hc:∀b∈x.2,b=true)(hrd:∀j∈bx d,j∈rd):∃hs obs,(∀ p∈obs,p)/\∀ae,qd P (dU rd (gq get)) (den d) (hs++ae)=some ((CT.tv X.toSE c x.1).av,ae,obs):=by
 cases c
 case st i=>
  replace h:If get d i=some x:=h
  cases d
  case agg cs=>
   simp[If]at h;rw[ah]at h;obtain⟨g,h1,h⟩:=h;cases h;obtain⟨hs,obs,p1,q1⟩:=NA (P:=P) (rd:=rd) h1 hc (X.flat i) (λ j hj=>hrd j (by trivial));refine⟨hs,obs,p1,λae=>?_⟩;simp[den,qd,q1,CT.tv,TV.av];rw[X.gS]
  case c a y=>exact IB (c:=.st i) (x:=x) (by trivial) hc hrd
  all_goals cases h
 all_goals exact IB h hc hrd
theorem aeQ{d:DV X}{c:CT X.ι}{x:CT.T X.toSE c}(h:ami get d c=some x)(hrd:∀j∈bx d,j∈rd):∃hs obs,(∀ p∈obs,p)/\∀ae,qd P (dU rd (gq get)) (den d) (hs++ae)=some (.eE (CT.row X.toSE c x) 0,ae,obs):=by
 unfold ami at h;split at h;rename_i kk row;rw[ah]at h;obtain⟨o,h1,h⟩:=h;split at h;rename_i sz rows;rw[ah]at h;obtain⟨q,h2,h⟩:=h;split at h;rename_i hq;refine⟨[.row (CT.row X.toSE c x)],[(bP (.cells sz rows):aR).rows[row]? =some ((CT.row X.toSE c x).map AV.t)],?_,λae=>?_⟩;intro p hp;simp only[bg]at hp;subst hp;simp only[bP,List.getElem?_map,h2,Option.map_some];rw[<- zb h,oP,map_map];congr 1;refine map_congr_left λy hy=>?_;have:=all_eq_true.1 hq y hy;cases y<;>first|exact(apw _).symm|grind
 simp[den,qd,fF (hrd kk (by simp[bx])) h1];cases h;cases h;rename_i a y;refine⟨[],[],by simp,λae=>?_⟩;simp[den,(pG h).2];rfl;cases h
theorem ahC{n:Nat}{l l':U (AT X.ι)}(e:l=l')(b:jB X l):fe n l' (e ▸ b)=fe n l b:=by grind
theorem Kb{pZ:FuncId->U (DV X)->U (DV X)->(as:U (CT X.ι))->(r:CT X.ι)->J ((HL X.toSE as->J (CT.T X.toSE r))×List Bool)}:∀{ds:U (DV X)}{l:U (AT X.ι)}{a:jB X l×List Bool},uw get pZ ds l=some a->(l.all λq=>!q.im)=true
 |[],[],_,_=>rfl
 |d::ds,.d c::l,a,h=>by simp[uw]at h;have⟨x,h1,h⟩:=ah.1 h;have⟨q,h2,h⟩:=ah.1 h;simpa[AT.im]using Kb h2
 |d::ds,.ref c::l,a,h=>by simp[uw]at h;have⟨x,h1,h⟩:=ah.1 h;have⟨q,h2,h⟩:=ah.1 h;simpa[AT.im]using Kb h2
 |d::ds,.d7 as r::l,a,h=>by simp[uw]at h;have⟨x,h1,h⟩:=ah.1 h;have⟨q,h2,h⟩:=ah.1 h;simpa[AT.im]using Kb h2
 |_::_,.mut _::_,_,h|_::_,.kA _::_,_,h|_::_,.nil::_,_,h|[],_::_,_,h|_::_,[],_,h=>by trivial
theorem aeR:∀{n:Nat}{ds:U (DV X)}{l:U (AT X.ι)}{a:jB X l×List Bool},Tf Γ get n ds l=some a->(l.all λq=>!q.im)=true
 | 0,_,_,_,h|_+1,_,_,_,h=>Kb h
theorem acR:∀as:U (CT X.ι),((as.map AT.d).all λq=>!q.im)=true
 |[]=>rfl
 |_::l=>acR l
def aqw(P:Ξ)(get:Nat->J (bz X))(pZ:FuncId->U (DV X)->U (DV X)->(as:U (CT X.ι))->(r:CT X.ι)->J ((HL X.toSE as->J (CT.T X.toSE r))×List Bool)):Prop:=
 ∀f first caps as r φ rd,pZ f first caps as r=some φ->(∀ b∈φ.2,b=true)->(∀ j∈aP first++aP caps,j∈rd)->∃hs obs,(∀ p∈obs,p)/\∀ae,qd P (dU rd (gq get)) (.fn f (bL first) (bL caps)) (hs++ae)=some (den (.d7 as r φ.1:DV X),ae,obs)
theorem uy{n:Nat}{pZ:FuncId->U (DV X)->U (DV X)->(as:U (CT X.ι))->(r:CT X.ι)->J ((HL X.toSE as->J (CT.T X.toSE r))×List Bool)}(vn:aqw P get pZ):∀{ds:U (DV X)}{l:U (AT X.ι)}{a:jB X l×List Bool},uw get pZ ds l=some a->(∀ b∈a.2,b=true)->(∀ j∈aP ds,j∈rd)->
 ∃hs obs,(∀ p∈obs,p)/\∀ae,nE P (dU rd (gq get)) (bL ds) (hs++ae)=some (fe n l a.1,ae,obs)
 |[],[],_,_,_,_=>⟨[],[],by simp,λae=>rfl⟩
 |d::ds,.d c::l,a,h,hc,hrd=>by simp[uw]at h;have⟨x,h1,h⟩:=ah.1 h;have⟨q,h2,h⟩:=ah.1 h;cases h;obtain⟨hs1,o1,p1,q1⟩:=A7 (P:=P) (rd:=rd) h1 (λ b hb=>hc b (by grind)) (λ j hj=>hrd j (by simp[aP,hj]));obtain⟨hs2,o2,p2,q2⟩:=uy (n:=n) vn h2 (λ b hb=>hc b (by simp[hb])) (λ j hj=>hrd j (by simp[aP,hj]));refine⟨hs1++hs2,o1++o2,iM p1 p2,λae=>?_⟩;simp[bL,nE,q1,q2,fe]
 |d::ds,.ref c::l,a,h,hc,hrd=>by simp[uw]at h;rw[ah]at h;obtain⟨x,h1,h⟩:=h;rw[ah]at h;obtain⟨q,h2,h⟩:=h;cases h;obtain⟨hs1,o1,p1,q1⟩:=aeQ (P:=P) (rd:=rd) h1 (λ j hj=>hrd j (by simp[aP,hj]));obtain⟨hs2,o2,p2,q2⟩:=uy (n:=n) vn h2 hc (λ j hj=>hrd j (by simp[aP,hj]));refine⟨hs1++hs2,o1++o2,iM p1 p2,λae=>?_⟩;simp[bL,nE,q1,q2,fe]
 |d::ds,.d7 as r::l,a,h,hc,hrd=>by
  simp[uw]at h;rw[ah]at h;obtain⟨φ,h1,h⟩:=h;rw[ah]at h;obtain⟨q,h2,h⟩:=h;cases h;have hd:∃hs obs,(∀ p∈obs,p)/\∀ae,qd P (dU rd (gq get)) (den d) (hs++ae)=some (den (.d7 as r φ.1:DV X),ae,obs):=by
   cases d
   case d7 as' r' ψ=>
    simp only at h1;split at h1;rename_i e;obtain⟨rfl,rfl⟩:=e;cases h1;exact⟨[],[],by simp,λae=>rfl⟩;cases h1
   case fn f first caps=>
    obtain⟨hs,obs,g1,g2⟩:=vn f first caps as r φ rd h1 (λ b hb=>hc b (by simp[hb])) (λ j hj=>hrd j (by simp only[aP,bx,bF]at hj ⊢;exact .inl hj))
    exact⟨hs,obs,g1,λae=>by simp[den];exact g2 ae⟩
   all_goals simp at h1
  obtain⟨hs1,o1,p1,q1⟩:=hd;obtain⟨hs2,o2,p2,q2⟩:=uy (n:=n) vn h2 (λ b hb=>hc b (by simp[hb])) (λ j hj=>hrd j (by simp[aP,hj]));refine⟨hs1++hs2,o1++o2,iM p1 p2,λae=>?_⟩;simp[bL,nE,q1,q2,fe]
 |_::_,.mut _::_,_,h,_,_|_::_,.kA _::_,_,h,_,_|_::_,.nil::_,_,h,_,_|[],_::_,_,h,_,_|_::_,[],_,h,_,_=>by simp[uw]at h
theorem ahD{n:Nat}:∀{l:U (AT X.ι)}(a:jB X l),l=[]->fe n l a=[]
 |_,_,rfl=>rfl
theorem tO(hΓ:qq P Γ):∀(m:Nat){n:Nat}{ds:U (DV X)}{l:U (AT X.ι)}{a:jB X l×List Bool}{rd:U Nat},Tf Γ get m ds l=some a->(∀ b∈a.2,b=true)->(∀ j∈aP ds,j∈rd)->
 ∃hs obs,(∀ p∈obs,p)/\∀ae,nE P (dU rd (gq get)) (bL ds) (hs++ae)=some (fe n l a.1,ae,obs)
 | 0,n,ds,l,a,rd,h,hcs,hrd=>uy (λ _ _ _ _ _ _ _ h=>by cases h) h hcs hrd
 |m+1,n,ds,l,a,rd,h,hcs,hrd=>by
  refine uy (λ f first caps as r φ rd' hc hb Mz=>?_) h hcs hrd;rw[ah]at hc;obtain⟨s,h1,hc⟩:=hc;split at hc;rename_i sa r' fn _;split at hc;rename_i e;obtain⟨rfl,e2,e3⟩:=e;have⟨hf,h2,hc⟩:=ah.1 hc;have⟨hcap,h3,hc⟩:=ah.1 hc;injection hc with hc;rw[<- hc]at hb;obtain⟨g1,g2,_⟩:=hΓ f _ h1;obtain⟨hs1,o1,p1,q1⟩:=tO hΓ m h2 (n:=0) (rd:=rd') (λ b hb'=>hb b (by simp[hb'])) (λ j hj=>Mz j (by simp[hj]));obtain⟨hs2,o2,p2,q2⟩:=tO hΓ m h3 (n:=0+wW (sa.take first.length)+wW (as.map AT.d)) (rd:=rd') (λ b hb'=>hb b (by simp[hb'])) (λ j hj=>Mz j (by simp[hj]));refine⟨.d7 (λ ts u=>∃h x,φ.1 h=some x/\ts=HL.pr X.toSE as h/\u=CT.tv X.toSE r' x)::(hs1++hs2),o1++(o2++[fe 0 _ hf.1=[]/\eZ P f/\∀args r,(∃ h x,φ.1 h=some x/\args=HL.pr X.toSE as h/\r=CT.tv X.toSE r' x)->tR P f (fe 0 _ hf.1++args.map TV.av++fe (0+wW (sa.take first.length)+wW (as.map AT.d)) _ hcap.1) (.one (.d r))]),?_,λae=>?_⟩;intro p hp;simp only[bF,bg]at hp;rcases hp with hp|hp|hp;exact p1 p hp;exact p2 p hp;subst hp;refine⟨ahD _ (by rw[e3];rfl),g1,?_⟩;rintro args r ⟨x,y,hxy,rfl,rfl⟩;rw[<- hc]at hxy;have hxy':fn (e2 ▸ AE _ _ hf.1 (AE _ _ (hlA as x) hcap.1))=some y:=hxy;have:=g2 _ _ hxy';have hnm:(sa.all λq=>!q.im)=true:=by rw[e2,List.all_append,List.all_append,aeR h2,aeR h3,acR];rfl
  rw[Iz hnm,zx,ahC e2.symm,uq,uq,QH,<- aV]at this;exact WR this;simp[qd,q1,q2];rfl;cases hc;cases hc
end
end
def Tg(s:ByteArray)(n:Int):J Int:=bif decide (0<=n)then(s[n.toNat]?).map λb=>(b.toNat:Int)else none
def xN(m:Int)(bytes:Nat):Bool:=decide (0<=m)&&decide (m.toNat*bytes<=140737488355328)&&decide (m.toNat<=maxLen)
def iC{K V:Type}(eq:K->K->Bool)(k:K):U (K×V)->J V
 |[]=>none
 |p::r=>bif eq k p.1 then some p.2 else iC eq k r
def Gq{K V:Type}(eq:K->K->Bool)(k:K)(v:V):U (K×V)->U (K×V)
 |[]=>[(k,v)]
 |p::r=>bif eq k p.1 then(k,v)::r else p::Gq eq k v r
def iEq(a b:Int):Bool:=a==b
def gA(a b:ByteArray):Bool:=a.toList==b.toList
def bEq(a b:Bool):Bool:=a==b
section
variable {X:SX} {A:Type}
def NC:(c:CT X.ι)->J (CT.T X.toSE c->CT.T X.toSE c->Bool)
 |.int _=>some iEq
 |.str=>some gA
 |.bool=>some bEq
 |_=>none
def Hh{ι:Type}:C2->CT ι->Bool
 |.int a,.int b=>decide (a=b)
 |.str,.str=>true
 |.bool,.bool=>true
 |_,_=>false
def aqx{ι:Type}:CT ι->Bool
 |.st _=>true
 |_=>false
theorem jI(a b:U (DV X)):bL (a++b)=bL a++bL b:=by simp[oP]
theorem tQ(a b:U (Nat×Option (bz X))):jH (a++b)=jH a++jH b:=by simp[jH]
def ND(ab:U Nat):U (Nat×Option (bz X)):=ab.map λj=>(j,none)
theorem Di(ab:U Nat):jH (ND (X:=X) ab)=ab.map λk=>(k,none):=by simp[jH,ND]
theorem Kc{ab:U Nat}{p:Nat×Option (bz X)}(h:p∈ND ab):p.1∈ab:=by
 grind [ND]
variable (T:en) (code:TypeId->Option (CT X.ι))
def ahF:DV X->Bool
 |.nil=>true
 |_=>false
def H0(op:BinOp)(b:DV X)(yes:Bool)(k:KK X A):J A:=
 match op with
 |.eql=>bif yes then k b [] [] []else k (.c .bool false) [] [] []
 |.neq=>bif yes then k b [] [] []else k (.c .bool true) [] [] []
 |_=>none
def apS(op:BinOp)(t:Θ)(x:DV X)(k:KK X A):J A:=
 (T t).bind λti=>match ti.k,x with
 |.slice _,.c (.sl _) l=>H0 op .ub (List.isEmpty l) k
 |.slice _,.own _ _ len=>H0 op .ub (len==0) k
 |.slice _,.oz _ len=>H0 op (.c .bool (op==.eql)) (len==0) k
 |.slice _,.nil=>H0 op (.c .bool (op==.eql)) true k
 |_,_=>none
def apy(s d:Θ)(x:DV X)(k:KK X A):J A:=
 (T s).bind λ_=>(T d).bind λdi=>match di.k,x with
 |.int kd,.c (.int _) n=>k (.c (.int kd) (kd.wrap (iN n))) [] [] []
 |_,_=>none
def amj(t:Θ)(x j:DV X)(k:KK X A):J A:=
 (T t).bind λti=>match ti.k,x,j with
 |.str,.c .str s,.c (.int _) n=>(Tg s n).bind λb=>k (.c (.int .u8) b) [] [] []
 |.arr m e,.agg cs,.c (.int _) q=>(T e).bind λei=>bif cz q m then(Ir ei.agg ei.size ((cs.drop (q.toNat*ei.size)).take ei.size)).bind λv=>k v [] [] []else none
 |_,_,_=>none
def abd(t:Θ)(x:DV X)(lo hi:J (DV X))(k:KK X A):J A:=
 (T t).bind λti=>match ti.k,x with
 |.slice e,.nil=>(T e).bind λ_=>(CN 0 lo).bind λl=>(CN 0 hi).bind λh=>bif decide (l=0)&&decide (h=0)then k .nil [] [] []else none
 |_,_=>none
def QI(i:Nat)(b:Builtin)(args:U (DV X))(de:U TypeId)(get:Nat->J (bz X))(k:KK X A):J A:=
 match b,args,de with
 |.cap,[.nil],[t]=>(T t).bind λti=>match ti.k with
  |.slice _=>k (.c (.int .i64) (0:Int)) [] [] []
  |_=>none
 |.clear,[.own kk aa _],[t]=>(T t).bind λti=>match ti.k with
  |.slice e=>(T e).bind λei=>(get kk).bind λo=>match o with
   |.ek c l=>if CT.sz X c=ei.size then k (.fm []) [(kk,some (.ek c (l.take aa)))] [kk] [kk]else none
   |_=>none
  |_=>none
 |.append,[.nil,.c (.int _) m],[t,u]=>(T t).bind λti=>(T u).bind λui=>match ti.k,ui.k with
  |.slice e,.int _=>(T e).bind λei=>(code e).bind λc=>if CT.sz X c=ei.size/\0<ei.size then(Nv c (ei.zero.map xF)).bind λz=>
   bif xN (iN m) ei.bytes then k (.own (cJ i) 0 m.toNat) [(cJ i,some (.ek c (List.replicate m.toNat z)))] [] []else none else none
  |_,_=>none
 |_,_,_=>none
def QJ(x:DV X)(k:KK X A):J A:=
 match x with
 |.ptr kk r f=>k (.ptr kk r f) [] [] []
 |.rK kk n f=>k (.rK kk n f) [] [] []
 |.ud kk r f m n=>k (.ud kk r f m n) [] [] []
 |.rp c y f=>k (.rp c y f) [] [] []
 |_=>none
def amk(i:Nat)(t:Θ)(l c:DV X)(k:KK X A):J A:=
 (T t).bind λti=>match ti.k,l,c with
 |.slice e,.c (.int _) n,.c (.int _) m=>(T e).bind λei=>(code e).bind λc=>if CT.sz X c=ei.size/\0<ei.size then(Nv c (ei.zero.map xF)).bind λz=>
  bif decide (iN n<=iN m)&&(decide (0<=iN n)&&xN (iN m) ei.bytes)then k (.own (cJ i) 0 n.toNat) [(cJ i,some (.ek c (List.replicate n.toNat z)))] [] []else none else none
 |_,_,_=>none
def Xm(i:Nat)(t:Θ)(k:KK X A):J A:=
 (T t).bind λti=>match ti.k with
 |.map kt et=>(code kt).bind λkc=>(code et).bind λvc=>k (.mp (cJ i)) [(cJ i,some (.map kc vc []))] [] []
 |_=>none
def acS(t:Θ)(x key:DV X)(ok:Bool)(get:Nat->J (bz X))(k:KK X A):J A:=
 (T t).bind λti=>match ti.k,x with
 |.map kt et,.mp kk=>(T kt).bind λki=>(T et).bind λei=>(get kk).bind λo=>match o with
  |.map kc vc l=>(NC kc).bind λeq=>(LP key kc).bind λkv=>if Hh ki.k kc=true/\ei.agg=aqx vc/\ei.size=CT.sz X vc then(Nv vc (ei.zero.map xF)).bind λz=>
   bif ok then k (.fm [.c vc ((iC eq kv l).getD z),.c .bool (iC eq kv l).isSome]) [] [kk] []else k (.c vc ((iC eq kv l).getD z)) [] [kk] []else none
  |_=>none
 |_,_=>none
def acT(t:Θ)(x key y:DV X)(get:Nat->J (bz X))(k:KK X A):J A:=
 (T t).bind λti=>match ti.k,x with
 |.map kt _,.mp kk=>(T kt).bind λki=>(get kk).bind λo=>match o with
  |.map kc vc l=>(NC kc).bind λeq=>(LP key kc).bind λkv=>(dat y vc).bind λv=>if Hh ki.k kc=true then k .undef [(kk,some (.map kc vc (Gq eq kv v l)))] [kk] [kk]else none
  |_=>none
 |_,_=>none
def aqy(o:Op)(ρ:Operand->DV X):Bool:=
 match o with
 |.binOp _ _ _ y _=>ahF (ρ y)
 |.convert _ _ _=>true
 |.index _ _ _=>true
 |.nilCheck _=>true
 |.makeSlice _ _ _=>true
 |.makeMap _ none=>true
 |.lookup _ _ _ _=>true
 |.mapUpdate _ _ _ _=>true
 |.slice _ x _ _ none=>ahF (ρ x)
 |.call { callee:=.builtin b,args:=args,argTypes:=_ }=>match b,args.toList.map ρ with
  |.cap,_=>true
  |.clear,_=>true
  |.append,[_,.c (.int _) _]=>true
  |_,_=>false
 |_=>false
def apT(i:Nat)(o:Op)(ρ:Operand->DV X)(get:Nat->J (bz X))(k:KK X A):J A:=
 match o with
 |.binOp op t x y _=>if ahF (ρ y)then apS T op t (ρ x) k else none
 |.convert s d x=>apy T s d (ρ x) k
 |.index t x j=>amj T t (ρ x) (ρ j) k
 |.slice t x lo hi none=>abd T t (ρ x) (lo.map ρ) (hi.map ρ) k
 |.nilCheck x=>QJ (ρ x) k
 |.makeSlice t l c=>amk T code i t (ρ l) (ρ c) k
 |.makeMap t none=>Xm T code i t k
 |.lookup t m x ok=>acS T t (ρ m) (ρ x) ok get k
 |.mapUpdate t m x v=>acT T t (ρ m) (ρ x) (ρ v) get k
 |.call { callee:=.builtin b,args:=args,argTypes:=de }=>QI T code i b (args.toList.map ρ) de.toList get k
 |_=>none
def PJ(get:Nat->J (bz X))(c:CT X.ι)(ρ:Operand->DV X)(x:Operand):DV X:=
 match Gf get (ρ x) c with
 |some y=>.c c y.1
 |none=>ρ x
def S5(get:Nat->J (bz X))(c:CT X.ι)(ρ:Operand->DV X):U Operand->U Bool
 |[]=>[]
 |x::xs=>(match Gf get (ρ x) c with|some y=>y.2|none=>[])++S5 get c ρ xs
def CM(get:Nat->J (bz X))(c:CT X.ι)(ρ:Operand->DV X):U Operand->U Nat
 |[]=>[]
 |x::xs=>(match Gf get (ρ x) c with|some _=>bx (ρ x)|none=>[])++CM get c ρ xs
def aon(o:Op)(ρ:Operand->DV X)(get:Nat->J (bz X)):J (CT X.ι):=
 match o with
 |.box t _=>code t
 |.assign x|.move x=>match ρ x with
  |.own kk _ _=>(get kk).bind λo=>match o with
   |.ek c _=>some (.sl c)
   |_=>none
  |_=>none
 |.buildSlice t _ _=>(T t).bind λti=>match ti.k with
  |.slice e=>code e
  |_=>none
 |.store t _ _=>code t
 |_=>none
def aqz(o:Op)(ρ:Operand->DV X):Bool:=
 match o with
 |.buildSlice _ _ parts=>!(aP (parts.toList.map λp=>ρ p.2)).isEmpty
 |.store _ a x=>match ρ a with
  |.rK _ _ _=>!(bx (ρ x)).isEmpty
  |_=>false
 |_=>false
def apU(i:Nat)(o:Op)(ρ:Operand->DV X)(get:Nat->J (bz X))(k:KK X A):J A:=
 if ahi o then none else(aon T code o ρ get).bind λc=>WY (S5 get c ρ o.operands.toList)
  (Sa T code i o (PJ get c ρ) (λ j=>if j∈CM get c ρ o.operands.toList then none else get j) λdv upd rd wr=>
   k dv (upd++ND (CM get c ρ o.operands.toList)) (rd++CM get c ρ o.operands.toList) (wr++CM get c ρ o.operands.toList))
def aqA(o:Op)(ρ:Operand->DV X):Bool:=
 match o with
 |.indexAddr t x (.tmp _)=>match ρ x,T t with
  |.ptr _ _ _,some ti|.rp _ _ _,some ti=>match ti.k with
   |.arr _ e=>match T e with
    |some ei=>ei.size==1
    |none=>false
   |_=>false
  |_,_=>false
 |.load _ a=>match ρ a with
  |.ud _ _ _ _ _|.zd _ _ _ _ _=>true
  |_=>false
 |_=>false
def HX(c:CT X.ι):U (DV X)->J (List (CT.T X.toSE c))
 |[]=>some []
 |.c a x::r=>(lV a c x).bind λy=>(HX c r).bind λl=>some (y::l)
 |_=>none
def apV(o:Op)(ρ:Operand->DV X)(get:Nat->J (bz X))(k:KK X A):J A:=
 match o with
 |.indexAddr t x j=>(T t).bind λti=>match ti.k,ρ x,ρ j with
  |.arr m e,.ptr kk row aa,.c (.int _) n=>(T e).bind λei=>if ei.size=1 then bif cz n m then k (.ud kk row aa m n) [] [] []else none else none
  |.arr m e,.rp c y aa,.c (.int _) n=>(T e).bind λei=>if ei.size=1 then bif cz n m then k (.zd c y aa m n) [] [] []else none else none
  |_,_,_=>none
 |.load t a=>(T t).bind λti=>match ρ a with
  |.ud kk row aa m n=>if ti.size=1/\ti.agg=false then(code t).bind λc=>if c.one=true then(get kk).bind λo=>match o with
   |.cells _ rows=>(rows[row]?).bind λq=>(HX c ((q.drop aa).take m)).bind λ(xs:List (CT.T X.toSE c))=>(bu xs n).bind λy=>k (.c c y) [] [kk] []
   |.ek _ _=>none
   |_=>none
   else none else none
  |.zd b y aa m n=>if ti.size=1/\ti.agg=false then(code t).bind λc=>if c.one=true then(HX c (((vQ b y).drop aa).take m)).bind λ(xs:List (CT.T X.toSE c))=>(bu xs n).bind λy=>k (.c c y) [] [] []
   else none else none
  |_=>none
 |_=>none
variable {T code}
def ef(P:Ξ)(T:en)(i:Nat)(o:Oper)(ρ:Operand->DV X)(get:Nat->J (bz X))(k:KK X A)(r:A):Prop:=
 ∃cy rd wr dv upd out,kr P T i o cy (λ x=>den (ρ x)) (dU rd (gq get))=some out/\lg out.obs/\out.v=den dv/\out.upd=jH upd/\(∀ p∈upd,p.1=cJ i\/p.1∈wr)/\k dv upd rd wr=some r
section
variable {P:Program} {get:Nat->Option (bz X)} {k:KK X A} {r:A} {i:Nat} {o:Oper} {ρ:Operand->DV X}
theorem amm{t:Θ}{x:AV}{cy:ka}(h:(∃ n,cy=.ext n)\/∃ab fr q,cy=.xv ab fr q):CL T t x .none=CL T t x cy:=by grind [CL]
theorem Xn{t:Θ}{x j:AV}{cy:ka}{get:Ω}(h:(∃ n,cy=.ext n)\/∃ab fr q,cy=.xv ab fr q):mV T t x j .none get=mV T t x j cy get:=by
 unfold mV;rcases T t with _|ti;rfl;simp;generalize ti.k=kk;cases kk<;>try rfl
 case arr m e=>
  grind
 cases j<;>try rfl
 rename_i e y;cases y<;>try rfl
 rename_i y;cases y<;>try rfl
 simp;rcases T e with _|ei;rfl;rcases h with ⟨n,rfl⟩|⟨ab,fr,q,rfl⟩<;>cases x<;>try rfl
 all_goals grind
theorem aeT{t:Θ}{x y:AV}{cy:ka}{get:Ω}(h:(∃ n,cy=.ext n)\/∃ab fr q,cy=.xv ab fr q):AP T i t x y .none get=AP T i t x y cy get:=by grind [AP]
theorem akI{cy:ka}{ρ:Operand->AV}{get:Ω}(h:(∃ n,cy=.ext n)\/∃ab fr q,cy=.xv ab fr q):ru T i o .none ρ get=ru T i o cy ρ get:=by
 obtain⟨dst,op,ty,am,after,guard⟩:=o;cases op
 case call c=>
  obtain⟨callee,args,de⟩:=c;cases callee<;>try rfl
  simp[ru,Da];split;exact amm h;rfl;rfl;rw[aeT h];rfl
 case slice t x lo hi mx=>cases mx<;>rcases h with ⟨n,rfl⟩|⟨ab,fr,q,rfl⟩<;>rfl
 case makeFunc fn a b=>cases fn<;>rfl
 case indexAddr t x j=>exact Xn h
 all_goals (rcases h with ⟨n,rfl⟩|⟨ab,fr,q,rfl⟩<;>rfl)
theorem ef.ext{n:Int}{rd wr:U Nat}{dv:DV X}{upd:U (Nat×Option (bz X))}{out:Out}(h:ul T i o n (λ x=>den (ρ x)) (dU rd (gq get))=some out)(h1:lg out.obs)(h2:out.v=den dv)(h3:out.upd=jH upd)(h4:∀p∈upd,p.1=cJ i\/p.1∈wr)(h5:k dv upd rd wr=some r)(hx:P0 o.op=false:=by rfl):ef P T i o ρ get k r:=
 ⟨.ext n,rd,wr,dv,upd,out,by show um T i o n _ _=some out;unfold um;grind,h1,h2,h3,h4,h5⟩
theorem ef.xz{n:Int}{rd wr:U Nat}{dv:DV X}{upd:U (Nat×Option (bz X))}{out:Out}(h:EA T i o n (λ x=>den (ρ x)) (dU rd (gq get))=some out)(h1:lg out.obs)(h2:out.v=den dv)(h3:out.upd=jH upd)(h4:∀p∈upd,p.1=cJ i\/p.1∈wr)(h5:k dv upd rd wr=some r)(hx:P0 o.op=true:=by rfl):ef P T i o ρ get k r:=
 ⟨.ext n,rd,wr,dv,upd,out,by show um T i o n _ _=some out;unfold um;grind,h1,h2,h3,h4,h5⟩
theorem Um{x:DV X}(h:QJ x k=some r):∃dv,Qu (den x)=some ⟨den dv,[],[]⟩/\k dv [] [] []=some r:=by cases x<;>simp[QJ]at h<;>first|cases h|exact⟨_,rfl,h⟩
theorem abe{cy:ka}{ρ:Operand->AV}{get:Ω}(hne:∀f args de,o.op≠.call { callee:=.value f,args:=args,argTypes:=de })(ho:∀n,cy≠.ext n)(hf:∀ab fr q,cy≠.xv ab fr q):kr P T i o cy ρ get=ru T i o cy ρ get:=by
 have e:∀(α:Type) (a:Operand->Array Operand->Array TypeId->α) (b:α),(match o.op with|.call { callee:=.value f,args:=args,argTypes:=de }=>a f args de|_=>b)=b:=by grind
 cases cy<;>first|grind|omega|exact e _ _ _
theorem ef.op{cy:ka}{rd wr:U Nat}{dv:DV X}{upd:U (Nat×Option (bz X))}{out:Out}(hne:∀f args de,o.op≠.call { callee:=.value f,args:=args,argTypes:=de })
 (h:ru T i o cy (λ x=>den (ρ x)) (dU rd (gq get))=some out) (h1:lg out.obs/\out.v=den dv/\out.upd=jH upd/\(∀ p∈upd,p.1=cJ i\/p.1∈wr)/\k dv upd rd wr=some r):ef P T i o ρ get k r:=by
 obtain⟨xe,h'⟩:∃xe,kr P T i o xe (λ x=>den (ρ x)) (dU rd (gq get))=some out:=by by_cases hx:(∃ n,cy=.ext n)\/∃ab fr q,cy=.xv ab fr q;refine⟨.none,?_⟩;rw[abe hne (by simp) (by simp),akI hx,h];simp at hx;exact⟨cy,by rw[abe hne hx.1 (λ ab fr q=>hx.2 ab fr q),h]⟩
 exact⟨xe,rd,wr,dv,upd,out,h',h1⟩
theorem ef.call{dst:J Tmp}{f:Operand}{args:Array Operand}{de:Array TypeId}{ty:Θ}{am:String}{after:Array Edge}{guard:J (Nat×Bool)}{cy:ka}{rd wr:U Nat}{dv:DV X}{upd:U (Nat×Option (bz X))}{out:Out}
 (h:l7 P i (den (ρ f)) (args.toList.map λx=>den (ρ x)) cy (dU rd (gq get))=some out) (h1:lg out.obs/\out.v=den dv/\out.upd=jH upd/\(∀ p∈upd,p.1=cJ i\/p.1∈wr)/\k dv upd rd wr=some r):
 ef P T i ⟨dst,.call { callee:=.value f,args:=args,argTypes:=de },ty,am,after,guard⟩ ρ get k r:=by
 refine⟨cy,rd,wr,dv,upd,out,?_,h1⟩;unfold kr
 all_goals grind [l7,rQ,AR]
theorem Ke{op:BinOp}{b:DV X}{yes:Bool}(h:H0 op b yes k=some r):∃dv out,Ha op (den b) yes=some out/\lg out.obs/\out.v=den dv/\out.upd=[]/\k dv [] [] []=some r:=by
 unfold H0 at h;split at h;cases yes with
 |true=>exact⟨b,_,rfl,trivial,rfl,rfl,h⟩
 |false=>exact⟨.c .bool false,_,rfl,trivial,rfl,rfl,h⟩
 cases yes with
 |true=>exact⟨b,_,rfl,trivial,rfl,rfl,h⟩
 |false=>exact⟨.c .bool true,_,rfl,trivial,rfl,rfl,h⟩
 cases h
theorem ahG{op:BinOp}{t:Θ}{x:DV X}(h:apS T op t x k=some r):∃dv out,CH T op t (den x) .cT=some out/\lg out.obs/\out.v=den dv/\out.upd=[]/\k dv [] [] []=some r:=by unfold apS at h;rw[ah]at h;obtain⟨ti,h1,h⟩:=h;split at h;rename_i e c l hk;have⟨dv,out,g1,g2⟩:=Ke h;refine⟨dv,out,?_,g2⟩;simp[CH,h1,hk];rw[<- g1];cases l<;>rfl;rename_i e kk aa len hk;have⟨dv,out,g1,g2⟩:=Ke h;exact⟨dv,out,by simp[CH,h1,hk];exact g1,g2⟩;rename_i e kk len hk;have⟨dv,out,g1,g2⟩:=Ke h;exact⟨dv,out,by simp[CH,h1,hk];exact g1,g2⟩;rename_i e hk;have⟨dv,out,g1,g2⟩:=Ke h;exact⟨dv,out,by simp[CH,h1,hk];exact g1,g2⟩;cases h
theorem ahH{s:ByteArray}{n b:Int}(h:Tg s n=some b):0<=n/\∃c,s[n.toNat]? =some c/\b=c.toNat:=by
 unfold Tg at h
 grind
theorem abf{m:Int}{bytes:Nat}(h:xN m bytes=true):0<=m/\m.toNat*bytes<=140737488355328/\m.toNat<=maxLen:=by
 simp_all [xN,and_assoc]
theorem Un{b:Builtin}{args:U (DV X)}{de:U TypeId}(h:QI T code i b args de get k=some r):
 ∃rd wr dv upd out,vN T i b (bL args) de (dU rd (gq get))=some out/\lg out.obs/\out.v=den dv/\out.upd=jH upd/\(∀ p∈upd,p.1=cJ i\/p.1∈wr)/\k dv upd rd wr=some r:=by unfold QI at h;split at h;rw[ah]at h;obtain⟨ti,h1,h⟩:=h;split at h;rename_i e hk;refine⟨[],[],_,[],⟨.t (.sc (.int .i64 0)),[],[]⟩,?_,trivial,rfl,rfl,by simp,h⟩;simp[vN,bL,den,h1,hk];rfl;cases h;rename_i kk aa len t;rw[ah]at h;obtain⟨ti,h1,h⟩:=h;split at h;rename_i e hk;rw[ah]at h;obtain⟨ei,h2,h⟩:=h;rw[ah]at h;obtain⟨o,h3,h⟩:=h;split at h;rename_i c l;split at h;rename_i hs;refine⟨[kk],[kk],_,_,⟨.fm [],[(kk,some ⟨CT.sz X c,(aI (l.map (CT.row X.toSE c))).take aa⟩)],[]⟩,?_,trivial,rfl,?_,by simp,h⟩;simp only[vN,bL,den,h1,ai,hk,h2,fF (List.mem_singleton_self kk) h3,bP];rw[aY hs];simp[jH,bP,aI];cases h;cases h;cases h;rename_i kd m t u;rw[ah]at h;obtain⟨ti,h1,h⟩:=h;rw[ah]at h;obtain⟨ui,h2,h⟩:=h;split at h;rename_i e kn hk hk';rw[ah]at h;obtain⟨ei,h3,h⟩:=h;rw[ah]at h;obtain⟨c,h4,h⟩:=h;split at h;rename_i hs;have⟨z,h5,h⟩:=ah.1 h;have⟨h6,h⟩:=eu h;have⟨m1,m2,m3⟩:=abf h6;have hz:=zb h5;rw[Df]at hz;refine⟨[],[],_,_,⟨.own (cJ i) 0 m.toNat,[(cJ i,some ⟨ei.size,eF (List.replicate m.toNat (ei.zero.map cv))⟩)],[0<=m/\m.toNat*ei.bytes<=140737488355328/\m.toNat<=maxLen/\0<ei.size]⟩,?_,?_,rfl,?_,by simp,h⟩;simp[vN,bL,den,CT.tv,TV.av,h1,h2,h3,hk,hk'];exact⟨m1,m2,m3,hs.2⟩;simp only[jH,bK,map_nil,Option.map_some,bP,hs.1,aI,eF,List.map_replicate];rw[hz];cases h;cases h;cases h
theorem aeU{t:Θ}{l c:DV X}(h:amk T code i t l c k=some r):∃dv upd out,Rg T i t (den l) (den c)=some out/\lg out.obs/\out.v=den dv/\out.upd=jH upd/\(∀ p∈upd,p.1=cJ i)/\k dv upd [] []=some r:=by unfold amk at h;rw[ah]at h;obtain⟨ti,h1,h⟩:=h;split at h;rename_i e kl n kc m hk;rw[ah]at h;obtain⟨ei,h3,h⟩:=h;rw[ah]at h;obtain⟨c,h4,h⟩:=h;split at h;rename_i hs;rw[ah]at h;obtain⟨z,h5,h⟩:=h;have⟨h6,h⟩:=eu h;simp at h6;obtain⟨h7,h8,h9⟩:=h6;have⟨m1,m2,m3⟩:=abf h9;have hz:=zb h5;rw[Df]at hz;refine⟨_,_,⟨.own (cJ i) 0 n.toNat,[(cJ i,some ⟨ei.size,eF (List.replicate n.toNat (ei.zero.map cv))⟩)],[0<=n/\n<=m/\m.toNat*ei.bytes<=140737488355328/\m.toNat<=maxLen/\0<ei.size]⟩,?_,?_,rfl,?_,by simp,h⟩;simp[Rg,den,CT.tv,TV.av,h1,h3,hk];exact⟨h8,h7,m2,m3,hs.2⟩;simp only[jH,bK,map_nil,Option.map_some,bP,hs.1,aI,eF,List.map_replicate];rw[hz];cases h;cases h
theorem Xo{t:Θ}(h:Xm T code i t k=some r):∃dv upd out,Im T i t=some out/\lg out.obs/\out.v=den dv/\out.upd=jH upd/\(∀ p∈upd,p.1=cJ i)/\k dv upd [] []=some r:=by unfold Xm at h;rw[ah]at h;obtain⟨ti,h1,h⟩:=h;split at h;rename_i kt et hk;have⟨kc,h2,h⟩:=ah.1 h;have⟨vc,h3,h⟩:=ah.1 h;exact⟨_,_,⟨.mp (cJ i),[(cJ i,some ⟨0,[]⟩)],[]⟩,by simp[Im,h1,hk],trivial,rfl,rfl,by simp,h⟩;cases h
theorem amn{ki:p5}{kc:CT X.ι}(h:Hh ki.k kc=true)(x:CT.T X.toSE kc):∃v,(CT.tv X.toSE kc x).av=.t (.sc v)/\Ni ki.k v=true:=by
 cases kc
 case int b=>
  refine⟨.int b x,rfl,?_⟩;cases hk:ki.k<;>rw[hk]at h<;>simp[Hh]at h
  grind [Ni]
 case str=>
  refine⟨.string x,rfl,?_⟩;cases hk:ki.k<;>rw[hk]at h<;>simp[Hh]at h;rfl
 case bool=>
  refine⟨.bool x,rfl,?_⟩;cases hk:ki.k<;>rw[hk]at h<;>simp[Hh]at h;rfl
 all_goals (cases hk:ki.k<;>rw[hk]at h<;>simp[Hh]at h)
theorem aeV{kc:CT X.ι}{eq:CT.T X.toSE kc->CT.T X.toSE kc->Bool}(h:NC kc=some eq){a b:CT.T X.toSE kc}{va:Ψ}(ha:(CT.tv X.toSE kc a).av=.t (.sc va)):∃vb,(CT.tv X.toSE kc b).av=.t (.sc vb)/\SF va vb=some (eq a b):=by
 cases kc
 case int q=>
  simp[NC]at h;subst h
  grind [CT.tv,TV.av,SF,iEq]
 case str=>
  simp[NC]at h;subst h
  grind [CT.tv,TV.av,SF,gA]
 case bool=>
  simp[NC]at h;subst h
  grind [CT.tv,TV.av,SF,bEq]
 all_goals simp[NC]at h
theorem abg{kc vc:CT X.ι}{eq:CT.T X.toSE kc->CT.T X.toSE kc->Bool}(h:NC kc=some eq){a:CT.T X.toSE kc}{va:Ψ}(ha:(CT.tv X.toSE kc a).av=.t (.sc va)):∀l:U (CT.T X.toSE kc×CT.T X.toSE vc),
 ∃r,SG va (bP (.map kc vc l:bz X)).rows=some r/\r.map (·.2)=(iC eq a l).map λv=>(CT.tv X.toSE vc v).av
 |[]=>⟨none,rfl,rfl⟩
 |p::l=>by
  have⟨vb,h1,h2⟩:=aeV h (b:=p.1) ha;have⟨r,g1,g2⟩:=abg h ha l;have g1':SG va (l.map λp=>[(CT.tv X.toSE kc p.1).av,(CT.tv X.toSE vc p.2).av])=some r:=g1;simp[bP,h1,SG,h2,iC];cases eq a p.1 with
  |true=>grind
  |false=>
   simp only[Bool.false_eq_true,if_false,g1',Option.map_some,au];exact⟨_,rfl,by rw[<- g2,Option.map_map];rfl⟩
theorem aeW{kc vc:CT X.ι}{eq:CT.T X.toSE kc->CT.T X.toSE kc->Bool}(h:NC kc=some eq){a:CT.T X.toSE kc}{va:Ψ}(ha:(CT.tv X.toSE kc a).av=.t (.sc va))(y:CT.T X.toSE vc):∀l:U (CT.T X.toSE kc×CT.T X.toSE vc),
 AK va (CT.tv X.toSE vc y).av (bP (.map kc vc l:bz X)).rows=some (bP (.map kc vc (Gq eq a y l):bz X)).rows
 |[]=>by simp[bP,AK,Gq,ha]
 |p::l=>by
  have⟨vb,h1,h2⟩:=aeV h (b:=p.1) ha;have g:=aeW h ha y l;have g':AK va (CT.tv X.toSE vc y).av (l.map λp=>[(CT.tv X.toSE kc p.1).av,(CT.tv X.toSE vc p.2).av])=some ((Gq eq a y l).map λp=>[(CT.tv X.toSE kc p.1).av,(CT.tv X.toSE vc p.2).av]):=g;simp[bP,h1,AK,Gq]
  grind
theorem zero_den{vc:CT X.ι}{ei:p5}{z:CT.T X.toSE vc}(h:Nv vc (ei.zero.map xF)=some z)(ha:ei.agg=aqx vc)(hs:ei.size=CT.sz X vc):part' ei.agg ei.size ((ei.zero.map cv).map wk)=some (CT.tv X.toSE vc z).av:=by
 have hz:=zb h;rw[Df]at hz;rw[hz,ha,hs];have hl:((CT.row X.toSE vc z).map AV.t).length=CT.sz X vc:=by rw[length_map,Iq]
 unfold part';rw[aY hl];cases vc<;>rfl
theorem aoo{d:DV X}{c:CT X.ι}{x:CT.T X.toSE c}(h:dat d c=some x):Hv (den d)=(CT.tv X.toSE c x).av:=by
 cases c
 case st j=>
  replace h:G2 d j=some x:=h
  cases d
  case agg cs=>
   simp[G2]at h;rw[ah]at h;obtain⟨g,h1,h⟩:=h;cases h;simp[den,Hv,(zu h1 (X.flat j)).1];rw[<- Xc];rfl
  case c a y=>
   rw[(pG h).1];simp only[den,CT.tv,TV.av,Hv,map_map];congr 1
  all_goals cases h
 all_goals
  (have h':=h
   have hd:=wS h';cases d
   case c a y=>
    obtain⟨e,_⟩:=tC (show lV a _ y=some x from h);subst e;exact hd
   all_goals first|exact hd|(cases h))
theorem Z4{t:Θ}{x key:DV X}{ok:Bool}(h:acS T t x key ok get k=some r):∃rd dv out,J8 T t (den x) (den key) ok (dU rd (gq get))=some out/\lg out.obs/\out.v=den dv/\out.upd=[]/\k dv [] rd []=some r:=by
 unfold acS at h;rw[ah]at h;obtain⟨ti,h1,h⟩:=h;split at h
 .rename_i kt et kk hk;rw[ah]at h;obtain⟨ki,h2,h⟩:=h;rw[ah]at h;obtain⟨ei,h3,h⟩:=h;rw[ah]at h;obtain⟨o,h4,h⟩:=h;split at h
  .rename_i kc vc l;rw[ah]at h;obtain⟨eq,h5,h⟩:=h;rw[ah]at h;obtain⟨kv,h6,h⟩:=h;split at h
   .rename_i hc;have⟨z,h7,h⟩:=ah.1 h;have⟨va,g1,g2⟩:=amn hc.1 kv;have⟨q,g3,g4⟩:=abg (vc:=vc) h5 g1 l;have hkey:den key=.t (.sc va):=(by have:=wS h6;rw[g1]at this;cases hd:den key<;>rw[hd]at this<;>simp only[wk,AV.t.injEq,reduceCtorEq]at this;subst this;rfl);have hv:∀q:J (Nat×AV),q.map (·.2)=(iC eq kv l).map (λ v=>(CT.tv X.toSE vc v).av)->Kf q (part' ei.agg ei.size ((ei.zero.map cv).map wk))=some (CT.tv X.toSE vc ((iC eq kv l).getD z)).av:=by
     intro q g;cases hm:iC eq kv l with
     |none=>
      rw[hm]at g;cases q with
      |none=>exact zero_den h7 hc.2.1 hc.2.2
      |some p=>simp at g
     |some v=>
      rw[hm]at g;cases q with
      |none=>simp at g
      |some p=>simp only[Option.map_some,bV]at g;simp only[Kf,g,Option.getD_some]
    have hi:q.isSome=(iC eq kv l).isSome:=(by have:=congrArg Option.isSome g4;simpa using this);have hb:J8 T t (den (.mp kk:DV X)) (den key) ok (dU [kk] (gq get))=pv (if ok then .fm [den (.c vc ((iC eq kv l).getD z):DV X),.t (.sc (.bool q.isSome))]else den (.c vc ((iC eq kv l).getD z):DV X)):=(by simp only[J8,h1,ai,hk,den,hkey,h2,h3,fF (List.mem_singleton_self kk) h4];rw[aY ⟨g2,by simp[bP]⟩,g3,ai,hv q g4,ai]);cases ok with
    |true=>exact⟨[kk],_,_,hb,trivial,by simp only[if_true,den,bL,hi];rfl,rfl,h⟩
    |false=>exact⟨[kk],_,_,hb,trivial,rfl,rfl,h⟩
   .cases h
  .cases h
 .cases h
theorem Z5{t:Θ}{x key y:DV X}(h:acT T t x key y get k=some r):∃rd wr dv upd out,J9 T t (den x) (den key) (den y) (dU rd (gq get))=some out/\lg out.obs/\out.v=den dv/\out.upd=jH upd/\(∀ p∈upd,p.1∈wr)/\k dv upd rd wr=some r:=by
 unfold acT at h;rw[ah]at h;obtain⟨ti,h1,h⟩:=h;split at h
 .rename_i kt et kk hk;rw[ah]at h;obtain⟨ki,h2,h⟩:=h;rw[ah]at h;obtain⟨o,h4,h⟩:=h;split at h
  .rename_i kc vc l;rw[ah]at h;obtain⟨eq,h5,h⟩:=h;rw[ah]at h;obtain⟨kv,h6,h⟩:=h;rw[ah]at h;obtain⟨v,h7,h⟩:=h;split at h
   .rename_i hc;have⟨va,g1,g2⟩:=amn hc kv;have g3:=aeW (vc:=vc) h5 g1 v l;have hkey:den key=.t (.sc va):=(by have:=wS h6;rw[g1]at this;cases hd:den key<;>rw[hd]at this<;>simp only[wk,AV.t.injEq,reduceCtorEq]at this;subst this;rfl);refine⟨[kk],[kk],_,_,⟨.undef,[(kk,some ⟨(bP (.map kc vc (Gq eq kv v l):bz X)).rows.length,(bP (.map kc vc (Gq eq kv v l):bz X)).rows⟩)],[]⟩,?_,trivial,rfl,?_,by simp,h⟩
    .simp only[J9,h1,ai,hk,den,hkey,h2,fF (List.mem_singleton_self kk) h4];rw[aY ⟨g2,by simp[bP]⟩,aoo h7,g3];rfl
    .simp[jH,bP]
   .cases h
  .cases h
 .cases h
theorem ahI(h:apT T code i o.op ρ get k=some r):ef P T i o ρ get k r:=by
 obtain⟨dst,op,ty,am,after,guard⟩:=o;unfold apT at h;simp only at h;split at h
 .rename_i op t x y q;split at h
  .rename_i hn;have⟨dv,out,g1,g2,g3,g4,g5⟩:=ahG h;have hy:den (ρ y)=.cT:=(by cases hρ:ρ y<;>rw[hρ]at hn<;>first|rfl|cases hn);exact ef.ext (n:=0) (rd:=[]) (wr:=[]) (upd:=[]) (by simp only[ul,hy];exact g1) g2 g3 g4 (by simp) g5
  .cases h
 .rename_i s d x;unfold apy at h;rw[ah]at h;obtain⟨si,h1,h⟩:=h;rw[ah]at h;obtain⟨di,h2,h⟩:=h;split at h
  .rename_i kd k' n hk hx;refine ef.ext (n:=0) (rd:=[]) (wr:=[]) (upd:=[]) (out:=⟨.t (.sc (.int kd (kd.wrap n))),[],[]⟩) ?_ trivial rfl rfl (by simp) h;simp only[ul,T8,h1,h2,ai,hk,hx];rfl
  .cases h
 .rename_i t x j;unfold amj at h;rw[ah]at h;obtain⟨ti,h1,h⟩:=h;split at h
  .rename_i s kk n hk hx hj;rw[ah]at h;obtain⟨b,h2,h⟩:=h;refine ef.ext (n:=b) (rd:=[]) (wr:=[]) (upd:=[]) (out:=⟨.t (.sc (.int .u8 b)),[],[0<=n/\∃c,s[n.toNat]? =some c/\b=c.toNat]⟩) ?_ (ahH h2) rfl rfl (by simp) h;simp only[ul,Wz,h1,ai,hk,hx,hj];rfl
  .rename_i m e cs kd q hk hx hj;rw[ah]at h;obtain⟨ei,h2,h⟩:=h;have⟨h3,h⟩:=eu h;rw[ah]at h;obtain⟨v,h4,h⟩:=h;simp only[cz,aX,bq]at h3;refine ef.ext (n:=0) (rd:=[]) (wr:=[]) (upd:=[]) (out:=⟨den v,[],[0<=q/\q<(m:Int)]⟩) ?_ h3 rfl rfl (by simp) h;have h5:=Dg h4;rw[lu]at h5;simp only[ul,Wz,h1,ai,hk,hx,hj,h2,den,CT.tv,TV.av,h5];rfl
  .cases h
 .rename_i t x lo hi;unfold abd at h;rw[ah]at h;obtain⟨ti,h1,h⟩:=h;split at h
  .rename_i e hk hx;rw[ah]at h;obtain⟨ei,h2,h⟩:=h;rw[ah]at h;obtain⟨l,h3,h⟩:=h;rw[ah]at h;obtain⟨hh,h4,h⟩:=h;have⟨h5,h⟩:=eu h;refine ef.ext (n:=0) (rd:=[]) (wr:=[]) (upd:=[]) (out:=⟨.cT,[],[l=0/\hh=0]⟩) ?_ (show l=0/\hh=0 by simpa using h5) rfl rfl (by simp) h;have e1:=Dh h3;have e2:=Dh h4;rw[Option.map_map]at e1 e2;simp only[ul,J7,h1,ai,hk,hx,h2,den];have SR:bnd 0 (lo.map λx=>den (ρ x))=some l:=e1;have e2':bnd 0 (hi.map λx=>den (ρ x))=some hh:=e2;rw[SR,ai,e2'];rfl
  .cases h
 .rename_i x;have⟨dv,g1,g2⟩:=Um h;exact ef.xz (n:=0) (rd:=[]) (wr:=[]) (upd:=[]) g1 trivial rfl rfl (by simp) g2
 .rename_i t l c;have⟨dv,upd,out,g1,g2,g3,g4,g5,g6⟩:=aeU h;exact ef.xz (n:=0) (rd:=[]) (wr:=[]) (upd:=upd) g1 g2 g3 g4 (λ p hp=>.inl (g5 p hp)) g6
 .rename_i t;have⟨dv,upd,out,g1,g2,g3,g4,g5,g6⟩:=Xo h;exact ef.xz (n:=0) (rd:=[]) (wr:=[]) (upd:=upd) g1 g2 g3 g4 (λ p hp=>.inl (g5 p hp)) g6
 .rename_i t m x ok;have⟨rd,dv,out,g1,g2,g3,g4,g6⟩:=Z4 h;exact ef.xz (n:=0) (rd:=rd) (wr:=[]) (upd:=[]) g1 g2 g3 g4 (by simp) g6
 .rename_i t m x v;have⟨rd,wr,dv,upd,out,g1,g2,g3,g4,g5,g6⟩:=Z5 h;exact ef.xz (n:=0) (rd:=rd) (wr:=wr) (upd:=upd) g1 g2 g3 g4 (λ p hp=>.inr (g5 p hp)) g6
 .rename_i b args de;have⟨rd,wr,dv,upd,out,g1,g2,g3,g4,g5,g6⟩:=Un h;refine ef.ext (n:=0) (rd:=rd) (wr:=wr) (upd:=upd) ?_ g2 g3 g4 g5 g6;simp only[ul,VE];exact g1
 .cases h
theorem aeX{c:CT X.ι}:∀{xs:U Operand}{x:Operand}{y:CT.T X.toSE c×List Bool},x∈xs->Gf get (ρ x) c=some y->∀j∈bx (ρ x),j∈CM get c ρ xs
 |z::xs,x,y,hx,h,j,hj=>by simp[CM];rcases aL.1 hx with rfl|hx;left;rw[h];exact hj;exact .inr (aeX hx h j hj)
 |[],_,_,hx,_,_,_=>by grind
theorem aeY{c:CT X.ι}:∀{xs:U Operand}{x:Operand}{y:CT.T X.toSE c×List Bool},x∈xs->Gf get (ρ x) c=some y->∀b∈y.2,b∈S5 get c ρ xs
 |z::xs,x,y,hx,h,b,hb=>by simp[S5];rcases aL.1 hx with rfl|hx;left;rw[h];exact hb;exact .inr (aeY hx h b hb)
 |[],_,_,hx,_,_,_=>by grind
theorem ahJ(h:apU T code i o.op ρ get k=some r):ef P T i o ρ get k r:=by
 unfold apU at h;split at h;cases h;rename_i hpick;have⟨c,h1,h⟩:=ah.1 h;have⟨hcs,h⟩:=qN h;have⟨cy,rd,wr,dv,upd,out,g1,g2,g3,g4,g5,g6⟩:=aa7 h;generalize li:CM get c ρ o.op.operands.toList=ab at*;refine⟨.xv ab (λ x=>den (PJ get c ρ x)) cy,rd++ab,wr++ab,dv,upd++ND ab,⟨out.v,out.upd++ab.map (λ k=>(k,none)),out.obs++[∀ x∈o.op.operands,(gj P (dU (rd++ab) (gq get)) (den (ρ x)) (den (PJ get c ρ x))/\∀k∈refs (den (ρ x)),k∈ab)\/den (PJ get c ρ x)=den (ρ x)]⟩,?_,?_,g3,?_,?_,g6⟩;unfold kr Il;simp only;rw[aT hpick];have e:(λ k=>if k∈ab then none else dU (rd++ab) (gq get) k)=dU rd (gq λj=>if j∈ab then none else get j):=by
  grind [dU,gq]
 rw[e,g1];rfl;refine sJ _ λp hp=>?_;rcases bF.1 hp with hp|hp;exact rP _ g2 p hp;rw[bg]at hp;subst hp;intro x hx;unfold PJ;rcases hl:Gf get (ρ x) c with _|y;exact .inr rfl;left;have hx':x∈o.op.operands.toList:=by grind
 have hin:=λj hj=>li ▸ aeX hx' hl j hj;obtain⟨hs,obs,p1,p2⟩:=A7 (P:=P) (rd:=rd++ab) hl (λ b hb=>hcs b (aeY hx' hl b hb)) (λ j hj=>mem_append_right _ (hin j hj));refine⟨?_,λj hj=>hin j (by rwa [ja]at hj)⟩;have:=p2 [];exact Ew _ _ _ this p1;simp[tQ,Di,g4];intro p hp;rcases bF.1 hp with hp|hp;exact(g5 p hp).imp id (λ h=>mem_append_left _ h);exact .inr (mem_append_right _ (Kc hp))
theorem Xp{c:CT X.ι}:∀{ds:U (DV X)}{xs:U (CT.T X.toSE c)},HX c ds=some xs->bL ds=xs.map λy=>den (.c c y:DV X)
 |[],xs,h=>by simp[HX]at h;subst h;rfl
 |.c a x::ds,xs,h=>by simp[HX]at h;rw[ah]at h;obtain⟨y,h1,h⟩:=h;rw[ah]at h;obtain⟨l,h2,h⟩:=h;cases h;simp[bL,Xp h2,(pG h1).1]
 |.agg _::_,_,h|.fm _::_,_,h|.own _ _ _::_,_,h|.ptr _ _ _::_,_,h|.rK _ _ _::_,_,h|.mp _::_,_,h|.ud _ _ _ _ _::_,_,h|.rp _ _ _::_,_,h|.zd _ _ _ _ _::_,_,h|.fn _ _ _::_,_,h|.d7 _ _ _::_,_,h|.raw _::_,_,h|.nil::_,_,h|.ub::_,_,h|.skip::_,_,h|.undef::_,_,h=>by trivial
theorem ahK(h:apV T code o.op ρ get k=some r):ef P T i o ρ get k r:=by
 obtain⟨dst,op,ty,am,after,guard⟩:=o;unfold apV at h;simp only at h;split at h
 .rename_i t x j;rw[ah]at h;obtain⟨ti,h1,h⟩:=h;split at h
  .rename_i m e kk row aa kd n hk hx hj;rw[ah]at h;obtain⟨ei,h2,h⟩:=h;split at h
   .rename_i hs;have⟨h3,h⟩:=eu h;refine ef.op (cy:=.none) (rd:=[]) (wr:=[]) (upd:=[]) (λ _ _ _ e=>by cases e) (out:=⟨.ptr kk row (aa+n.toNat*1),[],[0<=n/\n.toNat<m]⟩) ?_ ⟨?_,?_,rfl,by simp,h⟩
    .simp only[ru,mV,h1,ai,hk,hx,hj,den,CT.tv,TV.av,h2,hs];rfl
    .simp only[cz,aX,bq]at h3;exact⟨h3.1,by omega⟩
    .simp only[den,Nat.mul_one]
   .cases h
  .rename_i m e c y aa kd n hk hx hj;rw[ah]at h;obtain⟨ei,h2,h⟩:=h;split at h
   .rename_i hs;have⟨h3,h⟩:=eu h;refine ef.op (cy:=.none) (rd:=[]) (wr:=[]) (upd:=[]) (λ _ _ _ e=>by cases e) (out:=⟨.eE (CT.row X.toSE c y) (aa+n.toNat*1),[],[0<=n/\n.toNat<m]⟩) ?_ ⟨?_,?_,rfl,by simp,h⟩
    .simp only[ru,mV,h1,ai,hk,hx,hj,den,CT.tv,TV.av,h2,hs];rfl
    .simp only[cz,aX,bq]at h3;exact⟨h3.1,by omega⟩
    .simp only[den,Nat.mul_one]
   .cases h
  .cases h
 .rename_i t a;rw[ah]at h;obtain⟨ti,h1,h⟩:=h;split at h
  .rename_i kk row aa m n hx;split at h
   .rename_i hs;rw[ah]at h;obtain⟨c,h2,h⟩:=h;split at h
    .rename_i hc;rw[ah]at h;obtain⟨ob,h3,h⟩:=h;split at h
     .rename_i sz rows;have⟨q,h4,h⟩:=ah.1 h;have⟨xs,h5,h⟩:=ah.1 h;have⟨y,h6,h⟩:=ah.1 h;have⟨_,h7⟩:=Nw h6;have h8:=Xp h5;have h9:((bL q).drop (aa+n.toNat)).take 1=[den (.c c y:DV X)]:=by
       have e1:(bL ((q.drop aa).take m))[n.toNat]? =some (den (.c c y:DV X)):=(by rw[h8,List.getElem?_map,h7];rfl);rw[lu,List.getElem?_take]at e1;split at e1
       .rw[List.getElem?_drop]at e1;have⟨g1,g2⟩:=dx.1 e1;rw[List.drop_eq_getElem_cons g1,List.take_succ_cons,List.take_zero,g2]
       .cases e1
      refine ef.op (cy:=.none) (rd:=[kk]) (wr:=[]) (upd:=[]) (λ _ _ _ e=>by cases e) (out:=⟨den (.c c y:DV X),[],[]⟩) ?_ ⟨trivial,rfl,rfl,by simp,h⟩;simp only[ru,K8,h1,ai,hx,den,fF (List.mem_singleton_self kk) h3,bP,List.getElem?_map,h4,Option.map_some,hs.1,hs.2];rw[h9];obtain⟨t',g1,g2⟩:=row_one hc y;simp only[den,g2,TV.av];rfl
     .cases h
     .cases h
    .cases h
   .cases h
  .rename_i b y0 aa m n hx;split at h
   .rename_i hs;rw[ah]at h;obtain⟨c,h2,h⟩:=h;split at h
    .rename_i hc;have⟨xs,h5,h⟩:=ah.1 h;have⟨y,h6,h⟩:=ah.1 h;have⟨_,h7⟩:=Nw h6;have h8:=Xp h5;have h9:(((CT.row X.toSE b y0).drop (aa+n.toNat)).take 1).map AV.t=[den (.c c y:DV X)]:=by
      have e1:(bL (((vQ b y0).drop aa).take m))[n.toNat]? =some (den (.c c y:DV X)):=(by rw[h8,List.getElem?_map,h7];rfl);rw[lu,qh,List.getElem?_take]at e1;split at e1
      .rw[List.getElem?_drop]at e1;have⟨g1,g2⟩:=dx.1 e1;rw[map_take,map_drop,List.drop_eq_getElem_cons g1,List.take_succ_cons,List.take_zero,g2]
      .cases e1
     refine ef.op (cy:=.none) (rd:=[]) (wr:=[]) (upd:=[]) (λ _ _ _ e=>by cases e) (out:=⟨den (.c c y:DV X),[],[]⟩) ?_ ⟨trivial,rfl,rfl,by simp,h⟩;simp only[ru,K8,h1,ai,hx,den,hs.1,hs.2];rw[h9];obtain⟨t',g1,g2⟩:=row_one hc y;simp only[den,g2,TV.av];rfl
    .cases h
   .cases h
  .cases h
 .cases h
end
end
section
variable {X:SX}
structure MA(X:SX) where
 nm:List (Nat×Nat)
 eK:List (DC X)
 j8:List Bool
def addN(m:MA X)(k' k:Nat):MA X:=if m.nm.contains (k',k)then m else⟨m.nm++[(k',k)],m.eK,m.j8⟩
section
variable (get:Nat->Option (bz X))
mutual
def mP:Pt X.ι->DV X->MA X->Option (MA X)
 |.v c,d,m=>(dat d c).bind λx=>some ⟨m.nm,m.eK++[⟨c,x⟩],m.j8⟩
 |.o k,d,m=>match d with
  |.own k' 0 len=>(get k').bind λo=>match o with
   |.ek _ l=>some (addN ⟨m.nm,m.eK,m.j8++[aE len l.length]⟩ k' k)
   |_=>none
  |_=>none
 |.oz k,d,m=>match d with
  |.own k' 0 len=>(get k').bind λo=>match o with
   |.ek _ l=>some (addN ⟨m.nm,m.eK,m.j8++[!(len==0)&&aE len l.length]⟩ k' k)
   |_=>none
  |.oz k' len=>(get k').bind λo=>match o with
   |.ek _ l=>some (addN ⟨m.nm,m.eK,m.j8++[aE len l.length]⟩ k' k)
   |_=>none
  |_=>none
 |.p k,d,m=>match d with
  |.ptr k' 0 0=>some (addN m k' k)
  |_=>none
 |.mp k,d,m=>match d with
  |.mp k'=>some (addN m k' k)
  |_=>none
 |.nil,d,m=>match d with
  |.nil=>some m
  |_=>none
 |.f F fs cs,d,m=>match d with
  |.fn F' first caps=>if F=F' then(uk fs first m).bind λm=>uk cs caps m else none
  |_=>none
 |.od k,d,m=>match d with
  |.own k' aa len=>(get k').bind λo=>match o with
   |.ek _ l=>some (addN ⟨m.nm,m.eK++[⟨.int .i64,(aa:Int)⟩],m.j8++[aE (aa+len) l.length]⟩ k' k)
   |_=>none
  |_=>none
 |.a ps,d,m=>match d with
  |.agg ds=>uk ps ds m
  |_=>none
def uk:List (Pt X.ι)->List (DV X)->MA X->Option (MA X)
 |[],[],m=>some m
 |p::ps,d::ds,m=>(mP p d m).bind λm=>uk ps ds m
 |_,_,_=>none
end
def IC(env:Nat->DV X):U (Nat×Pt X.ι)->MA X->J (MA X)
 |[],m=>some m
 |(t,p)::r,m=>(mP get p (env t) m).bind λm=>IC env r m
def Li:U (List (Pt X.ι))->U (List (DV X))->MA X->J (MA X)
 |[],[],m=>some m
 |r::rs,q::qs,m=>(uk get r q m).bind λm=>Li rs qs m
 |_,_,_=>none
def nameOf(m:MA X)(k:Nat):Nat:=match m.nm.find? (λ q=>q.2==k)with|some q=>q.1|none=>k
def Dj:U (Nat×OP X.ι)->MA X->J (MA X)
 |[],m=>some m
 |(k,op)::r,m=>(get (nameOf m k)).bind λo=>match op,o with
  |.l c,.ek c' l=>(lV (.sl c') (.sl c) l).bind λl'=>Dj r (addN ⟨m.nm,m.eK++[⟨.sl c,l'⟩],m.j8⟩ (nameOf m k) k)
  |.m kc vc,.map vm vh l=>(lV (.mp vm vh) (.mp kc vc) l).bind λl'=>Dj r (addN ⟨m.nm,m.eK++[⟨.mp kc vc,l'⟩],m.j8⟩ (nameOf m k) k)
  |.c sz rows,.cells sz' rows'=>if sz=sz' then(Li get rows rows' (addN m (nameOf m k) k)).bind λm=>Dj r m else none
  |_,_=>none
end
end
section
variable {X:SX} {A:Type}
mutual
def sA(f:Nat->Nat):DV X->DV X
 |.own k aa len=>.own (f k) aa len
 |.ptr k row aa=>.ptr (f k) row aa
 |.rK k n aa=>.rK (f k) n aa
 |.ud k row aa m n=>.ud (f k) row aa m n
 |.mp k=>.mp (f k)
 |.oz k len=>.oz (f k) len
 |.agg cs=>.agg (LV f cs)
 |.fm cs=>.fm (LV f cs)
 |.fn F first caps=>.fn F (LV f first) (LV f caps)
 |x=>x
def LV(f:Nat->Nat):List (DV X)->List (DV X)
 |[]=>[]
 |x::xs=>sA f x::LV f xs
end
theorem ahL(f:Nat->Nat):∀l:U Tree,Dc f (l.map AV.t)=l.map AV.t
 |[]=>rfl
 |x::xs=>by simp[Dc,kx,ahL f xs]
mutual
theorem A8(f:Nat->Nat):∀x:DV X,den (sA f x)=kx f (den x)
 |.own _ _ _|.ptr _ _ _|.rK _ _ _|.mp _|.oz _ _|.ud _ _ _ _ _=>rfl
 |.agg cs|.fm cs=>by simp[sA,den,kx,IE f cs]
 |.fn F first caps=>by simp[sA,den,kx,IE f first,IE f caps]
 |.c t x=>by
  simp[sA,den];cases t<;>try rfl
  simp[CT.tv,TV.av,kx,ahL]
 |.rp _ _ _|.zd _ _ _ _ _|.d7 _ _ _=>rfl
 |.raw v=>by simp[sA,den,cv];split;rfl;split<;>rfl
 |.nil|.ub|.skip|.undef=>rfl
theorem IE(f:Nat->Nat):∀l:List (DV X),bL (LV f l)=Dc f (bL l)
 |[]=>rfl
 |x::xs=>by simp[LV,bL,Dc,A8 f x,IE f xs]
end
def qt(f:Nat->Nat):bz X->bz X
 |.cells sz rows=>.cells sz (rows.map (LV f))
 |o=>o
def ee:bz X->U Nat
 |.cells _ rows=>(rows.map aP).flatten
 |.ek _ _=>[]
 |.map _ _ _=>[]
def T2:CT X.ι->Bool
 |.int _|.bool|.str=>true
 |_=>false
def yA:CT X.ι->Bool
 |.st i=>(X.de i).all T2
 |c=>T2 c
theorem EL{c:CT X.ι}(h:T2 c=true)(x:CT.T X.toSE c):∀t∈CT.row X.toSE c x,t.flat:=by cases c<;>first|(intro t ht;simp[CT.row]at ht;subst ht;trivial)|cases h
theorem ajA:∀(l:U (CT X.ι))(h:HL X.toSE l),l.all T2=true->∀t∈HL.row X.toSE l h,t.flat
 |[],_,_,t,ht=>by trivial
 |c::l,h,ha,t,ht=>by simp only[all_cons,aX]at ha;rcases bF.1 (show t∈CT.row X.toSE c h.1++HL.row X.toSE l h.2 from ht)with ht|ht;exact EL ha.1 h.1 t ht;exact ajA l h.2 ha.2 t ht
theorem vR{c:CT X.ι}(h:yA c=true)(x:CT.T X.toSE c):∀t∈CT.row X.toSE c x,t.flat:=by
 cases c
 case st i=>intro t ht;exact ajA (X.de i) (X.get i x) h t ((X.pj i x) ▸ ht)
 case int k=>exact EL (c:=.int k) h x
 case bool=>exact EL (c:=.bool) h x
 case str=>exact EL (c:=.str) h x
 case sl e=>cases h
 case any=>cases h
 trivial
structure MG(X:SX) where
 nm:List (Nat×Nat)
 eK:List (DC X)
 j8:List Bool
 vr:List Nat
section
variable (get:Nat->Option (bz X))
mutual
def qT:Pt X.ι->DV X->MG X->Option (MG X)
 |.v c,d,m=>(Gf get d c).bind λx=>some ⟨m.nm,m.eK++[⟨c,x.1⟩],m.j8++x.2,m.vr++bx d⟩
 |.o k,d,m=>match d with
  |.own k' 0 len=>(get k').bind λo=>match o with
   |.ek _ l=>some ⟨m.nm++[(k',k)],m.eK,m.j8++[aE len l.length],m.vr⟩
   |_=>none
  |_=>none
 |.od k,d,m=>match d with
  |.own k' aa len=>(get k').bind λo=>match o with
   |.ek _ l=>some ⟨m.nm++[(k',k)],m.eK++[⟨.int .i64,(aa:Int)⟩],m.j8++[aE (aa+len) l.length],m.vr⟩
   |_=>none
  |_=>none
 |.p k,d,m=>match d with
  |.ptr k' 0 0=>some ⟨m.nm++[(k',k)],m.eK,m.j8,m.vr⟩
  |_=>none
 |.nil,d,m=>match d with
  |.nil=>some m
  |_=>none
 |.f F fs cs,d,m=>match d with
  |.fn F' first caps=>if F=F' then(td fs first m).bind λm=>td cs caps m else none
  |_=>none
 |.mp k,d,m=>match d with
  |.mp k'=>some ⟨m.nm++[(k',k)],m.eK,m.j8,m.vr⟩
  |_=>none
 |.oz _,_,_=>none
 |.a ps,d,m=>match d with
  |.agg ds=>td ps ds m
  |_=>none
def td:List (Pt X.ι)->List (DV X)->MG X->Option (MG X)
 |[],[],m=>some m
 |p::ps,d::ds,m=>(qT p d m).bind λm=>td ps ds m
 |_,_,_=>none
end
def NE:U (List (Pt X.ι))->U (List (DV X))->MG X->J (MG X)
 |[],[],m=>some m
 |r::rs,q::qs,m=>(td get r q m).bind λm=>NE rs qs m
 |_,_,_=>none
def rL(m:MG X)(k:Nat):Nat:=match m.nm.find? (λ q=>q.2==k)with|some q=>q.1|none=>k
def stC:CT X.ι->Bool
 |.st _=>true
 |_=>false
def Dk:U (Nat×OP X.ι)->MG X->J (MG X)
 |[],m=>some m
 |(k,op)::r,m=>(get (rL m k)).bind λo=>match op,o with
  |.l c,.ek c' l=>(lV (.sl c') (.sl c) l).bind λl'=>Dk r ⟨m.nm++[(rL m k,k)],m.eK++[⟨.sl c,l'⟩],m.j8,m.vr⟩
  |.m kc vc,.map vm vh l=>if (kc.one=true/\vc.one=true)\/stC kc=true then(lV (.mp vm vh) (.mp kc vc) l).bind λl'=>Dk r ⟨m.nm++[(rL m k,k)],m.eK++[⟨.mp kc vc,l'⟩],m.j8,m.vr⟩else none
  |.c sz rows,.cells sz' rows'=>if sz=sz' then(NE get rows rows' ⟨m.nm++[(rL m k,k)],m.eK,m.j8,m.vr⟩).bind λm=>Dk r m else none
  |_,_=>none
end
mutual
def Pt.refs:Pt X.ι->List Nat
 |.o k|.od k|.p k|.mp k|.oz k=>[k]
 |.f _ fs cs=>xO fs++xO cs
 |.a ps=>xO ps
 |_=>[]
def xO:List (Pt X.ι)->List Nat
 |[]=>[]
 |p::ps=>p.refs++xO ps
end
def OP.refs:OP X.ι->U Nat
 |.l _=>[]
 |.m _ _=>[]
 |.c _ rows=>rows.flatMap xO
def K0(n k:Nat):Bool:=Nat.blt k n || (Nat.ble 1000 k&&Nat.blt k 1064)
def cQ.ok(g:cQ X):Bool:=
 decide (g.js.map (·.1)=List.range g.js.length)&&decide (g.js.length<=1000)&&(g.j7.all λq=>K0 g.js.length q.1&&q.2.refs.all λk=>K0 g.js.length k)&&decide (g.j7.map (·.1)).Nodup&&(xO g.gh).all λk=>K0 g.js.length k
def okG(m:MG X)(ab:U Nat):Bool:=
 decide ab.Nodup&&(m.nm.all λq=>match ab[q.2]? with|some k=>Nat.beq k q.1|none=>false)&&m.vr.all λk=>!ab.contains k
def cQ.flat(g:cQ X):Bool:=(cP g.gh).all yA&&g.j7.all λq=>match q.2 with
 |.l c=>yA c
 |.m _ _=>false
 |.c _ rows=>(wT rows).all yA
def ux:U (Nat×bz X)->Nat->J (bz X)
 |[],_=>none
 |(j,o)::r,k=>if j=k then some o else ux r k
def VC(i:Nat)(ab:U Nat)(os':U (Nat×bz X)):U (Nat×Option (bz X)):=
 (ab.zipIdx.map λp=>(p.1,(ux os' p.2).map (qt (cn i ab))))++(os'.filter λq=>decide (1000<=q.1)).map λq=>(cn i ab q.1,some (qt (cn i ab) q.2))
def ahM(g:cQ X)(i:Nat)(ds:U (DV X))(get:Nat->J (bz X))(k:KK X A):J A:=
 (td get g.m5 ds ⟨[],[],[],[]⟩).bind λm=>(Dk get g.js m).bind λm=>
  bif g.ok&&okG m ((List.range g.js.length).map (rL m))then(Hi (cP g.m5++df g.js) m.eK).bind λv=>WY m.j8 ((g.fn v).bind λr=>
   let ab:=(List.range g.js.length).map (rL m)
   k (sA (cn i ab) (g.res r)) (VC i ab (g.outs r)++(if g.flat then []else m.vr.map λk=>(k,none))) (ab++m.vr) ((ab++(VC i ab (g.outs r)).map (·.1))++m.vr))
  else none
section
variable {P:Program} {get:Nat->Option (bz X)} {rd ab:List Nat} {dE:Nat->Nat}
def gp(m m':MG X):Prop:=(∀ q∈m.nm,q∈m'.nm)/\(∀ c∈m.j8,c∈m'.j8)/\∀k∈m.vr,k∈m'.vr
theorem gp.refl(m:MG X):gp m m:=⟨λ _ h=>h,λ_ h=>h,λ_ h=>h⟩
theorem gp.trans{a b c:MG X}(h:gp a b)(h':gp b c):gp a c:=⟨λ q hq=>h'.1 q (h.1 q hq),λq hq=>h'.2.1 q (h.2.1 q hq),λq hq=>h'.2.2 q (h.2.2 q hq)⟩
mutual
theorem amo:∀(p:Pt X.ι)(d:DV X)(m m':MG X),qT get p d m=some m'->gp m m'/\∃al,m'.eK=m.eK++al/\al.length=p.vars.length
 |.v c,d,m,m',h=>by simp[qT]at h;rw[ah]at h;obtain⟨x,h1,h⟩:=h;cases h;exact⟨⟨λ _ h=>h,λ_ h=>by simp[h],λ_ h=>by simp[h]⟩,[⟨c,x.1⟩],rfl,rfl⟩
 |.o k,d,m,m',h=>by simp[qT]at h;split at h;rw[ah]at h;obtain⟨o,h1,h⟩:=h;split at h;cases h;exact⟨⟨λ _ h=>by simp[h],λ_ h=>by simp[h],λ_ h=>h⟩,[],by simp,rfl⟩;cases h;cases h
 |.od k,d,m,m',h=>by simp[qT]at h;split at h;rename_i k' aa len;have⟨o,h1,h⟩:=ah.1 h;split at h;cases h;exact⟨⟨λ _ h=>by simp[h],λ_ h=>by simp[h],λ_ h=>h⟩,[⟨.int .i64,(aa:Int)⟩],rfl,rfl⟩;cases h;cases h
 |.p k,d,m,m',h=>by simp[qT]at h;split at h;cases h;exact⟨⟨λ _ h=>by simp[h],λ_ h=>h,λ_ h=>h⟩,[],by simp,rfl⟩;cases h
 |.nil,d,m,m',h=>by simp[qT]at h;split at h;cases h;exact⟨gp.refl _,[],by simp,rfl⟩;cases h
 |.f F fs cs,d,m,m',h=>by simp[qT]at h;split at h;split at h;have⟨m1,h1,h⟩:=ah.1 h;obtain⟨a1,n1,b1,c1⟩:=wX fs _ m m1 h1;obtain⟨a2,n2,b2,c2⟩:=wX cs _ m1 m' h;exact⟨a1.trans a2,n1++n2,by rw[b2,b1,aV],by simp[Pt.vars,c1,c2]⟩;cases h;cases h
 |.mp k,d,m,m',h=>by simp[qT]at h;split at h;cases h;exact⟨⟨λ _ h=>by simp[h],λ_ h=>h,λ_ h=>h⟩,[],by simp,rfl⟩;cases h
 |.oz _,_,_,_,h=>by simp[qT]at h
 |.a ps,d,m,m',h=>by simp[qT]at h;split at h;exact wX ps _ m m' h;cases h
theorem wX:∀(ps:List (Pt X.ι))(ds:List (DV X))(m m':MG X),td get ps ds m=some m'->gp m m'/\∃al,m'.eK=m.eK++al/\al.length=(cP ps).length
 |[],[],m,m',h=>by simp[td]at h;subst h;exact⟨gp.refl _,[],by simp,rfl⟩
 |p::ps,d::ds,m,m',h=>by simp[td]at h;have⟨m1,h1,h⟩:=ah.1 h;have⟨a1,n1,b1,c1⟩:=amo p d m m1 h1;have⟨a2,n2,b2,c2⟩:=wX ps ds m1 m' h;exact⟨a1.trans a2,n1++n2,by rw[b2,b1,aV],by simp[cP,c1,c2]⟩
 |[],_::_,m,m',h|_::_,[],m,m',h=>by simp[td]at h
end
def AM:AV->U LH->U LH
 |.agg _,hs=>.agd::hs
 |_,hs=>hs
theorem NF(x:AV)(a b:U LH):AM x (a++b)=AM x a++b:=by cases x<;>rfl
theorem ze{get':Ω}{x:AV}{hs:U LH}{p:AV×List LH×List Prop}(h:qd P get' x hs=some p)(hr:∀k∈refs x,k∉ab):rC P get' ab x (AM x hs)=some p:=by
 have hd:((refs x).all λk=>!ab.contains k)=true:=by
  grind
 cases x
 all_goals
  simp[AM];unfold rC;split<;>first|trivial|grind|exact h|grind|(done)
variable {NM:List (Nat×Nat)} {q7:List Nat}
mutual
theorem akJ(hi:∀q∈NM,ab[q.2]? =some q.1)(hv:∀k∈q7,k∉ab)(hrd:∀k,(∃ q,(k,q)∈NM)\/k∈q7->k∈rd)(ho:∀q∈NM,∀c l,get q.1=some (.ek c l)->dE q.2=l.length):
 ∀(p:Pt X.ι)(d:DV X)(m m':MG X),qT get p d m=some m'->(∀ q∈m'.nm,q∈NM)->(∀ c∈m'.j8,c=true)->(∀ k∈m'.vr,k∈q7)->
 ∃al,m'.eK=m.eK++al/\∃d',(∀ ae,eP dE p (al++ae)=(d',ae))/\(∃ hs obs,(∀ p∈obs,p)/\∀ae,rC P (dU rd (gq get)) ab (den d) (hs++ae)=some (den d',ae,obs))/\∀j∈bx d,(∃ q,(j,q)∈NM)\/j∈q7
 |.v c,d,m,m',h,hn,hc,hr=>by simp[qT]at h;rw[ah]at h;obtain⟨x,h1,h⟩:=h;cases h;have sB:∀j∈bx d,j∈q7:=λj hj=>hr j (by simp[hj]);obtain⟨hs,obs,p1,q1⟩:=A7 (P:=P) (rd:=rd) h1 (λ b hb=>hc b (by simp[hb])) (λ j hj=>hrd j (.inr (sB j hj)));refine⟨[⟨c,x.1⟩],rfl,.c c x.1,λae=>rfl,⟨AM (den d) hs,obs,p1,λae=>?_⟩,λj hj=>.inr (sB j hj)⟩;rw[<- NF];exact ze (q1 ae) (λ k hk=>hv k (sB k (by rwa [ja]at hk)))
 |.o k,d,m,m',h,hn,hc,hr=>by
  simp[qT]at h;split at h;rename_i k' len;rw[ah]at h;obtain⟨o,h1,h⟩:=h;split at h;rename_i c l;cases h;have hq:(k',k)∈NM:=hn _ (by simp);have he:len=l.length:=by have:=hc (aE len l.length) (by simp);simpa[aE]using this
  refine⟨[],by simp,.own k 0 (dE k),λae=>rfl,⟨[.mut k],[],by simp,λae=>?_⟩,λj hj=>?_⟩;simp[den,rC,hi _ hq,ho _ hq c l h1,he];simp[bx]at hj;subst hj;exact .inl ⟨k,hq⟩;cases h;cases h
 |.od k,d,m,m',h,hn,hc,hr=>by
  simp[qT]at h;split at h;rename_i k' aa len;rw[ah]at h;obtain⟨o,h1,h⟩:=h;split at h;rename_i c l;cases h;have hq:(k',k)∈NM:=hn _ (by simp);have he:aa+len=l.length:=by have:=hc (aE (aa+len) l.length) (by simp);simpa[aE]using this
  refine⟨[⟨.int .i64,(aa:Int)⟩],rfl,.own k aa (dE k-aa),λae=>?_,⟨[.mut k],[],by simp,λae=>?_⟩,λj hj=>?_⟩;have:IF (X:=X) ⟨.int .i64,(aa:Int)⟩=aa:=by simp[IF];rw[Xi];simp
  simp[eP,this];simp[den,rC,hi _ hq,ho _ hq c l h1,show l.length-aa=len by omega];simp[bx,bg]at hj;subst hj;exact .inl ⟨k,hq⟩;cases h;cases h
 |.p k,d,m,m',h,hn,hc,hr=>by simp[qT]at h;split at h;rename_i k';cases h;have hq:(k',k)∈NM:=hn _ (by simp);refine⟨[],by simp,.ptr k 0 0,λae=>rfl,⟨[.mut k],[],by simp,λae=>?_⟩,λj hj=>?_⟩;simp[den,cons_append,fw,rC,hi _ hq,if_true];simp[bx,bg]at hj;subst hj;exact .inl ⟨k,hq⟩;cases h
 |.nil,d,m,m',h,hn,hc,hr=>by simp[qT]at h;split at h;cases h;refine⟨[],by simp,.nil,λae=>rfl,⟨[.nil],[],by simp,λae=>?_⟩,by simp[bx]⟩;exact ze (by simp[den,cons_append,fw,qd]) (by simp[den,refs]);cases h
 |.f F fs cs,d,m,m',h,hn,hc,hr=>by
  simp[qT]at h;split at h;rename_i F' first caps
  split at h;rename_i e;subst e;rw[ah]at h;obtain⟨m1,h1,h⟩:=h;have hm:=(wX cs _ m1 m' h).1;obtain⟨n1,a1,f',b1,⟨hs1,o1,p1,q1⟩,r1⟩:=zf hi hv hrd ho fs _ m m1 h1 (λ q hq=>hn q (hm.1 q hq)) (λ q hq=>hc q (hm.2.1 q hq)) (λ q hq=>hr q (hm.2.2 q hq));obtain⟨n2,a2,c',b2,⟨hs2,o2,p2,q2⟩,r2⟩:=zf hi hv hrd ho cs _ m1 m' h hn hc hr;refine⟨n1++n2,by rw[a2,a1,aV],.fn F f' c',λae=>by simp[eP,aV,b1,b2],⟨.fnw::(hs1++hs2),o1++o2,iM p1 p2,λae=>?_⟩,λj hj=>?_⟩;simp[den,cons_append,aV,rC,q1,ai,q2];simp[bx,bF]at hj;exact hj.elim (r1 j) (r2 j);cases h;cases h
 |.mp k,d,m,m',h,hn,hc,hr=>by simp[qT]at h;split at h;rename_i k';cases h;have hq:(k',k)∈NM:=hn _ (by simp);refine⟨[],by simp,.mp k,λae=>rfl,⟨[.mut k],[],by simp,λae=>?_⟩,λj hj=>?_⟩;simp[den,cons_append,fw,rC,hi _ hq,if_true];simp[bx,bg]at hj;subst hj;exact .inl ⟨k,hq⟩;cases h
 |.oz _,_,_,_,h,_,_,_=>by simp[qT]at h
 |.a ps,d,m,m',h,hn,hc,hr=>by simp[qT]at h;split at h;rename_i ds;have⟨n1,a1,f',b1,⟨hs1,o1,p1,q1⟩,r1⟩:=zf hi hv hrd ho ps ds m m' h hn hc hr;refine⟨n1,a1,.agg f',λae=>by simp[eP,b1],⟨.agw::hs1,o1,p1,λae=>?_⟩,λj hj=>r1 j (by simpa[bx]using hj)⟩;simp[den,cons_append,rC,q1,ai];cases h
theorem zf(hi:∀q∈NM,ab[q.2]? =some q.1)(hv:∀k∈q7,k∉ab)(hrd:∀k,(∃ q,(k,q)∈NM)\/k∈q7->k∈rd)(ho:∀q∈NM,∀c l,get q.1=some (.ek c l)->dE q.2=l.length):
 ∀(ps:List (Pt X.ι))(ds:List (DV X))(m m':MG X),td get ps ds m=some m'->(∀ q∈m'.nm,q∈NM)->(∀ c∈m'.j8,c=true)->(∀ k∈m'.vr,k∈q7)->
 ∃al,m'.eK=m.eK++al/\∃ds',(∀ ae,lE dE ps (al++ae)=(ds',ae))/\(∃ hs obs,(∀ p∈obs,p)/\∀ae,mW P (dU rd (gq get)) ab (bL ds) (hs++ae)=some (bL ds',ae,obs))/\∀j∈aP ds,(∃ q,(j,q)∈NM)\/j∈q7
 |[],[],m,m',h,_,_,_=>by simp[td,bV]at h;subst h;exact⟨[],by simp,[],λae=>rfl,⟨[],[],by simp,λae=>rfl⟩,by simp[aP]⟩
 |p::ps,d::ds,m,m',h,hn,hc,hr=>by simp[td]at h;have⟨m1,h1,h⟩:=ah.1 h;have hm:=(wX ps ds m1 m' h).1;obtain⟨n1,a1,d',b1,⟨hs1,o1,p1,q1⟩,r1⟩:=akJ hi hv hrd ho p d m m1 h1 (λ q hq=>hn q (hm.1 q hq)) (λ q hq=>hc q (hm.2.1 q hq)) (λ q hq=>hr q (hm.2.2 q hq));have⟨n2,a2,ds',b2,⟨hs2,o2,p2,q2⟩,r2⟩:=zf hi hv hrd ho ps ds m1 m' h hn hc hr;refine⟨n1++n2,by rw[a2,a1,aV],d'::ds',λae=>by simp[lE,aV,b1,b2],⟨hs1++hs2,o1++o2,iM p1 p2,λae=>?_⟩,λj hj=>?_⟩;simp[bL,aV,mW,q1,ai,q2];simp[aP,bF]at hj;exact hj.elim (r1 j) (r2 j)
 |[],_::_,m,m',h,_,_,_=>by simp[td]at h
 |_::_,[],m,m',h,_,_,_=>by simp[td]at h
end
theorem zy:∀(rs:U (List (Pt X.ι)))(qs:U (List (DV X)))(m m':MG X),NE get rs qs m=some m'->gp m m'/\∃al,m'.eK=m.eK++al/\al.length=(wT rs).length
 |[],[],m,m',h=>by simp[NE]at h;subst h;exact⟨gp.refl _,[],by simp,rfl⟩
 |r::rs,q::qs,m,m',h=>by simp[NE]at h;have⟨m1,h1,h⟩:=ah.1 h;have⟨a1,n1,b1,c1⟩:=wX r q m m1 h1;have⟨a2,n2,b2,c2⟩:=zy rs qs m1 m' h;exact⟨a1.trans a2,n1++n2,by grind,by simp[wT,c1,c2]⟩
 |[],_::_,m,m',h|_::_,[],m,m',h=>by trivial
theorem Ti(hi:∀q∈NM,ab[q.2]? =some q.1)(hv:∀k∈q7,k∉ab)(hrd:∀k,(∃ q,(k,q)∈NM)\/k∈q7->k∈rd)(ho:∀q∈NM,∀c l,get q.1=some (.ek c l)->dE q.2=l.length):
 ∀(rs:U (List (Pt X.ι)))(qs:U (List (DV X)))(m m':MG X),NE get rs qs m=some m'->(∀ q∈m'.nm,q∈NM)->(∀ c∈m'.j8,c=true)->(∀ k∈m'.vr,k∈q7)->
 ∃al,m'.eK=m.eK++al/\∃Hx,(∀ ae,wV dE rs (al++ae)=(Hx,ae))/\(∃ hs obs,(∀ p∈obs,p)/\Ez P (dU rd (gq get)) ab (qs.map bL) hs=some (Hx.map bL,obs))/\∀j∈(qs.map aP).flatten,(∃ q,(j,q)∈NM)\/j∈q7
 |[],[],m,m',h,_,_,_=>by simp[NE]at h;subst h;exact⟨[],by simp,[],λae=>rfl,⟨[],[],by simp,rfl⟩,by simp⟩
 |r::rs,q::qs,m,m',h,hn,hc,hr=>by
  simp[NE]at h;have⟨m1,h1,h⟩:=ah.1 h;have hm:=(zy rs qs m1 m' h).1;obtain⟨n1,a1,d',b1,⟨hs1,o1,p1,q1⟩,r1⟩:=zf (P:=P) hi hv hrd ho r q m m1 h1 (λ q hq=>hn q (hm.1 q hq)) (λ q hq=>hc q (hm.2.1 q hq)) (λ q hq=>hr q (hm.2.2 q hq));have⟨n2,a2,ds',b2,⟨hs2,o2,p2,q2⟩,r2⟩:=Ti hi hv hrd ho rs qs m1 m' h hn hc hr;refine⟨n1++n2,by rw[a2,a1,aV],d'::ds',λae=>by simp[wV,b1,b2],⟨hs1::hs2,o1++o2,iM p1 p2,?_⟩,λj hj=>?_⟩;have:=q1 [];rw[append_nil]at this;simp[Ez,this,q2]
  grind
 |[],_::_,m,m',h,_,_,_|_::_,[],m,m',h,_,_,_=>by simp[NE]at h
theorem mX:∀(os:U (Nat×OP X.ι))(m m':MG X),Dk get os m=some m'->gp m m'/\∃al,m'.eK=m.eK++al/\al.length=(df os).length
 |[],m,m',h=>by simp[Dk]at h;subst h;exact⟨gp.refl _,[],by simp,rfl⟩
 |(k,op)::r,m,m',h=>by simp[Dk]at h;rw[ah]at h;obtain⟨o,h1,h⟩:=h;split at h;rename_i c c' l;rw[ah]at h;obtain⟨l',h2,h⟩:=h;obtain⟨a2,n2,b2,c2⟩:=mX r _ m' h;refine⟨gp.trans (b:=⟨m.nm++[(rL m k,k)],m.eK++[⟨.sl c,l'⟩],m.j8,m.vr⟩) ⟨λ _ h=>by simp[h],λ_ h=>h,λ_ h=>h⟩ a2,[⟨.sl c,l'⟩]++n2,?_,by simp[df,c2]⟩;rw[b2,aV];rename_i kc vc vm vh l;split at h;rw[ah]at h;obtain⟨l',h2,h⟩:=h;obtain⟨a2,n2,b2,c2⟩:=mX r _ m' h;refine⟨gp.trans (b:=⟨m.nm++[(rL m k,k)],m.eK++[⟨.mp kc vc,l'⟩],m.j8,m.vr⟩) ⟨λ _ h=>by simp[h],λ_ h=>h,λ_ h=>h⟩ a2,[⟨.mp kc vc,l'⟩]++n2,?_,by simp[df,c2]⟩;rw[b2,aV];cases h;rename_i sz rows sz' rows';split at h;rw[ah]at h;obtain⟨m1,h2,h⟩:=h;obtain⟨a1,n1,b1,c1⟩:=zy rows _ _ m1 h2;have⟨a2,n2,b2,c2⟩:=mX r m1 m' h;refine⟨gp.trans (gp.trans (b:=⟨m.nm++[(rL m k,k)],m.eK,m.j8,m.vr⟩) ⟨λ _ h=>by simp[h],λ_ h=>h,λ_ h=>h⟩ a1) a2,n1++n2,?_,by simp[df,c1,c2]⟩;rw[b2,b1,aV];cases h;cases h
theorem EM:∀(os:U (Nat×OP X.ι))(m m':MG X),Dk get os m=some m'->(∀ q∈m'.nm,q∈NM)->∃al,m'.eK=m.eK++al/\∀ae,∀k∈os.map (·.1),∃k' o,(k',k)∈NM/\get k'=some o/\∀c l,o=.ek c l->(k,List.length l)∈lens os (al++ae)
 |[],m,m',h,_=>by
  simp_all [Dk]
 |(k,op)::r,m,m',h,hn=>by
  simp[Dk]at h;rw[ah]at h;obtain⟨o,h1,h⟩:=h;split at h;rename_i c c' l;rw[ah]at h;obtain⟨l',h2,h⟩:=h;have hm:=(mX r _ m' h).1;obtain⟨n2,b2,c2⟩:=EM r _ m' h hn;refine⟨[⟨.sl c,l'⟩]++n2,by grind,λae j hj=>?_⟩;simp only[bK,aL]at hj;by_cases hjk:j=k;subst hjk;refine⟨_,_,hn _ (hm.1 _ (by simp)),h1,λc2 l2 he=>?_⟩;injection he with e1 e2;subst e1;subst e2;have:=congrArg List.length (jN h2).2;simp at this;rw[this];exact List.mem_cons_self;rcases hj with rfl|hj;exact(hjk rfl).elim;have⟨k',o',g1,g2,g3⟩:=c2 ae j hj;exact⟨k',o',g1,g2,λc l he=>bQ _ (g3 c l he)⟩;rename_i kc vc vm vh l;split at h;rw[ah]at h;obtain⟨l',h2,h⟩:=h;have hm:=(mX r _ m' h).1;obtain⟨n2,b2,c2⟩:=EM r _ m' h hn;refine⟨[⟨.mp kc vc,l'⟩]++n2,by rw[b2,aV],λae j hj=>?_⟩;simp only[bK,aL]at hj;by_cases hjk:j=k;subst hjk;exact⟨_,_,hn _ (hm.1 _ (by simp)),h1,λc2 l2 he=>by cases he⟩;rcases hj with rfl|hj;exact(hjk rfl).elim;exact c2 ae j hj;cases h;rename_i sz rows sz' rows';split at h;have⟨m1,h2,h⟩:=ah.1 h;obtain⟨a1,n1,b1,c1⟩:=zy rows _ _ m1 h2;have hm:=(mX r _ m' h).1;obtain⟨n2,b2,c2⟩:=EM r _ m' h hn;refine⟨n1++n2,by rw[b2,b1,aV],λae j hj=>?_⟩;simp only[bK,aL]at hj;have hd:(n1++n2++ae).drop (wT rows).length=n2++ae:=by rw[<- c1,aV,List.drop_left]
  simp only[lens,hd];by_cases hjk:j=k;subst hjk;exact⟨_,_,hn _ (hm.1 _ (a1.1 _ (by simp))),h1,λc2 l2 he=>by cases he⟩;rcases hj with rfl|hj;exact(hjk rfl).elim;exact c2 ae j hj;cases h;cases h
theorem LW:∀(os:U (Nat×OP X.ι))(L:U (DC X)),((lens os L).map (·.1)).Sublist (os.map (·.1))
 |[],_=>by simp[lens]
 |(k,.l c)::r,L=>by
  simp[lens];split;exact(LW r _).cons_cons _
  grind
 |(k,.m kc vc)::r,L|(k,.c sz rows)::r,L=>(LW r _).cons _
def akK(get':Ω)(NM:U (Nat×Nat))(q7:U Nat)(bs:U OB)(ks:U Nat):Prop:=
 ∀(j:Nat) hs q o,bs[j]? =some (.HH hs)->ks[j]? =some q->get' q=some o->∀k∈Qv o,(∃ z,(k,z)∈NM)\/k∈q7
theorem NG{sz:Nat}{rows:U (List (DV X))}{k:Nat}(h:k∈Qv (bP (.cells sz rows))):k∈(rows.map aP).flatten:=by
 grind [Qv,bP,jo]
theorem acV:∀ts:U Tree,fA (ts.map AV.t)=[]
 |[]=>rfl
 |t::ts=>by simp[fA,refs,acV ts]
theorem ajC{P:Ξ}{get:Ω}:∀(ts:U Tree)(hs:U LH),nE P get (ts.map AV.t) hs=some (ts.map AV.t,hs,[])
 |[],hs=>rfl
 |t::ts,hs=>by simp[nE,qd,ajC ts hs]
theorem akL{P:Ξ}{get:Ω}{ab:U Nat}(v:TV):rC P get ab v.av []=some (v.av,[],[]):=by rcases v with x|cs;rfl;have h:refs (.agg (cs.map AV.t))=[]:=acV cs;simp[TV.av,rC,h,qd,ajC]
theorem abh{P:Ξ}{get:Ω}{ab:U Nat}:∀rows:U (TV×TV),Ez P get ab (rows.map λq=>[q.1.av,q.2.av]) (rows.map λ_=>[])=some (rows.map λq=>[q.1.av,q.2.av],[])
 |[]=>rfl
 |q::rows=>by simp[Ez,mW,akL,abh rows]
theorem A9(hi:∀q∈NM,ab[q.2]? =some q.1)(hv:∀k∈q7,k∉ab)(hrd:∀k,(∃ q,(k,q)∈NM)\/k∈q7->k∈rd)(ho:∀q∈NM,∀c l,get q.1=some (.ek c l)->dE q.2=l.length):
 ∀(os:U (Nat×OP X.ι))(m m':MG X),Dk get os m=some m'->(∀ q∈m'.nm,q∈NM)->(∀ c∈m'.j8,c=true)->(∀ k∈m'.vr,k∈q7)->
 ∃al,m'.eK=m.eK++al/\∃xs:U (Nat×bz X),(∀ ae,cO dE os (al++ae)=xs.map λp=>(p.1,some p.2))/\
  ∃bs mo,(∀ p∈mo,p)/\Ld P (dU rd (gq get)) ab (os.map λp=>(ab[p.1]?).getD 0) bs=some (xs.map λp=>bP p.2,mo)/\akK (dU rd (gq get)) NM q7 bs (os.map λp=>(ab[p.1]?).getD 0)
 |[],m,m',h,_,_,_=>by simp[Dk]at h;subst h;exact⟨[],by simp,[],λae=>rfl,[],[],by simp,rfl,λj hs q o h=>by simp at h⟩
 |(k,op)::r,m,m',h,hn,hc,hr=>by
  simp[Dk]at h;rw[ah]at h;obtain⟨o,h1,h⟩:=h;split at h;rename_i c c' l;have⟨l',h2,h⟩:=ah.1 h;have hm:=(mX r _ m' h).1;have hq:(rL m k,k)∈NM:=hn _ (hm.1 _ (by simp));have hid:(ab[k]?).getD 0=rL m k:=by grind
  have hget:=fF (hrd (rL m k) (.inl ⟨k,hq⟩)) h1;have⟨h3,h4⟩:=jN h2;obtain⟨n2,a2,xs,b2,bs,mo,p2,q2,r2⟩:=A9 hi hv hrd ho r _ m' h hn hc hr;refine⟨[⟨.sl c,l'⟩]++n2,by rw[a2,aV],(k,.ek c l')::xs,λae=>by simp[cO,b2],.dat (CT.sz X c,l'.map (CT.row X.toSE c))::bs,((bP (.ek c' l)).sz=CT.sz X c/\eF ((bP (.ek c' l)).rows.take (l'.map (CT.row X.toSE c)).length)=aI (l'.map (CT.row X.toSE c)))::mo,?_,?_,?_⟩;intro p hp;rcases aL.1 hp with rfl|hp;refine⟨h3,?_⟩;simp[bP,h4];rw[take_of_length_le (by simp[aI])];simp[eF,aI,wk];exact p2 p hp;simp[bK,Ld,WE,hid,hget,ai,q2,cons_append,fw];rfl;intro j hs q o' hj hq' ho';cases j with
  |zero=>simp at hj
  |succ j=>exact r2 j hs q o' (by simpa using hj) (by simpa using hq') ho'
  rename_i kc vc vm vh l;split at h;rename_i hone;have⟨l',h2,h⟩:=ah.1 h;have hm:=(mX r _ m' h).1;have hq:(rL m k,k)∈NM:=hn _ (hm.1 _ (by simp));have hid:(ab[k]?).getD 0=rL m k:=by rw[hi _ hq];rfl
  have hget:=fF (hrd (rL m k) (.inl ⟨k,hq⟩)) h1;have hden:bP (.map vm vh l)=bP (.map kc vc l'):=by have⟨e,h2⟩:=tC h2;injection e with e1 e2;subst e1;subst e2;subst h2;rfl
  obtain⟨n2,a2,xs,b2,bs,mo,p2,q2,r2⟩:=A9 hi hv hrd ho r _ m' h hn hc hr;rcases hone with hone|_;have hab:bP (.map kc vc l')=ir (List.length l',l'.map λq=>CT.row X.toSE kc q.1++CT.row X.toSE vc q.2):=by simp only[bP,ir,aI,map_map];congr 1;refine map_congr_left λq _=>?_;obtain⟨t1,g1,g2⟩:=row_one hone.1 q.1;obtain⟨t2,g3,g4⟩:=row_one hone.2 q.2;simp[g1,g2,g3,g4,TV.av]
  refine⟨[⟨.mp kc vc,l'⟩]++n2,by rw[a2,aV],(k,.map kc vc l')::xs,λae=>by simp[cons_append,fw,cO,b2,bK],.dat (List.length l',l'.map λq=>CT.row X.toSE kc q.1++CT.row X.toSE vc q.2)::bs,((bP (.map vm vh l)).sz=List.length l'/\eF ((bP (.map vm vh l)).rows.take (l'.map λq=>CT.row X.toSE kc q.1++CT.row X.toSE vc q.2).length)=aI (l'.map λq=>CT.row X.toSE kc q.1++CT.row X.toSE vc q.2))::mo,?_,?_,?_⟩;intro p hp;rcases aL.1 hp with rfl|hp;rw[hden,hab];refine⟨rfl,?_⟩;simp[ir];rw[take_of_length_le (by simp[aI])];simp[eF,aI,Function.comp_def,wk];exact p2 p hp;simp[bK,Ld,WE,hid,hget,ai,q2,cons_append,fw,hab];intro j hs q o' hj hq' ho';cases j with
  |zero=>simp at hj
  |succ j=>exact r2 j hs q o' (by simpa using hj) (by simpa using hq') ho'
  refine⟨[⟨.mp kc vc,l'⟩]++n2,by rw[a2,aV],(k,.map kc vc l')::xs,λae=>by simp[cons_append,fw,cO,b2,bK],.HH ((l'.map λq=>(CT.tv X.toSE kc q.1,CT.tv X.toSE vc q.2)).map λ_=>[])::bs,mo,p2,?_,?_⟩;have hlr:=abh (P:=P) (get:=dU rd (gq get)) (ab:=ab) (l'.map λq=>(CT.tv X.toSE kc q.1,CT.tv X.toSE vc q.2));have hdr:(bP (.map kc vc l')).rows=(l'.map λq=>(CT.tv X.toSE kc q.1,CT.tv X.toSE vc q.2)).map λq=>[q.1.av,q.2.av]:=by simp only[bP,map_map];rfl
  simp only[bK,Ld,WE,hid,hget,ai,q2,hden,hdr,hlr,fw];rw[<- hdr];intro j hs q o' hj hq' ho';cases j with
  |zero=>
   simp[bK,List.getElem?_cons_zero,bV]at hq';subst hq';rw[hid,hget]at ho';injection ho' with ho';subst ho';intro k hk;rw[hden]at hk;simp only[Qv,bP,mem_flatMap,mem_map]at hk;obtain⟨_,⟨q,_,rfl⟩,hk⟩:=hk;simp[fA,AZ,append_nil,oh]at hk
  |succ j=>exact r2 j hs q o' (by simpa using hj) (by simpa using hq') ho'
  cases h;rename_i sz rows sz' rows';split at h;rename_i hsz;have⟨m1,h2,h⟩:=ah.1 h;have hm1:=(zy rows _ _ m1 h2).1;have hm:=(mX r _ m' h).1;have hq:(rL m k,k)∈NM:=hn _ (hm.1 _ (hm1.1 _ (by simp)));have hid:(ab[k]?).getD 0=rL m k:=by rw[hi _ hq];rfl
  have hget:=fF (hrd (rL m k) (.inl ⟨k,hq⟩)) h1;obtain⟨n1,a1,qs,b1,⟨hs1,o1,p1,q1⟩,r1⟩:=Ti (P:=P) hi hv hrd ho rows _ _ m1 h2 (λ q hq=>hn q (hm.1 q hq)) (λ q hq=>hc q (hm.2.1 q hq)) (λ q hq=>hr q (hm.2.2 q hq));obtain⟨n2,a2,xs,b2,bs,mo,p2,q2,r2⟩:=A9 hi hv hrd ho r _ m' h hn hc hr;subst hsz;refine⟨n1++n2,by rw[a2,a1,aV],(k,.cells sz qs)::xs,λae=>by simp[aV,cO,b1,b2,bK],.HH hs1::bs,o1++mo,iM p1 p2,?_,?_⟩;simp[bK,Ld,WE,hid,hget,ai,bP,q1,q2];intro j hs q o' hj hq' ho';cases j with
  |zero=>
   simp[bK,List.getElem?_cons_zero,bV]at hq';rw[<- hq',hid,hget]at ho';injection ho' with ho';subst ho';exact λz hz=>r1 z (NG hz)
  |succ j=>exact r2 j hs q o' (by simpa using hj) (by simpa using hq') ho'
  cases h;cases h
end
end
end Go.Gb
namespace Go.Gb
open Go.RowKit
section
variable {X:SX} {A:Type}
theorem ahN:∀(l:U (CT X.ι))(v:VT (X:=X) l),(wU l v).map (·.c)=l
 |[],_|[_],_=>rfl
 |c::c'::l,v=>by simp[wU,ahN (c'::l) v.2]
theorem QK:∀{l:U Tree},(∀ t∈l,t.flat)->qM (l.map AV.t)
 |[],_=>trivial
 |t::l,h=>⟨h t (by simp),QK (λ u hu=>h u (by grind))⟩
theorem acW{c:CT X.ι}(h:yA c=true)(x:CT.T X.toSE c):EB (CT.tv X.toSE c x).av:=by
 have hf:=vR h x;cases c
 case st i=>exact QK hf
 all_goals trivial
section
variable {ol:Nat->Nat}
mutual
theorem aop:∀(p:Pt X.ι)(L:List (DC X))(cs:List (CT X.ι)),L.map (·.c)=p.vars++cs->p.vars.all yA=true->EB (den (eP ol p L).1)/\(eP ol p L).2.map (·.c)=cs
 |.v c,L,cs,h,hs=>by
  match L,h with
  |d::r,h=>
   simp[Pt.vars]at h;simp[Pt.vars]at hs;exact⟨acW (h.1 ▸ hs) d.x,h.2⟩
  |[],h=>trivial
 |.o k,L,cs,h,_|.p k,L,cs,h,_|.mp k,L,cs,h,_|.oz k,L,cs,h,_|.nil,L,cs,h,_=>⟨trivial,by trivial⟩
 |.od k,L,cs,h,_=>by
  match L,h with
  |d::r,h=>
   simp[Pt.vars]at h;exact⟨trivial,h.2⟩
  |[],h=>simp[Pt.vars]at h
 |.f F fs ps,L,cs,h,hs=>by simp only[Pt.vars,List.all_append,aX]at hs;simp[Pt.vars]at h;obtain⟨a1,a2⟩:=Dl fs L _ h hs.1;obtain⟨b1,b2⟩:=Dl ps _ _ a2 hs.2;exact⟨⟨a1,b1⟩,b2⟩
 |.a ps,L,cs,h,hs=>by simp only[Pt.vars]at h hs;exact Dl ps L cs h hs
theorem Dl:∀(ps:List (Pt X.ι))(L:List (DC X))(cs:List (CT X.ι)),L.map (·.c)=cP ps++cs->(cP ps).all yA=true->qM (bL (lE ol ps L).1)/\(lE ol ps L).2.map (·.c)=cs
 |[],L,cs,h,_=>⟨trivial,by simpa[cP,lE]using h⟩
 |p::ps,L,cs,h,hs=>by simp only[cP,List.all_append,aX]at hs;simp[cP]at h;obtain⟨a1,a2⟩:=aop p L _ h hs.1;obtain⟨b1,b2⟩:=Dl ps _ _ a2 hs.2;exact⟨⟨a1,b1⟩,b2⟩
end
mutual
theorem aoq:∀(p:Pt X.ι)(L:List (DC X)),∀j∈bx (eP ol p L).1,j∈p.refs
 |.v c,L,j,h=>by cases L<;>simp[eP,bx]at h
 |.o k,L,j,h|.p k,L,j,h|.mp k,L,j,h|.oz k,L,j,h=>by simpa[eP,bx,Pt.refs]using h
 |.nil,L,j,h=>by simp[eP,bx]at h
 |.od k,L,j,h=>by cases L<;>simp[eP,bx]at h<;>simp[Pt.refs,h]
 |.f F fs ps,L,j,h=>by simp[eP,bx]at h;simp[Pt.refs];exact h.imp (wY fs _ j) (wY ps _ j)
 |.a ps,L,j,h=>by simp[eP]at h;simp[Pt.refs];exact wY ps _ j h
theorem wY:∀(ps:List (Pt X.ι))(L:List (DC X)),∀j∈aP (lE ol ps L).1,j∈xO ps
 |[],L,j,h=>by simp[lE,aP]at h
 |p::ps,L,j,h=>by simp[lE,aP]at h;simp[xO];exact h.imp (aoq p _ j) (wY ps _ j)
end
theorem LX:∀(rs:U (List (Pt X.ι)))(L:U (DC X))(cs:U (CT X.ι)),L.map (·.c)=wT rs++cs->(wV ol rs L).2.map (·.c)=cs/\((wT rs).all yA=true->∀r∈(wV ol rs L).1,qM (bL r))
 |[],L,cs,h=>⟨by simpa[wT,wV]using h,by simp[wV]⟩
 |r::rs,L,cs,h=>by simp[wT]at h;have step:(lE ol r L).2.map (·.c)=wT rs++cs:=vq r L _ h;obtain⟨b1,b2⟩:=LX rs _ _ step;refine⟨b1,λhs q hq=>?_⟩;simp only[wT,List.all_append,aX]at hs;simp[wV]at hq;rcases hq with rfl|hq;exact(Dl r L _ h hs.1).1;exact b2 hs.2 q hq
where
 vq (ps:U (Pt X.ι)) (L:U (DC X)) (cs:U (CT X.ι)) (h:L.map (·.c)=cP ps++cs):(lE ol ps L).2.map (·.c)=cs:=pT ps L cs h
 GP:∀(p:Pt X.ι)(L:U (DC X))(cs:U (CT X.ι)),L.map (·.c)=p.vars++cs->(eP ol p L).2.map (·.c)=cs
  |.v c,L,cs,h=>by
   match L,h with
   |d::r,h=>simp[Pt.vars]at h;exact h.2
   |[],h=>simp[Pt.vars]at h
  |.o k,L,cs,h|.p k,L,cs,h|.mp k,L,cs,h|.oz k,L,cs,h|.nil,L,cs,h=>by simpa[Pt.vars,eP]using h
  |.od k,L,cs,h=>by
   match L,h with
   |d::r,h=>simp[Pt.vars]at h;exact h.2
   |[],h=>simp[Pt.vars]at h
  |.f F fs ps,L,cs,h=>by simp[Pt.vars]at h;exact pT ps _ _ (pT fs L _ h)
  |.a ps,L,cs,h=>by simp[Pt.vars]at h;exact pT ps L cs h
 pT:∀(ps:U (Pt X.ι))(L:U (DC X))(cs:U (CT X.ι)),L.map (·.c)=cP ps++cs->(lE ol ps L).2.map (·.c)=cs
  |[],L,cs,h=>by simpa[cP,lE]using h
  |p::ps,L,cs,h=>by simp[cP]at h;exact pT ps _ _ (GP p L _ h)
theorem Xq:∀(rs:U (List (Pt X.ι)))(L:U (DC X)),∀j∈((wV ol rs L).1.map aP).flatten,j∈rs.flatMap xO
 |[],L,j,h=>by simp[wV]at h
 |r::rs,L,j,h=>by simp only[wV,bK,List.flatten_cons,bF]at h;simp only[List.flatMap_cons,bF];exact h.imp (wY r _ j) (Xq rs _ j)
theorem zA:∀(O:U (Nat×OP X.ι))(L:U (DC X)),((dL (cO ol O L)).map (·.1)).Sublist (O.map (·.1))/\(∀ p∈dL (cO ol O L),∃op,(p.1,op)∈O/\∀j∈ee p.2,j∈op.refs)/\
 (L.map (·.c)=df O->(O.all λq=>match q.2 with|.l c=>yA c|.m _ _=>false|.c _ rows=>(wT rows).all yA)=true->∀p∈dL (cO ol O L),∀r∈(bP p.2).rows,qM r)
 |[],L=>⟨by simp[cO,dL],by simp[cO,dL],by simp[cO,dL]⟩
 |(k,.l c)::O,L=>by
  match L with
  |[]=>exact⟨by simp[cO,dL],by simp[cO,dL],by simp[cO,dL]⟩
  |⟨.sl c',x⟩::L=>
   have⟨h1,h2,h3⟩:=zA O L;refine⟨?_,?_,?_⟩;simp only[cO,dL,bK];exact h1.cons_cons _;intro p hp;simp[cO,dL]at hp;rcases hp with rfl|hp;exact⟨.l c,by simp,by simp[ee]⟩;have⟨op,g1,g2⟩:=h2 p hp;exact⟨op,bQ _ g1,g2⟩;intro hL hs p hp r hr;simp only[bK,df,List.cons.injEq]at hL;simp only[all_cons,aX]at hs;simp[cO,dL]at hp;rcases hp with rfl|hp;obtain⟨e,_⟩:=hL;injection e with e;simp only[bP,aI,mem_map]at hr;obtain⟨q,⟨y,hy,rfl⟩,rfl⟩:=hr;exact QK (vR (e ▸ hs.1) y);exact h3 hL.2 hs.2 p hp r hr
  |⟨.int _,x⟩::L=>exact⟨by simp[cO,dL],by simp[cO,dL],by simp[cO,dL]⟩
  |⟨.bool,x⟩::L=>exact⟨by simp[cO,dL],by simp[cO,dL],by simp[cO,dL]⟩
  |⟨.str,x⟩::L=>exact⟨by simp[cO,dL],by simp[cO,dL],by simp[cO,dL]⟩
  |⟨.any,x⟩::L=>exact⟨by simp[cO,dL],by simp[cO,dL],by simp[cO,dL]⟩
  |⟨.mp _ _,x⟩::L=>exact⟨by simp[cO,dL],by simp[cO,dL],by simp[cO,dL]⟩
  |⟨.st _,x⟩::L=>exact⟨by simp[cO,dL],by simp[cO,dL],by simp[cO,dL]⟩
 |(k,.m kc vc)::O,L=>by
  match L with
  |[]=>exact⟨by simp[cO,dL],by simp[cO,dL],by simp[cO,dL]⟩
  |⟨.mp vm vh,x⟩::L=>
   have⟨h1,h2,h3⟩:=zA O L;refine⟨?_,?_,?_⟩;simp only[cO,dL,bK];exact h1.cons_cons _;intro p hp;simp[cO,dL,aL]at hp;rcases hp with rfl|hp;exact⟨.m kc vc,by simp,by simp[ee]⟩;have⟨op,g1,g2⟩:=h2 p hp;exact⟨op,bQ _ g1,g2⟩;intro hL hs;simp at hs
  |⟨.sl _,x⟩::L=>exact⟨by simp[cO,dL],by simp[cO,dL],by simp[cO,dL]⟩
  |⟨.int _,x⟩::L=>exact⟨by simp[cO,dL],by simp[cO,dL],by simp[cO,dL]⟩
  |⟨.bool,x⟩::L=>exact⟨by simp[cO,dL],by simp[cO,dL],by simp[cO,dL]⟩
  |⟨.str,x⟩::L=>exact⟨by simp[cO,dL],by simp[cO,dL],by simp[cO,dL]⟩
  |⟨.any,x⟩::L=>exact⟨by simp[cO,dL],by simp[cO,dL],by simp[cO,dL]⟩
  |⟨.st _,x⟩::L=>exact⟨by simp[cO,dL],by simp[cO,dL],by simp[cO,dL]⟩
 |(k,.c sz rows)::O,L=>by have⟨h1,h2,h3⟩:=zA O (wV ol rows L).2;refine⟨?_,?_,?_⟩;simp only[cO,dL,bK];exact h1.cons_cons _;intro p hp;simp[cO,dL,aL]at hp;rcases hp with rfl|hp;exact⟨.c sz rows,by simp,λj hj=>Xq rows L j hj⟩;have⟨op,g1,g2⟩:=h2 p hp;exact⟨op,bQ _ g1,g2⟩;intro hL hs p hp r hr;simp[df]at hL;simp only[all_cons,aX]at hs;obtain⟨e1,e2⟩:=LX (ol:=ol) rows L _ hL;simp[cO,dL,aL]at hp;rcases hp with rfl|hp;simp[bP,mem_map]at hr;obtain⟨q,hq,rfl⟩:=hr;exact e2 hs.1 q hq;exact h3 e1 hs.2 p hp r hr
end
theorem QL(k:Nat):∀os:U (Nat×bz X),qk (pY os) k=(ux os k).map bP
 |[]=>rfl
 |(j,o)::r=>by simp[pY,qk,ux];split;rfl;exact QL k r
theorem Xr(f:Nat->Nat)(c:CT X.ι)(x:CT.T X.toSE c):kx f (CT.tv X.toSE c x).av=(CT.tv X.toSE c x).av:=(A8 f (.c c x)).symm
theorem aeZ(f:Nat->Nat)(o:bz X):bP (qt f o)=KD f (bP o):=by
 cases o with
 |cells sz rows=>simp only[qt,bP,KD,map_map];congr 1;exact map_congr_left λr _=>IE f r
 |ek c l=>simp only[qt,bP,KD,aI,map_map];congr 1;exact map_congr_left λr _=>(ahL f _).symm
 |map kc vc l=>simp only[qt,bP,KD,map_map];congr 1;exact map_congr_left λr _=>by simp[Dc,Xr]
theorem akM(i:Nat)(ab:U Nat)(os:U (Nat×bz X)):jH (VC i ab os)=CE i ab (pY os):=by simp[VC,tQ];congr 1;simp only[jH,map_map];refine map_congr_left λp _=>?_;simp[QL];cases ux os p.2<;>simp[aeZ];simp[jH,pY,List.filter_map];refine map_congr_left λq _=>?_;simp[aeZ]
theorem Xt{ds:U (DV X)}:(∀ j∈refs (den (zw ds)),j∈aP ds)/\(qM (bL ds)->EB (den (zw ds))):=by
 match ds with
 |[]=>exact⟨λ j hj=>by simp[zw,den,bL,refs,fA]at hj,λ_=>by simp[zw];exact trivial⟩
 |[d]=>exact⟨λ j hj=>by simp[zw,ja]at hj;simpa[aP]using hj,λh=>h.1⟩
 |d::e::r=>exact⟨λ j hj=>by simp[zw,den,refs,jo]at hj;exact hj,λh=>h⟩
theorem abj:∀xs:U (Nat×bz X),dL (xs.map λp=>(p.1,some p.2))=xs
 |[]=>rfl
 |p::xs=>by simp[dL,abj xs]
theorem acX{P:Ξ}{g:cQ X}{F:FuncId}(hg:H2 P F g){i:Nat}{first args caps:U (DV X)}{get:Nat->J (bz X)}{k:KK X A}{r:A}(h:ahM g i (first++args++caps) get k=some r):
 ∃cy rd wr dv upd out,l7 P i (den (.fn F first caps)) (bL args) cy (dU rd (gq get))=some out/\lg out.obs/\out.v=den dv/\out.upd=jH upd/\(∀ p∈upd,p.1=cJ i\/p.1∈wr)/\k dv upd rd wr=some r:=by
 unfold ahM at h;rw[ah]at h;obtain⟨m1,h1,h⟩:=h;rw[ah]at h;obtain⟨m,h2,h⟩:=h;have⟨h3,h⟩:=eu h;rw[ah]at h;obtain⟨v,h4,h⟩:=h;have⟨h5,h⟩:=qN h;rw[ah]at h;obtain⟨rr,h6,h⟩:=h;simp at h3;obtain⟨hok,DP⟩:=h3;simp only at h;generalize li:(List.range g.js.length).map (rL m)=ab at h DP;simp only[cQ.ok,aX,bq]at hok;obtain⟨⟨⟨⟨n1,n2⟩,n3⟩,n4⟩,n5⟩:=hok;simp only[okG,aX,bq]at DP;obtain⟨⟨hnd,hnm⟩,sB⟩:=DP;have hlen:ab.length=g.js.length:=by rw[<- li];simp
 have hi:∀q∈m.nm,ab[q.2]? =some q.1:=by intro q hq;have:=all_eq_true.1 hnm q hq;split at this;rename_i k' e;rw[e,Nat.eq_of_beq_eq_true this];cases this
 have hv:∀k∈m.vr,k∉ab:=λk hk=>by have:=all_eq_true.1 sB k hk;simpa using this
 have hrd:∀k,(∃ q,(k,q)∈m.nm)\/k∈m.vr->k∈ab++m.vr:=by rintro k (⟨q,hq⟩|hk);exact mem_append_left _ (cZ (hi _ hq));exact mem_append_right _ hk
 have hm2:=(mX _ _ _ h2).1;have xr:=Xh h4;obtain⟨_,nA,dA,lA⟩:=wX _ _ _ _ h1;simp at dA;obtain⟨nB,dB,lB⟩:=EM (NM:=m.nm) _ _ _ h2 (λ q hq=>hq);have hL:m.eK=nA++nB:=by rw[dB,dA]
 have hdrop:(wU _ v).drop (cP g.m5).length=nB:=by rw[xr,hL,<- lA,List.drop_left]
 have htake:(wU _ v).take (cP g.m5).length=nA:=by rw[xr,hL,<- lA,List.take_left]
 have ho:∀q∈m.nm,∀c l,get q.1=some (.ek c l)->EJ g.js nB q.2=l.length:=by
  rintro⟨p,q⟩ hq c l hl;have hq2:=hi _ hq;have hqn:q<g.js.length:=by rw[<- hlen];exact(dx.1 hq2).1
  obtain⟨p',o,g1,g2,g3⟩:=lB [] q (by rw[n1];exact List.mem_range.2 hqn);have:p'=p:=by have e1:=hi _ g1;rw[hq2]at e1;injection e1 with e1;exact e1.symm
  subst this;simp at hl;rw[hl]at g2;injection g2 with g2;have h3:=g3 c l g2.symm;rw[append_nil]at h3;have hk:=(LW g.js nB).nodup (by rw[n1];exact List.nodup_range);simp[EJ,vP hk h3]
 obtain⟨nA',Pc,ds',eA,⟨hs,obs,pA,qA⟩,rA⟩:=zf (P:=P) (ab:=ab) (rd:=ab++m.vr) (NM:=m.nm) (q7:=m.vr) (dE:=EJ g.js nB) hi hv hrd ho _ _ _ _ h1 (λ q hq=>hm2.1 q hq) (λ c hc=>h5 c (hm2.2.1 c hc)) (λ q hq=>hm2.2.2 q hq);obtain⟨nB',dB',xs,eB,bs,mo,pB,qB,rB⟩:=A9 (P:=P) (ab:=ab) (rd:=ab++m.vr) (NM:=m.nm) (q7:=m.vr) (dE:=EJ g.js nB) hi hv hrd ho _ _ _ h2 (λ q hq=>hq) h5 (λ q hq=>hq);have eqA:nA'=nA:=by simp at Pc;rw[<- Pc,dA]
 have eqB:nB'=nB:=List.append_cancel_left (dB'.symm.trans dB);subst eqA eqB;have O2:=eA [];have OS:=eB [];rw[append_nil]at O2 OS;have hargs:g.args v=ds':=by simp[cQ.args,Xj,hdrop,htake,O2]
 have rm:g.cD v=xs:=by simp[cQ.cD,ID,hdrop,OS,abj]
 have arN:(g.js.map λp=>(ab[p.1]?).getD 0)=ab:=by
  have:(g.js.map λp=>(ab[p.1]?).getD 0)=(g.js.map (·.1)).map λj=>(ab[j]?).getD 0:=by rw[map_map];rfl
  rw[this,n1];refine List.ext_getElem (by simp[hlen]) λj a b=>?_;simp[dP b]
 rw[arN]at qB rB;have qA0:=qA [];rw[append_nil,jI,jI]at qA0;have hcon:=hg v rr h6;rw[hargs,rm]at hcon;obtain⟨s1,s2,s3⟩:=zA (ol:=EJ g.j7 ((wU (i6 (ml 0 g.gh)++df g.j7) rr).drop (cP g.gh).length)) g.j7 ((wU _ rr).drop (cP g.gh).length);have Dd:∀k,K0 g.js.length k=true->G4 ab.length k:=by intro k hk;simp[K0]at hk;simp[hlen];exact hk
 have good:Ix ab.length (pY (g.outs rr)) (den (g.res rr)):=by
  refine⟨?_,?_,?_,?_⟩;intro q hq;simp only[pY,mem_map]at hq;obtain⟨p,hp,rfl⟩:=hq;have⟨op,g1,_⟩:=s2 p hp;have:=all_eq_true.1 n3 _ g1;simp at this;exact Dd _ this.1;have:(pY (g.outs rr)).map (·.1)=(g.outs rr).map (·.1):=by simp[pY]
  rw[this];exact s1.nodup n4;intro q hq r' hr' j hj;simp only[pY,mem_map]at hq;obtain⟨p,hp,rfl⟩:=hq;have⟨op,g1,g2⟩:=s2 p hp;have:=all_eq_true.1 n3 _ g1;simp only[aX]at this;refine Dd _ (all_eq_true.1 this.2 j (g2 j ?_));obtain⟨pk,po⟩:=p;cases po with
  |cells sz rows=>exact NG (mem_flatMap.2 ⟨r',hr',hj⟩)
  |ek c l=>
   simp[bP,aI,mem_map]at hr';obtain⟨z,_,rfl⟩:=hr';rw[acV]at hj;simp at hj
  |map kc vc l=>
   simp only[bP,mem_map]at hr';obtain⟨z,_,rfl⟩:=hr';simp only[fA,AZ,append_nil]at hj;simp at hj
  intro j hj;have:=(Xt (ds:=Xj g.gh g.j7 (wU _ rr))).1 j hj;exact Dd _ (all_eq_true.1 n5 j (wY g.gh _ j this))
 have flat:g.flat=true->oA (pY (g.outs rr)) (den (g.res rr)):=by intro hf;simp only[cQ.flat,aX]at hf;have hc:(wU (i6 (ml 0 g.gh)++df g.j7) rr).map (·.c)=cP g.gh++df g.j7:=(ahN _ rr).trans (by rw[QG]);refine⟨(Xt (ds:=Xj g.gh g.j7 (wU _ rr))).2 ?_,?_⟩;refine(Dl (ol:=_) g.gh _ [] ?_ hf.1).1;rw[append_nil,map_take,hc,List.take_left];intro q hq r' hr';simp only[pY,mem_map]at hq;obtain⟨p,hp,rfl⟩:=hq;exact s3 (by rw[map_drop,hc,List.drop_left]) hf.2 p hp r' hr'
 have cR:WG (dU (ab++m.vr) (gq get)) (bL first++bL args++bL caps) ab m.vr bs:=by refine⟨hv,λj hj hn=>?_,λj hs' q o e1 e2 e3 z hz hn=>?_⟩;rw[<- jI,<- jI,jo]at hj;rcases rA j hj with ⟨q,hq⟩|hj;exact absurd (cZ (hi _ hq)) hn;exact hj;rcases rB j hs' q o e1 e2 e3 z hz with ⟨q',hq⟩|hz;exact absurd (cZ (hi _ hq)) hn;exact hz
 refine⟨.u9 ab m.vr bs hs (pY (g.outs rr)) (den (g.res rr)) g.flat,ab++m.vr,_,_,_,
  ⟨kx (cn i ab) (den (g.res rr)),CE i ab (pY (g.outs rr))++(if g.flat then []else m.vr.map λk=>(k,none)),obs++mo++[Hs P F (bL ds') (xs.map λp=>bP p.2) (pY (g.outs rr)) (den (g.res rr)),Ix ab.length (pY (g.outs rr)) (den (g.res rr)),WG (dU (ab++m.vr) (gq get)) (bL first++bL args++bL caps) ab m.vr bs]++(if g.flat then [oA (pY (g.outs rr)) (den (g.res rr))]else [])⟩,?_,?_,(A8 _ _).symm,?_,?_,h⟩
 simp only[den,l7,Nj,qB,qA0,ai];rw[aY ⟨hnd,by omega⟩];refine sJ _ (iM (iM (iM pA pB) ?_) ?_);intro z hz;simp only[aL,oh,or_false]at hz;rcases hz with rfl|rfl|rfl;exact hcon;exact good;exact cR;intro z hz;cases hf:g.flat with
 |true=>rw[hf]at hz;simp only[if_true,bg]at hz;subst hz;exact flat hf
 |false=>rw[hf]at hz;simp at hz
 simp[tQ,akM];congr 1;cases g.flat with
 |true=>rfl
 |false=>exact(Di m.vr).symm
 intro p hp;refine .inr ?_;rcases bF.1 hp with hp|hp;exact mem_append_left _ (mem_append_right _ (mem_map.2 ⟨p,hp,rfl⟩));cases hf:g.flat with
 |true=>rw[hf]at hp;simp at hp
 |false=>
  rw[hf]at hp;simp[Bool.false_eq_true,if_false,mem_map]at hp;obtain⟨z,hz,rfl⟩:=hp;exact mem_append_right _ hz
end
section
variable {X:SX} {A:Type}
def Xu:RT X.ι->Bool
 |.d c=>yA c
 |.fresh e=>yA e
 |.whole _=>true
 |.mu c=>yA c
 |.mr c=>yA c
 |.mv=>true
theorem ae0{c:CT X.ι}(h:yA c=true)(x:CT.T X.toSE c):(CT.tv X.toSE c x).flat:=by
 cases c
 case st i=>exact vR h x
 all_goals trivial
theorem Xv{ns:U Nat}{q:RT X.ι}{x:RT.T X q}(h:Xu q=true):∀c∈Xk ns q x,c.flat:=by
 intro c hc;cases q<;>simp[Xk]at hc
 case d c=>subst hc;exact ae0 h x
 case fresh e=>
  subst hc;intro row hr;obtain⟨y,_,rfl⟩:=mem_map.1 hr;exact vR h y
 case whole j=>subst hc;trivial
theorem Tj{ns:U Nat}:∀{l:U (RT X.ι)}{x:uh X l},l.all Xu=true->∀c∈EK ns l x,c.flat
 |[],x,_,c,hc=>by trivial
 |[q],x,h,c,hc=>Xv (by grind) c hc
 |q::q'::l,x,h,c,hc=>by simp at h;simp[EK]at hc;rcases hc with hc|hc;exact Xv h.1 c hc;exact Tj (by grind) c hc
theorem Xw{l:U (RT X.ι)}(x:uh X l)(h:l.all Xu=true):(uo l x).flat:=by have:=Tj (ns:=AN l x) (x:=x) h;unfold uo;split;rename_i c hc;exact this c (by grind);trivial
theorem abk{q:RT X.ι}{x:RT.T X q}(h:Xu q=true):Ww (rR q x):=by
 intro p hp;cases q<;>simp[rR]at hp
 case mu c=>
  subst hp;intro r hr;obtain⟨y,_,rfl⟩:=mem_map.1 hr;exact vR h y
 case mr c=>
  subst hp;intro r hr;obtain⟨y,_,rfl⟩:=mem_map.1 hr;exact vR h y
theorem abl:∀{l:U (RT X.ι)}{x:uh X l},l.all Xu=true->Ww (qi l x)
 |[],x,_=>λp hp=>by trivial
 |[q],x,h=>abk (q:=q) (by grind)
 |q::q'::l,x,h=>by simp at h;intro p hp;rcases bF.1 (show some p∈rR q x.1++qi (q'::l) x.2 from hp)with hp|hp;exact abk h.1 p hp;exact abl (l:=q'::l) (by grind) p hp
def IG(i:Nat)(ab ns:U Nat):(q:RT X.ι)->RT.T X q->U (DV X)×List (Nat×Option (bz X))
 |.d c,x=>([.c c x],[])
 |.fresh e,l=>([.own (cJ i) 0 l.length],[(cJ i,some (.ek e l))])
 |.whole j,_=>([match ab[j]? with|some k=>.own k 0 (ns.getD j 0)|none=>.undef],[])
 |_,_=>([],[])
def Lj(i:Nat)(ab ns:U Nat):(l:U (RT X.ι))->uh X l->J (List (DV X)×List (Nat×Option (bz X)))
 |[],_=>some ([],[])
 |[q],x=>some (IG i ab ns q x)
 |q::q'::l,x=>(Lj i ab ns (q'::l) x.2).bind λp=>if (IG i ab ns q x.1).2.isEmpty || p.2.isEmpty then some ((IG i ab ns q x.1).1++p.1,(IG i ab ns q x.1).2++p.2)else none
def aqB:U (DV X)->DV X
 |[d]=>d
 |ds=>.fm ds
def HW(i:Nat)(ab:U Nat)(l:U (RT X.ι))(x:uh X l):J (DV X×List (Nat×Option (bz X))):=
 (Lj i ab (AN l x) l x).bind λp=>some (aqB p.1,p.2)
theorem acY(u:U (Nat×Option (bz X))):(jH u).isEmpty=u.isEmpty:=by cases u<;>rfl
theorem abm(i:Nat)(ab ns:U Nat)(q:RT X.ι)(x:RT.T X q):(∃ c,Xk ns q x=[c]/\∃d,(IG i ab ns q x).1=[d]/\KC i ab c=(den d,jH (IG i ab ns q x).2))\/(Xk ns q x=[]/\IG i ab ns q x=([],[])):=by
 cases q
 case d c=>exact .inl ⟨_,rfl,_,rfl,rfl⟩
 case fresh e=>exact .inl ⟨_,rfl,_,rfl,by simp[KC,IG,den,jH,bP,aI]⟩
 case whole j=>
  refine .inl ⟨_,rfl,_,rfl,?_⟩;simp[KC,jH,IG];cases ab[j]?<;>rfl
 all_goals exact .inr ⟨rfl,rfl⟩
theorem ae1(i:Nat)(ab:U Nat)(c:RC):Nf i ab [c]=some ([(KC i ab c).1],(KC i ab c).2):=by simp[Nf]
theorem abn(i:Nat)(ab ns:U Nat):∀(l:U (RT X.ι))(x:uh X l)(p:U (DV X)×List (Nat×Option (bz X))),Lj i ab ns l x=some p->Nf i ab (EK ns l x)=some (bL p.1,jH p.2)
 |[],_,p,h=>by simp[Lj]at h;subst h;rfl
 |[q],x,p,h=>by simp[Lj]at h;subst h;simp[EK];rcases abm i ab ns q x with ⟨c,h1,d,h2,h3⟩|⟨h1,h2⟩;rw[h1,ae1,h2,h3];simp[bL];rw[h1,h2];rfl
 |q::q'::l,x,p,h=>by simp only[Lj]at h;rw[ah]at h;obtain⟨p',h1,h⟩:=h;have ih:=abn i ab ns (q'::l) x.2 p' h1;split at h;rename_i hc;cases h;simp[EK];rcases abm i ab ns q x.1 with ⟨c,h1,d,h2,h3⟩|⟨h1,h2⟩;rw[h1];simp only[List.singleton_append,Nf,ih,ai,h3,acY];rw[aY hc,h2];simp[bL,jH];rw[h1,h2];exact ih;cases h
theorem ae2{i:Nat}{ab:U Nat}{l:U (RT X.ι)}{x:uh X l}{p:DV X×List (Nat×Option (bz X))}(h:HW i ab l x=some p):imp i ab (uo l x)=some (den p.1,jH p.2):=by
 unfold HW at h;rw[ah]at h;obtain⟨p',h1,h⟩:=h;cases h;have ih:=abn i ab _ l x p' h1;unfold uo;split;rename_i c hc;rw[hc,ae1]at ih;simp at ih;obtain⟨ds,u⟩:=p'
 match ds,ih with
 |[d],ih=>
  grind [bL,imp,aqB,ih.1,ih.2]
 |[],ih|_::_::_,ih=>grind [bL]
 rename_i hne;simp[imp,ih];obtain⟨ds,u⟩:=p'
 match ds,ih with
 |[],_|_::_::_,_=>rfl
 |[d],ih=>
  exfalso;generalize hcs:EK (AN l x) l x=cs at ih hne
  match cs,ih,hne with
  |[],ih,_=>grind [Nf,bL]
  |[c],_,hne=>grind
  |c::c'::cs,ih,_=>
   simp[Nf]at ih;cases h3:Nf i ab cs with
   |none=>grind
   |some q=>
    rw[h3]at ih;simp at ih;split at ih;simp only[ai]at ih;split at ih;simp[bL]at ih;cases ih;simp at ih
def S4:(q:RT X.ι)->RT.T X q->U (Option (bz X))
 |.mu c,x=>[some (.ek c x)]
 |.mr c,x=>[some (.cells (CT.sz X c) [vQ c x])]
 |.mv,_=>[none]
 |_,_=>[]
def Xx:(l:U (RT X.ι))->uh X l->U (Option (bz X))
 |[],_=>[]
 |[q],x=>S4 q x
 |q::q'::l,x=>S4 q x.1++Xx (q'::l) x.2
def Tk:U Nat->U (Option (bz X))->U (Nat×Option (bz X))
 |k::ab,p::os=>(k,p)::Tk ab os
 |_,_=>[]
theorem ae3(q:RT X.ι)(x:RT.T X q):(S4 q x).map (·.map bP)=(rR q x).map (·.map ir):=by
 cases q<;>try rfl
 case mr c=>simp[S4,rR,bP,ir,vD,aI,qh]
theorem QM:∀(l:U (RT X.ι))(x:uh X l),(Xx l x).map (·.map bP)=(qi l x).map (·.map ir)
 |[],_=>rfl
 |[q],x=>ae3 q x
 |q::q'::l,x=>by simp[Xx,qi,ae3,QM (q'::l) x.2]
theorem abo:∀(ab:U Nat)(os:U (Option (bz X)))(os':U (Option fC)),os.map (·.map bP)=os'.map (·.map ir)->jH (Tk ab os)=Db ab os'
 |[],_,_,_=>by rfl
 |_::_,[],[],_=>rfl
 |k::ab,p::os,p'::os',h=>by
  simp at h;have:=abo ab os os' h.2
  simp_all [jH,Tk,Db,h.1,this]
 |_::_,[],_::_,h|_::_,_::_,[],h=>by simp at h
theorem LY:∀{ab:U Nat}{os:U (Option (bz X))}{p:Nat×Option (bz X)},p∈Tk ab os->p.1∈ab
 |[],_,_,h|_::_,[],_,h=>by trivial
 |k::ab,q::os,p,h=>by simp[Tk]at h;rcases h with rfl|h;simp;exact bQ _ (LY h)
def acZ(get:Nat->J (bz X))(d:DV X)(c:CT X.ι):J (List (CT.T X.toSE c)×Nat×List Bool):=
 match d with
 |.own k 0 len=>(get k).bind λo=>match o with
  |.ek b l=>(lV (.sl b) (.sl c) l).bind λ(l:List (CT.T X.toSE c))=>some (l,k,[aE len (List.length l)])
  |_=>none
 |_=>none
def Xy(get:Nat->J (bz X))(d:DV X)(c:CT X.ι):J (CT.T X.toSE c×Nat):=
 match d with
 |.ptr k 0 0=>(get k).bind λo=>match o with
  |.cells sz [row]=>if sz=CT.sz X c then(Nv c row).bind λx=>some (x,k)else none
  |_=>none
 |_=>none
def qj(Γ:FuncId->J (ci X))(get:Nat->J (bz X)):U (DV X)->(l:U (AT X.ι))->J (jB X l×List Nat×List Bool)
 |[],[]=>some ((),[],[])
 |d::ds,.mut c::l=>(acZ get d c).bind λx=>(qj Γ get ds l).bind λh=>some ((x.1,h.1),x.2.1::h.2.1,x.2.2++h.2.2)
 |d::ds,.kA c::l=>(Xy get d c).bind λx=>(qj Γ get ds l).bind λh=>some ((x.1,h.1),x.2::h.2.1,h.2.2)
 |d::ds,.d c::l=>(Tf Γ get 3 [d] [.d c]).bind λx=>(qj Γ get ds l).bind λh=>some ((x.1.1,h.1),h.2.1,x.2++h.2.2)
 |d::ds,.ref c::l=>(Tf Γ get 3 [d] [.ref c]).bind λx=>(qj Γ get ds l).bind λh=>some ((x.1.1,h.1),h.2.1,x.2++h.2.2)
 |d::ds,.d7 as r::l=>(Tf Γ get 3 [d] [.d7 as r]).bind λx=>(qj Γ get ds l).bind λh=>some ((x.1.1,h.1),h.2.1,x.2++h.2.2)
 |d::ds,.nil::l=>match d with
  |.nil=>(qj Γ get ds l).bind λh=>some (((),h.1),h.2.1,h.2.2)
  |_=>none
 |_,_=>none
def Kg:U (DV X)->U (AT X.ι)->U Nat
 |d::ds,a::l=>(if a.im then []else bx d)++Kg ds l
 |_,_=>[]
def W6(get:Nat->J (bz X)):U (DV X)->(l:U (CT X.ι))->J (HL X.toSE l×List Bool)
 |[],[]=>some ((),[])
 |d::ds,c::l=>(Gf get d c).bind λx=>(W6 get ds l).bind λh=>some ((x.1,h.1),x.2++h.2)
 |_,_=>none
variable (Γ:FuncId->Option (ci X))
def amq(i:Nat)(f:DV X)(args:U (DV X))(get:Nat->J (bz X))(k:KK X A):J A:=
 match f with
 |.fn F first caps=>(Γ F).bind λs=>match s.gen.filter λg=>(td get g.m5 (first++args++caps) ⟨[],[],[],[]⟩).isSome with
  |some g=>ahM g i (first++args++caps) get k
  |none=>if (s.args.all (λ q=>q.pl)&&s.res.all (λ q=>!q.out))=true then(Tf Γ get 3 (first++args++caps) s.args).bind λa=>WY a.2 ((s.fn a.1).bind λx=>(HW i [] s.res x).bind λp=>
   if s.res.all Xu then k p.1 p.2 (aP (first++args++caps)) []
   else k p.1 (p.2++ND (aP (first++args++caps))) (aP (first++args++caps)) (aP (first++args++caps)))
  else(qj Γ get (first++args++caps) s.args).bind λa=>WY a.2.2 ((s.fn a.1).bind λx=>(HW i a.2.1 s.res x).bind λp=>
   if (decide a.2.1.Nodup&&(Kg (first++args++caps) s.args).all (λ j=>!a.2.1.contains j)&&decide ((Xx s.res x).length=a.2.1.length))=true then
    if s.res.all Xu then k p.1 (p.2++Tk a.2.1 (Xx s.res x)) (aP (first++args++caps)) a.2.1
    else k p.1 (p.2++(Tk a.2.1 (Xx s.res x)++ND ((aP (first++args++caps)).filter λj=>!a.2.1.contains j))) (aP (first++args++caps)) (a.2.1++(aP (first++args++caps)).filter λj=>!a.2.1.contains j)
   else none)
 |.d7 as q φ=>(W6 get args as).bind λh=>WY h.2 ((φ h.1).bind λy=>
  if yA q then k (.c q y) [] (aP args) []else k (.c q y) (ND (aP args)) (aP args) (aP args))
 |_=>none
def Hd(fz:U Nat)(T:en)(code:TypeId->J (CT X.ι))(i:Nat)(o:Op)(ρ:Operand->DV X)(get:Nat->J (bz X))(k:KK X A):J A:=
 match o with
 |.call { callee:=.value f,args:=args,argTypes:=_ }=>amq Γ i (ρ f) (args.toList.map ρ) get k
 |o=>if aqy o ρ then apT T code i o ρ get k else if aqz o ρ || fz.contains i then apU T code i o ρ get k else if aqA T o ρ then apV T code o ρ get k else Sa T code i o ρ get k
variable {Γ}
theorem NH{P:Ξ}{get:Nat->J (bz X)}{rd:U Nat}:∀{ds:U (DV X)}{l:U (CT X.ι)}{h:HL X.toSE l×List Bool},W6 get ds l=some h->(∀ b∈h.2,b=true)->(∀ j∈aP ds,j∈rd)->
 ∃hs obs,(∀ p∈obs,p)/\∀ae,nE P (dU rd (gq get)) (bL ds) (hs++ae)=some ((HL.pr X.toSE l h.1).map TV.av,ae,obs)
 |[],[],h,_,_,_=>⟨[],[],by simp,λae=>rfl⟩
 |d::ds,c::l,h,hr,hc,hrd=>by simp[W6]at hr;have⟨x,h1,hr⟩:=ah.1 hr;have⟨g,h2,hr⟩:=ah.1 hr;cases hr;obtain⟨hs1,o1,p1,q1⟩:=A7 (P:=P) (rd:=rd) h1 (λ b hb=>hc b (by grind)) (λ j hj=>hrd j (by simp[aP,hj]));obtain⟨hs2,o2,p2,q2⟩:=NH (P:=P) (rd:=rd) h2 (λ b hb=>hc b (by grind)) (λ j hj=>hrd j (by simp[aP,hj]));refine⟨hs1++hs2,o1++o2,iM p1 p2,λae=>?_⟩;simp[bL,nE,q1,q2];rfl
 |[],_::_,_,hr,_,_|_::_,[],_,hr,_,_=>by trivial
theorem Xz{i:Nat}{ab ns:U Nat}{q:RT X.ι}{x:RT.T X q}:∀p∈(IG i ab ns q x).2,p.1=cJ i:=by cases q<;>simp[IG]
theorem XA{i:Nat}{ab ns:U Nat}:∀{l:U (RT X.ι)}{x:uh X l}{p:U (DV X)×List (Nat×Option (bz X))},Lj i ab ns l x=some p->∀q∈p.2,q.1=cJ i
 |[],_,p,h=>by grind [Lj]
 |[q],x,p,h=>by simp[Lj]at h;subst h;exact Xz
 |q::q'::l,x,p,h=>by simp[Lj]at h;have⟨p',h1,h⟩:=ah.1 h;split at h;cases h;intro z hz;rcases bF.1 hz with hz|hz;exact Xz z hz;exact XA h1 z hz;cases h
theorem abp{i:Nat}{ab:U Nat}{l:U (RT X.ι)}{x:uh X l}{p:DV X×List (Nat×Option (bz X))}(h:HW i ab l x=some p):∀q∈p.2,q.1=cJ i:=by unfold HW at h;have⟨p',h1,h⟩:=ah.1 h;cases h;exact XA h1
theorem II{P:Ξ}{get:Ω}{x:AV}{hs ae:U LH}{y:AV}{o:U Prop}(h:nE P get [x] hs=some ([y],ae,o)):qd P get x hs=some (y,ae,o):=by
 simp only[nE,ai,append_nil,ah,bV,Prod.mk.injEq,List.cons.injEq,and_true]at h
 grind
theorem l9{d:DV X}{ds:U (DV X)}{a:AT X.ι}{l:U (AT X.ι)}{P:Φ}(h:∀j∈Kg (d::ds) (a::l),P j):(a.im=false->∀j∈bx d,P j)/\∀j∈Kg ds l,P j:=by
 grind [Kg]
theorem apW{c:CT X.ι}{l:U (CT.T X.toSE c)}:eF ((aI (l.map (CT.row X.toSE c))).take (l.map (CT.row X.toSE c)).length)=aI (l.map (CT.row X.toSE c)):=by rw[take_of_length_le (by simp[aI])];simp only[eF,aI,map_map];exact map_congr_left λy _=>by simp only[Function.comp,map_map];rfl
theorem Z6{get:Nat->J (bz X)}{d:DV X}{c:CT X.ι}{x:U (CT.T X.toSE c)×Nat×List Bool}(h:acZ get d c=some x)(hc:∀b∈x.2.2,b=true):
 d=.own x.2.1 0 (List.length x.1)/\∃o,get x.2.1=some o/\(bP o).sz=(vD c x.1).1/\eF ((bP o).rows.take (vD c x.1).2.length)=aI (vD c x.1).2:=by
 unfold acZ at h;split at h;rename_i k len;rw[ah]at h;obtain⟨o,h1,h⟩:=h;split at h;rename_i b l;rw[ah]at h;obtain⟨l',h2,h⟩:=h;cases h;have⟨h3,h4⟩:=jN h2;have h5:len=List.length l':=by simp_all [aE]
 refine⟨by rw[h5],.ek b l,h1,by trivial,?_⟩;simp only[bP,vD,h4];exact apW;cases h;cases h
theorem XB{get:Nat->J (bz X)}{d:DV X}{c:CT X.ι}{x:CT.T X.toSE c×Nat}(h:Xy get d c=some x):
 d=.ptr x.2 0 0/\∃o,get x.2=some o/\(bP o).sz=(vD c [x.1]).1/\eF ((bP o).rows.take (vD c [x.1]).2.length)=aI (vD c [x.1]).2:=by unfold Xy at h;split at h;rw[ah]at h;obtain⟨o,h1,h⟩:=h;split at h;split at h;rename_i hsz;have⟨y,h2,h⟩:=ah.1 h;cases h;refine⟨rfl,_,h1,by trivial,?_⟩;simp[bP,vD,eF,aI];rw[zb h2];cases h;cases h;cases h
theorem ow{P:Ξ}{Γ:FuncId->J (ci X)}(hΓ:qq P Γ){get:Nat->J (bz X)}{rd ab:U Nat}:∀{n:Nat}{ds:U (DV X)}{l:U (AT X.ι)}{a:jB X l×List Nat×List Bool},qj Γ get ds l=some a->(∀ b∈a.2.2,b=true)->(∀ j∈aP ds,j∈rd)->(∀ j∈Kg ds l,j∉ab)->ab.drop n=a.2.1->
 (∃ hs obs,(∀ p∈obs,p)/\∀ae,mW P (dU rd (gq get)) ab (bL ds) (hs++ae)=some (fe n l a.1,ae,obs))/\∃mo,Ii (dU rd (gq get)) a.2.1 (vE l a.1)=some mo/\∀p∈mo,p
 |n,[],[],a,h,_,_,_,_=>by simp[qj]at h;subst h;exact⟨⟨[],[],by simp,λae=>rfl⟩,[],rfl,by simp⟩
 |n,d::ds,.mut c::l,a,h,hc,hrd,hnr,hid=>by
  simp[qj]at h;have⟨x,h1,h⟩:=ah.1 h;have⟨q,h2,h⟩:=ah.1 h;cases h;obtain⟨rfl,o,g1,g2,g3⟩:=Z6 h1 (λ b hb=>hc b (by simp[hb]));have EE:ab[n]? =some x.2.1:=by rw[<- List.head?_drop,hid];rfl
  have EV:ab.drop (n+1)=q.2.1:=by rw[<- List.tail_drop,hid];rfl
  obtain⟨⟨hs,obs,p1,p2⟩,mo,m1,m2⟩:=ow hΓ (n:=n+1) h2 (λ b hb=>hc b (by simp[hb])) (λ j hj=>hrd j (by simp[aP,hj])) (l9 hnr).2 EV;refine⟨⟨.mut n::hs,obs,p1,λae=>?_⟩,((bP o).sz=(vD c x.1).1/\eF ((bP o).rows.take (vD c x.1).2.length)=aI (vD c x.1).2)::mo,?_,?_⟩;simp[bL,den,mW,rC,EE,p2,fe];simp[vE,Ii,fF (hrd x.2.1 (by simp[aP,bx])) g1,m1];intro p hp
  grind
 |n,d::ds,.kA c::l,a,h,hc,hrd,hnr,hid=>by
  simp[qj]at h;have⟨x,h1,h⟩:=ah.1 h;have⟨q,h2,h⟩:=ah.1 h;cases h;obtain⟨rfl,o,g1,g2,g3⟩:=XB h1;have EE:ab[n]? =some x.2:=by rw[<- List.head?_drop,hid];rfl
  have EV:ab.drop (n+1)=q.2.1:=by rw[<- List.tail_drop,hid];rfl
  obtain⟨⟨hs,obs,p1,p2⟩,mo,m1,m2⟩:=ow hΓ (n:=n+1) h2 (λ b hb=>hc b (by simp[hb])) (λ j hj=>hrd j (by simp[aP,hj])) (l9 hnr).2 EV;refine⟨⟨.mut n::hs,obs,p1,λae=>?_⟩,((bP o).sz=(vD c [x.1]).1/\eF ((bP o).rows.take (vD c [x.1]).2.length)=aI (vD c [x.1]).2)::mo,?_,?_⟩;simp[bL,den,mW,cons_append,rC,EE,if_true,ai,p2,fe,fw];simp[vE,Ii,fF (hrd x.2 (by simp[aP,bx])) g1,ai,m1];intro p hp;rcases aL.1 hp with rfl|hp;exact⟨g2,g3⟩;exact m2 p hp
 |n,d::ds,.d c::l,a,h,hc,hrd,hnr,hid=>by simp[qj]at h;have⟨x,h1,h⟩:=ah.1 h;have⟨q,h2,h⟩:=ah.1 h;cases h;obtain⟨hs1,o1,p1,q1⟩:=tO (P:=P) hΓ 3 (n:=n) h1 (λ b hb=>hc b (by simp[hb])) (rd:=rd) (λ j hj=>hrd j (by simp[aP,append_nil]at hj;simp[aP,hj]));obtain⟨⟨hs,obs,p2,q2⟩,mo,m1,m2⟩:=ow hΓ (n:=n) h2 (λ b hb=>hc b (by simp[hb])) (λ j hj=>hrd j (by simp[aP,hj])) (l9 hnr).2 hid;refine⟨⟨AM (den d) hs1++hs,o1++obs,iM p1 p2,λae=>?_⟩,mo,m1,m2⟩;have:=ze (II (q1 (hs++ae))) (λ k hk=>(l9 hnr).1 rfl k (by rwa [ja]at hk));rw[NF]at this;simp[bL,mW,aV,this,ai,q2,fe]
 |n,d::ds,.ref c::l,a,h,hc,hrd,hnr,hid=>by simp[qj]at h;have⟨x,h1,h⟩:=ah.1 h;have⟨q,h2,h⟩:=ah.1 h;cases h;obtain⟨hs1,o1,p1,q1⟩:=tO (P:=P) hΓ 3 (n:=n) h1 (λ b hb=>hc b (by simp[hb])) (rd:=rd) (λ j hj=>hrd j (by simp[aP,append_nil]at hj;simp[aP,hj]));obtain⟨⟨hs,obs,p2,q2⟩,mo,m1,m2⟩:=ow hΓ (n:=n) h2 (λ b hb=>hc b (by simp[hb])) (λ j hj=>hrd j (by simp[aP,hj])) (l9 hnr).2 hid;refine⟨⟨AM (den d) hs1++hs,o1++obs,iM p1 p2,λae=>?_⟩,mo,m1,m2⟩;have:=ze (II (q1 (hs++ae))) (λ k hk=>(l9 hnr).1 rfl k (by rwa [ja]at hk));rw[NF]at this;simp[bL,mW,aV,this,ai,q2,fe]
 |n,d::ds,.d7 as r::l,a,h,hc,hrd,hnr,hid=>by simp[qj]at h;have⟨x,h1,h⟩:=ah.1 h;have⟨q,h2,h⟩:=ah.1 h;cases h;obtain⟨hs1,o1,p1,q1⟩:=tO (P:=P) hΓ 3 (n:=n) h1 (λ b hb=>hc b (by simp[hb])) (rd:=rd) (λ j hj=>hrd j (by simp[aP,append_nil]at hj;simp[aP,hj]));obtain⟨⟨hs,obs,p2,q2⟩,mo,m1,m2⟩:=ow hΓ (n:=n) h2 (λ b hb=>hc b (by simp[hb])) (λ j hj=>hrd j (by simp[aP,hj])) (l9 hnr).2 hid;refine⟨⟨AM (den d) hs1++hs,o1++obs,iM p1 p2,λae=>?_⟩,mo,m1,m2⟩;have:=ze (II (q1 (hs++ae))) (λ k hk=>(l9 hnr).1 rfl k (by rwa [ja]at hk));rw[NF]at this;simp[bL,mW,aV,this,ai,q2,fe]
 |n,d::ds,.nil::l,a,h,hc,hrd,hnr,hid=>by simp[qj]at h;split at h;have⟨q,h2,h⟩:=ah.1 h;cases h;obtain⟨⟨hs,obs,p2,q2⟩,mo,m1,m2⟩:=ow hΓ (n:=n) h2 hc (λ j hj=>hrd j (by simp[aP,hj])) (l9 hnr).2 hid;refine⟨⟨.nil::hs,obs,p2,λae=>?_⟩,mo,m1,m2⟩;have:=ze (P:=P) (get':=dU rd (gq get)) (ab:=ab) (x:=.cT) (hs:=.nil::(hs++ae)) (p:=(.cT,hs++ae,[])) rfl (λ k hk=>by simp[refs]at hk);simp[AM]at this;simp[bL,den,mW,cons_append,this,ai,q2,fe,fw];cases h
 |_,[],_::_,_,h,_,_,_,_=>by simp[qj]at h
 |_,_::_,[],_,h,_,_,_,_=>by simp[qj]at h
theorem ae4{P:Ξ}(hΓ:qq P Γ){i:Nat}{f:DV X}{args:U (DV X)}{get:Nat->J (bz X)}{k:KK X A}{r:A}(h:amq Γ i f args get k=some r):
 ∃cy rd wr dv upd out,l7 P i (den f) (bL args) cy (dU rd (gq get))=some out/\lg out.obs/\out.v=den dv/\out.upd=jH upd/\(∀ p∈upd,p.1=cJ i\/p.1∈wr)/\k dv upd rd wr=some r:=by
 unfold amq at h;split at h;rename_i F first caps
 rw[ah]at h;obtain⟨s,h1,h⟩:=h;split at h;rename_i g hgen;exact acX ((hΓ F s h1).2.2 g (Option.filter_eq_some_iff.1 hgen).1) h;split at h;rename_i hpure;rw[ah]at h;obtain⟨⟨a,cs⟩,h2,h⟩:=h;have⟨hcs,h⟩:=qN h;rw[ah]at h;obtain⟨x,h3,h⟩:=h;rw[ah]at h;obtain⟨p,h4,h⟩:=h;have hf0:=(hΓ F s h1).2.1 a x h3;simp only[aX]at hpure;rw[Iz (aqv hpure.1),aeP hpure.2]at hf0;have hf:=WR hf0;have hi:=ae2 h4;have hk:=abp h4;obtain⟨hs,obs,g1,g2⟩:=tO (P:=P) hΓ 3 h2 hcs (rd:=aP (first++args++caps)) (λ j hj=>hj);have g3:=g2 [];rw[append_nil,jI,jI]at g3;have hrefs:fA (bL first++bL args++bL caps)=aP (first++args++caps):=by
  grind [jI,jo]
 split at h;rename_i hfl;refine⟨.call hs (uo s.res x) true,_,[],p.1,p.2,⟨den p.1,jH p.2,obs++[tR P F (zx s.args a) (uo s.res x),(uo s.res x).flat]⟩,?_,?_,rfl,rfl,λq hq=>.inl (hk q hq),h⟩;simp only[den,l7,rQ,AR,hi,ai,g3];rfl;exact sJ _ (iM g1 (by intro q hq;simp only[aL,oh,or_false]at hq;rcases hq with rfl|rfl;exact hf;exact Xw x hfl));refine⟨.call hs (uo s.res x) false,_,_,p.1,_,⟨den p.1,jH p.2++(aP (first++args++caps)).map (λ k=>(k,none)),obs++[tR P F (zx s.args a) (uo s.res x)]⟩,?_,?_,rfl,?_,?_,h⟩;simp only[den,l7,rQ,AR,hi,ai,g3,hrefs];rfl;exact sJ _ (iM g1 (by intro q hq;simp only[bg]at hq;subst hq;exact hf));simp[tQ,Di];intro q hq;rcases bF.1 hq with hq|hq;exact .inl (hk q hq);exact .inr (Kc hq);rename_i hpure;rw[ah]at h;obtain⟨⟨a,ab,cs⟩,h2,h⟩:=h;have⟨hcs,h⟩:=qN h;rw[ah]at h;obtain⟨x,h3,h⟩:=h;rw[ah]at h;obtain⟨p,h4,h⟩:=h;split at h;rename_i hc;simp only[aX,bq]at hc;obtain⟨⟨hnd,hnr⟩,hlen⟩:=hc;have hf:=(hΓ F s h1).2.1 a x h3;have hi:=ae2 h4;have hk:=abp h4;obtain⟨⟨hs,obs,g1,g2⟩,mo,m1,m2⟩:=ow (P:=P) hΓ (rd:=aP (first++args++caps)) (ab:=ab) (n:=0) h2 hcs (λ j hj=>hj) (λ j hj=>by simpa using all_eq_true.1 hnr j hj) rfl;have g3:=g2 [];rw[append_nil,jI,jI]at g3;have hrefs:fA (bL first++bL args++bL caps)=aP (first++args++caps):=by rw[<- jI,<- jI,jo]
 have hlen':(qi s.res x).length=ab.length:=by rw[<- hlen];simpa using (congrArg List.length (QM s.res x)).symm
 have hout:jH (Tk ab (Xx s.res x))=Db ab (qi s.res x):=abo _ _ _ (QM s.res x);split at h;rename_i hfl;refine⟨.uC ab (vE s.args a) (qi s.res x) hs (uo s.res x) true,_,ab,p.1,_,⟨den p.1,jH p.2++Db ab (qi s.res x),obs++mo++[rh P F (zx s.args a) (vE s.args a) (qi s.res x) (uo s.res x),(uo s.res x).flat,Ww (qi s.res x)]⟩,?_,?_,rfl,?_,?_,h⟩;simp only[den,l7,rQ,Ik,hi,ai,m1,g3];rw[aY ⟨hnd,hlen'⟩];rfl;refine sJ _ (iM (iM g1 m2) ?_);intro q hq;simp only[aL,oh,or_false]at hq;rcases hq with rfl|rfl|rfl;exact hf;exact Xw x hfl;exact abl hfl;simp[tQ,hout];intro q hq;rcases bF.1 hq with hq|hq;exact .inl (hk q hq);exact .inr (LY hq);refine⟨.uC ab (vE s.args a) (qi s.res x) hs (uo s.res x) false,_,_,p.1,_,⟨den p.1,jH p.2++(Db ab (qi s.res x)++((aP (first++args++caps)).filter λj=>!ab.contains j).map (λ k=>(k,none))),obs++mo++[rh P F (zx s.args a) (vE s.args a) (qi s.res x) (uo s.res x)]⟩,?_,?_,rfl,?_,?_,h⟩;simp only[den,l7,rQ,Ik,hi,ai,m1,g3,Ij,hrefs];rw[aY ⟨hnd,hlen'⟩];rfl;refine sJ _ (iM (iM g1 m2) ?_);intro q hq;simp only[bg]at hq;subst hq;exact hf;simp[tQ,hout,Di];intro q hq;rcases bF.1 hq with hq|hq;exact .inl (hk q hq);rcases bF.1 hq with hq|hq;exact .inr (mem_append_left _ (LY hq));exact .inr (mem_append_right _ (Kc hq));cases h;rename_i as q φ;rw[ah]at h;obtain⟨⟨hh,cs⟩,h1,h⟩:=h;have⟨hcs,h⟩:=qN h;rw[ah]at h;obtain⟨y,h2,h⟩:=h;obtain⟨hs,obs,g1,g2⟩:=NH (P:=P) h1 hcs (rd:=aP args) (λ j hj=>hj);have g3:=g2 [];rw[append_nil]at g3;have hφ:∃h' x',φ h'=some x'/\HL.pr X.toSE as hh=HL.pr X.toSE as h'/\CT.tv X.toSE q y=CT.tv X.toSE q x':=⟨hh,y,h2,rfl,rfl⟩;split at h;rename_i hfl;refine⟨.GS hs (HL.pr X.toSE as hh) (CT.tv X.toSE q y) true,_,[],.c q y,[],⟨(CT.tv X.toSE q y).av,[],obs++[(HL.pr X.toSE as hh).map TV.av=(HL.pr X.toSE as hh).map TV.av,(∃ h' x',φ h'=some x'/\HL.pr X.toSE as hh=HL.pr X.toSE as h'/\CT.tv X.toSE q y=CT.tv X.toSE q x'),(CT.tv X.toSE q y).flat]⟩,?_,?_,rfl,rfl,by simp,h⟩;simp only[den,l7,rQ,AR,g3,ai];rfl;exact sJ _ (iM g1 (by intro z hz;simp only[aL,oh,or_false]at hz;rcases hz with rfl|rfl|rfl;trivial;exact hφ;exact ae0 hfl y));refine⟨.GS hs (HL.pr X.toSE as hh) (CT.tv X.toSE q y) false,_,_,.c q y,_,⟨(CT.tv X.toSE q y).av,(aP args).map (λ k=>(k,none)),obs++[(HL.pr X.toSE as hh).map TV.av=(HL.pr X.toSE as hh).map TV.av,(∃ h' x',φ h'=some x'/\HL.pr X.toSE as hh=HL.pr X.toSE as h'/\CT.tv X.toSE q y=CT.tv X.toSE q x')]⟩,?_,?_,rfl,(Di _).symm,λz hz=>.inr (Kc hz),h⟩;simp only[den,l7,rQ,AR,g3,ai,jo];rfl;exact sJ _ (iM g1 (by intro z hz;simp only[aL,oh,or_false]at hz;rcases hz with rfl|rfl;trivial;exact hφ));cases h
theorem ahP{P:Ξ}(hΓ:qq P Γ){fz:U Nat}{T:en}{code:TypeId->J (CT X.ι)}{i:Nat}{o:Oper}{ρ:Operand->DV X}{get:Nat->J (bz X)}{k:KK X A}{r:A}(h:Hd Γ fz T code i o.op ρ get k=some r):ef P T i o ρ get k r:=by
 obtain⟨dst,op,ty,am,after,guard⟩:=o;unfold Hd at h;simp only at h;split at h
 .have:=ae4 hΓ h;simp only[<- VE]at this;obtain⟨cy,rd,wr,dv,upd,out,g1,g2⟩:=this;exact .call g1 g2
 .split at h
  .exact ahI (o:=⟨dst,op,ty,am,after,guard⟩) h
  .split at h
   .exact ahJ (o:=⟨dst,op,ty,am,after,guard⟩) h
   .split at h
    .exact ahK (o:=⟨dst,op,ty,am,after,guard⟩) h
    .rename_i hne _ _ _;have⟨cy,rd,wr,dv,upd,out,g1,g2⟩:=aa7 (o:=⟨dst,op,ty,am,after,guard⟩) h;exact ef.op (λ f args de e=>hne f args de e) g1 g2
end
def lO(x y:AV):Prop:=∀P β w I v,VR P β w I x v->VR P β w I y v
theorem lO.refl(x:AV):lO x x:=λ_ _ _ _ _ h=>h
theorem lO.undef(x:AV):lO x .undef:=λ_ _ _ _ _ _=>by simp[VR]
theorem lO.wk(x:AV):lO x (wk x):=λ_ _ _ _ _ h=>h.wk
section
variable {P:Program} {w0:World} {O0:iu} {N:Nat} {β:Nat->Option cH} {I:Nat->Prop} {a:Act} {w:World} {f g:Nat->Nat} {D:Nat->Prop}
mutual
theorem VR.rn(hgf:∀k,D k->g (f k)=k):∀(x:AV)(v:Value),(∀ k∈refs x,D k)->VR P β w I x v->VR P (λ j=>β (g j)) w I (kx f x) v
 |.own k aa len,v,hd,h=>by simp[kx,VR,hgf k (hd k (by simp[refs]))]at h ⊢;exact h
 |.ptr k row aa,v,hd,h=>by simp[kx,VR,hgf k (hd k (by simp[refs]))]at h ⊢;exact h
 |.agg cs,v,hd,h=>by simp[VR]at h ⊢;obtain⟨vs,h1,h2⟩:=h;exact⟨vs,h1,bp.rn hgf cs _ (by simpa[refs]using hd) h2⟩
 |.fm cs,v,hd,h=>by simp[VR]at h ⊢;obtain⟨vs,h1,h2⟩:=h;exact⟨vs,h1,bp.rn hgf cs _ (by simpa[refs]using hd) h2⟩
 |.fn F first caps,v,hd,h=>by simp[VR]at h ⊢;obtain⟨fs,cs,h1,h2,h3⟩:=h;exact⟨fs,cs,h1,bp.rn hgf first _ (λ k hk=>hd k (by simp[refs,hk])) h2,bp.rn hgf caps _ (λ k hk=>hd k (by simp[refs,hk])) h3⟩
 |.t x,v,_,h|.eE r o,v,_,h|.d7 φ,v,_,h=>by simpa[kx,VR]using h
 |.mp k,v,hd,h=>by simp[kx,VR,hgf k (hd k (by simp[refs]))]at h ⊢;exact h
 |.oz k len,v,hd,h=>by simp[kx,VR,hgf k (hd k (by simp[refs]))]at h ⊢;exact h
 |.cT,v,_,h|.ub,v,_,h=>by simpa[kx,VR]using h
 |.undef,v,_,h=>by simp[kx,VR]
theorem bp.rn(hgf:∀k,D k->g (f k)=k):∀(xs:List AV)(vs:List Value),(∀ k∈fA xs,D k)->bp P β w I xs vs->bp P (λ j=>β (g j)) w I (Dc f xs) vs
 |[],[],_,_=>by simp[Dc,bp]
 |x::xs,v::vs,hd,h=>by simp[bp]at h;simp[Dc];exact⟨VR.rn hgf x v (λ k hk=>hd k (by simp[fA,hk])) h.1,bp.rn hgf xs vs (λ k hk=>hd k (by simp[fA,hk])) h.2⟩
 |[],_::_,_,h|_::_,[],_,h=>by simp[bp]at h
end
def oe(D:Φ)(f:Nat->Nat):U AV->U AV->Prop
 |[],[]=>True
 |x::xs,y::ys=>((∀ k∈refs x,D k)/\lO (kx f x) y)/\oe D f xs ys
 |_,_=>False
def ip(D:Φ)(f:Nat->Nat):U (List AV)->U (List AV)->Prop
 |[],[]=>True
 |r::rs,q::qs=>oe D f r q/\ip D f rs qs
 |_,_=>False
theorem oe.length:∀{r q:U AV},oe D f r q->q.length=r.length
 |[],[],_=>rfl
 |_::xs,_::ys,h=>by simp[oe.length h.2]
 |[],_::_,h|_::_,[],h=>h.elim
theorem cW.re(hgf:∀k,D k->g (f k)=k):∀{r q:U AV}{c:Array Value}{aa:Nat},oe D f r q->cW P β w I r c aa->cW P (λ j=>β (g j)) w I q c aa
 |[],[],_,_,_,_=>trivial
 |x::xs,y::ys,c,aa,hr,⟨⟨v,h1,h2,h3⟩,h4⟩=>⟨⟨v,h1,hr.1.2 _ _ _ _ _ (VR.rn hgf x v hr.1.1 h2),h3⟩,cW.re hgf hr.2 h4⟩
 |[],_::_,_,_,h,_|_::_,[],_,_,h,_=>h.elim
theorem cd.re(hgf:∀k,D k->g (f k)=k):∀{rs qs:U (List AV)}{c:Array Value}{aa sz:Nat},ip D f rs qs->cd P β w I rs c aa sz->cd P (λ j=>β (g j)) w I qs c aa sz
 |[],[],_,_,_,_,_=>trivial
 |r::rs,q::qs,c,aa,sz,hr,⟨h1,h2,h3⟩=>⟨by rw[hr.1.length];exact h1,cW.re hgf hr.1 h2,cd.re hgf hr.2 h3⟩
 |[],_::_,_,_,_,h,_|_::_,[],_,_,_,h,_=>h.elim
theorem bp.re(hgf:∀k,D k->g (f k)=k):∀{r q:U AV}{vs:U Value},oe D f r q->bp P β w I r vs->bp P (λ j=>β (g j)) w I q vs
 |[],[],[],_,_=>by simp[bp]
 |x::xs,y::ys,v::vs,hr,h=>by exact⟨hr.1.2 _ _ _ _ _ (VR.rn hgf x v hr.1.1 h.1),bp.re hgf hr.2 h.2⟩
 |[],_::_,_,h,_|_::_,[],_,h,_=>h.elim
 |[],[],_::_,_,h|_::_,_::_,[],_,h=>by simp[bp]at h
theorem cI.re(hgf:∀k,D k->g (f k)=k):∀{rs qs:U (List AV)}{es:U MapEntry},ip D f rs qs->cI P β w I rs es->cI P (λ j=>β (g j)) w I qs es
 |[],[],[],_,_=>trivial
 |r::rs,q::qs,_::es,hr,⟨h1,h2⟩=>⟨bp.re hgf hr.1 h1,cI.re hgf hr.2 h2⟩
 |[],_::_,_,h,_|_::_,[],_,h,_|[],[],_::_,_,h|_::_,_::_,[],_,h=>h.elim
theorem ip.length:∀{rs qs:U (List AV)},ip D f rs qs->qs.length=rs.length
 |[],[],_=>rfl
 |_::xs,_::ys,h=>by simp[ip.length h.2]
 |[],_::_,h|_::_,[],h=>h.elim
theorem Rel.re0{s s':St}(hgf:∀k,D k->g (f k)=k)(hg:∀j B,O0.anc j=some B->g j=j)(hr:Rel P w0 O0 N β I s a w)(hok:∀t,s.ok t=none\/s'.env t=.undef)(hok':∀t,s'.ok t=none)
 (hE:∀t,s'.env t=.undef\/((∀ k∈refs (s.env t),D k)/\lO (kx f (s.env t)) (s'.env t)))
 (hO:∀j o',s'.obj j=some o'->∃k o,s.obj k=some o/\D k/\f k=j/\o'.sz=o.sz/\ip D f o.rows o'.rows):Rel P w0 O0 N (λ j=>β (g j)) I s' a w:=by
 refine⟨hr.defers,hr.size,λt=>?_,?_⟩
 .have h1:=hr.env t;rw[hok' t];rcases hok t with hk|h
  rotate_left
  rw[h];simp[dg,VR];rw[hk]at h1;rcases hE t with h|⟨h2,h3⟩;rw[h];simp[dg,VR];exact h3 _ _ _ _ _ (VR.rn hgf _ _ h2 h1)
 have hm:=hr.mem;constructor;intro j o' hj;obtain⟨k,o,h1,h2,rfl,h4,h5⟩:=hO j o' hj;have⟨B,hB,tc⟩:=hm.cD k o h1;refine⟨B,by simp[hgf k h2];exact hB,?_⟩;cases B with
 |none=>
  simp[OR]at tc ⊢;rw[tc]at h5;cases ho:o'.rows with
  |nil=>rfl
  |cons=>rw[ho]at h5;exact h5.elim
 | «at» b sz n=>
  obtain⟨g1,c,e,g2,g3,g4⟩:=tc;exact⟨by rw[g1,h4],c,e,g2,g3,cd.re hgf h5 g4⟩
 |mp b=>
  obtain⟨es,cl,g1,gl,g2,g3⟩:=tc;have hl:=h5.length;exact⟨es,cl,g1,by omega,λe=>cI.re hgf h5 (g2 (by omega)),g3⟩
 intro j j' o o' B B' b h1 h2 h3 h4 h5 h6;obtain⟨k,q,i1,i2,rfl,_⟩:=hO j o h1;obtain⟨k',q',i1',i2',rfl,_⟩:=hO j' o' h2;simp[hgf k i2,hgf k' i2']at h3 h4;rw[hm.eI k k' q q' B B' b i1 i1' h3 h4 h5 h6];intro j o B b h1 h2;obtain⟨k,q,i1,i2,rfl,_⟩:=hO j o h1;simp[hgf k i2]at h2;exact hm.ownB k q B b i1 h2;exact hm.lt;exact hm.up;exact hm.keep;exact hm.le;exact hm.os;exact hm.tape;exact hm.output;intro j B hj;show β (g j)=some B;rw[hg j B hj];exact hm.anch j B hj;exact hm.vars
theorem Rel.re{s s':St}(hgf:∀k,D k->g (f k)=k)(hg:∀j,j<1000->g j=j)(hr:Rel P w0 O0 N β I s a w)(hok:∀t,s.ok t=none\/s'.env t=.undef)(hok':∀t,s'.ok t=none)
 (hE:∀t,s'.env t=.undef\/((∀ k∈refs (s.env t),D k)/\lO (kx f (s.env t)) (s'.env t)))
 (hO:∀j o',s'.obj j=some o'->∃k o,s.obj k=some o/\D k/\f k=j/\o'.sz=o.sz/\ip D f o.rows o'.rows):Rel P w0 O0 N (λ j=>β (g j)) I s' a w:=
 Rel.re0 hgf (λ j B hj=>hg j (O0.lt j B hj)) hr hok hok' hE hO
end
section
variable {X:SX}
theorem ae5{D:Φ}(f:Nat->Nat):∀r:U (DV X),(∀ k∈aP r,D k)->oe D f (bL r) (bL (LV f r))
 |[],_=>trivial
 |x::xs,h=>⟨⟨λ k hk=>h k (by rw[ja]at hk;simp[aP,hk]),by rw[A8];exact lO.refl _⟩,ae5 f xs λk hk=>h k (by simp[aP,hk])⟩
theorem Kh{D:Φ}(f:Nat->Nat)(o:bz X)(h:∀k∈ee o,D k):(bP (qt f o)).sz=(bP o).sz/\ip D f (bP o).rows (bP (qt f o)).rows:=by
 cases o with
 |cells sz rows=>
  refine⟨rfl,?_⟩;simp only[ee]at h
  induction rows with
  |nil=>trivial
  |cons r rs ih=>
   refine⟨ae5 f r λk hk=>h k (by simp[hk]),ih λk hk=>h k ?_⟩;simp only[bK,List.flatten_cons,bF];exact .inr hk
 |ek c l=>
  refine⟨rfl,?_⟩;simp[bP,qt];generalize l.map (CT.row X.toSE c)=rows;have hrow:∀r:U Tree,oe D f (r.map AV.t) (r.map AV.t):=by
   intro r
   induction r with
   |nil=>trivial
   |cons y ys ih=>exact⟨⟨by simp[refs],lO.refl _⟩,ih⟩
  induction rows with
  |nil=>trivial
  |cons r rs ih=>exact⟨hrow r,ih⟩
 |map kc vc l=>
  refine⟨rfl,?_⟩;clear h
  induction l with
  |nil=>trivial
  |cons p ps ih=>exact⟨⟨⟨by simp[AZ],by rw[Xr];exact lO.refl _⟩,⟨by simp[AZ],by rw[Xr];exact lO.refl _⟩,trivial⟩,ih⟩
structure Low(s:cM X):Prop where
 le:s.nx<=1000000
 ge:1000<=s.nx
 env:∀t,∀k∈bx (ea s.env t),k<s.nx
 obj:∀k o,gd s.obj k=some o->k<s.nx/\∀j∈ee o,j<s.nx
theorem XC{o:bz X}{r:U AV}{x:AV}(hr:r∈(bP o).rows)(hx:x∈r):∀j∈refs x,j∈ee o:=by
 intro j hj;cases o with
 |cells sz rows=>
  simp[bP]at hr;obtain⟨q,hq,rfl⟩:=hr;rw[oP,mem_map]at hx;obtain⟨d,hd,rfl⟩:=hx;simp[ee];refine⟨_,⟨q,hq,rfl⟩,?_⟩;have:∀l:U (DV X),d∈l->j∈aP l:=by
   intro l
   induction l with
   |nil=>intro h;simp at h
   |cons y ys ih=>intro h;rcases aL.1 h with rfl|h
                  simp[aP];left;rwa [ja]at hj;simp[aP];exact .inr (ih h)
  exact this q hd
 |ek c l=>
  simp[bP,aI]at hr;obtain⟨q,_,rfl⟩:=hr;simp at hx;obtain⟨t,_,rfl⟩:=hx;simp[refs]at hj
 |map kc vc l=>
  simp only[bP,mem_map]at hr;obtain⟨q,_,rfl⟩:=hr;simp at hx;rcases hx with rfl|rfl<;>simp[AZ]at hj
theorem Low.old{s:cM X}(h:Low s):vf s.st:=by have hle:=h.le;constructor;intro t k hk;have:=h.env t k (by rw[<- ja];exact hk);omega;intro k o hk;simp[cM.st]at hk;obtain⟨o',h1,rfl⟩:=hk;have⟨h2,h3⟩:=h.obj k o' h1;refine⟨by omega,λr hr x hx j hj=>?_⟩;have:=h3 j (XC hr hx j hj);omega
end
section
variable {X:SX} {A:Type}
def pH(e b:U (Nat×DV X))(t:Nat):DV X:=match lk e t with|some x=>x|none=>ea b t
def zt(o b:U (Nat×Option (bz X)))(k:Nat):J (bz X):=match lk o k with|some x=>x|none=>gd b k
def Al(dst:J Tmp)(dv:DV X)(e:U (Nat×DV X)):U (Nat×DV X):=match dst with|some t=>(t,dv)::e|none=>e
def XD:DV X->DV X
 |.skip=>.undef
 |x=>x
def Ll(e:U (Nat×DV X)):Operand->Bool
 |.tmp t=>match lk e t with|some .skip=>false|_=>true
 |_=>true
def Tm(e b:U (Nat×DV X))(o:Op):Bool:=
 match o with
 |.pick c x y=>Ll e c&&((Ll e x&&Ll e y) || match ZX (pH e b) c with|.c .bool t=>bif t then Ll e x else Ll e y|_=>false)
 |o=>o.operands.toList.all (Ll e)
abbrev Hp:=List (Nat×List Nat×List Nat)
section
variable (Γ:FuncId->Option (ci X)) (fz:List Nat) (T:en) (code:TypeId->Option (CT X.ι)) (ag:Array Oper) (b:cM X)
def zB(k:U (Nat×DV X)->U (Nat×Option (bz X))->Hp->J A):U Nat->U (Nat×DV X)->U (Nat×Option (bz X))->Hp->J A
 |[],e,o,pf=>k e o pf
 |i::r,e,o,pf=>(ag[i]?).bind λop=>match op.guard with
  |none=>bif Tm e b.env op.op then Hd Γ fz T code i op.op (ZX (pH e b.env)) (zt o b.obj) λdv upd rd wr=>zB k r (Al op.dst (XD dv) e) (upd++o) ((i,rd,wr)::pf)else none
  |some (j,p)=>((ag[j]?).bind (·.dst)).bind λt=>match pH e b.env t with
   |.c .bool v=>
    bif v then(bif p then(bif Tm ((t,.c .bool true)::e) b.env op.op then Hd Γ fz T code i op.op (ZX (pH ((t,.c .bool true)::e) b.env)) (zt o b.obj) λdv upd rd wr=>zB k r (Al op.dst (XD dv) ((t,.c .bool true)::e)) (upd++o) ((i,rd,wr)::pf)else none)
     else zB k r (Al op.dst .skip ((t,.c .bool true)::e)) o ((i,[],[])::pf))
    else(bif p then zB k r (Al op.dst .skip ((t,.c .bool false)::e)) o ((i,[],[])::pf)
     else(bif Tm ((t,.c .bool false)::e) b.env op.op then Hd Γ fz T code i op.op (ZX (pH ((t,.c .bool false)::e) b.env)) (zt o b.obj) λdv upd rd wr=>zB k r (Al op.dst (XD dv) ((t,.c .bool false)::e)) (upd++o) ((i,rd,wr)::pf)else none))
   |.skip=>bif(lk e t).isSome then zB k r (Al op.dst .skip e) o ((i,[],[])::pf)else none
   |_=>none
end
def jb(b:cM X)(e:U (Nat×DV X))(o:U (Nat×Option (bz X))):St:=⟨λ t=>den (pH e b.env t),λk=>(zt o b.obj k).map bP,λt=>match lk e t with|some .skip=>some false|_=>none⟩
theorem akO(x:DV X):den (XD x)=den x:=by cases x<;>rfl
theorem amr(b:cM X)(e:U (Nat×DV X))(o:U (Nat×Option (bz X)))(dst:J Tmp)(dv:DV X)(upd:U (Nat×Option (bz X)))(obs:U Prop):
 (jb b e o).app dst (⟨den dv,jH upd,obs⟩,none)=jb b (Al dst (XD dv) e) (upd++o):=by
 simp[jb,St.app];refine⟨?_,?_,?_⟩;funext t;cases dst with
 |none=>simp[BK,Al]
 |some d=>
  simp[BK,Al,pH,lk];by_cases h:d=t<;>simp[h,akO]
 funext j
 induction upd with
 |nil=>rfl
 |cons p u ih=>
  obtain⟨q,x⟩:=p;simp[jH,cu,zt,lk]at ih ⊢;by_cases h:j=q;simp[h];rw[aT h,aT (Ne.symm h)];exact ih
 funext t;cases dst with
 |none=>simp[BK,Al]
 |some d=>
  simp[BK,Al,lk];by_cases h:d=t;simp[h];cases dv<;>rfl;simp[aT h]
theorem akP(b:cM X)(e:U (Nat×DV X))(o:U (Nat×Option (bz X)))(dst:J Tmp):(jb b e o).app dst (⟨.undef,[],[]⟩,some false)=jb b (Al dst .skip e) o:=by
 simp[jb,St.app];refine⟨?_,rfl,?_⟩;funext t;cases dst with
 |none=>simp[BK,Al]
 |some d=>
  simp[BK,Al,pH,lk];by_cases h:d=t<;>simp[h,den]
 funext t;cases dst with
 |none=>simp[BK,Al]
 |some d=>
  simp[BK,Al,lk];by_cases h:d=t<;>simp[h]
theorem ae6(b:cM X)(e:U (Nat×DV X))(o:U (Nat×Option (bz X))):mL (jb b e o).env=λx=>den (ZX (pH e b.env) x):=by funext x;exact(WV _ x).symm
theorem Dm{b:cM X}{e:U (Nat×DV X)}{o:U (Nat×Option (bz X))}{x:Operand}(h:Ll e x=true):yw (jb b e o).ok x=[]:=by
 cases x with
 |tmp t=>
  simp[Ll]at h;simp[yw,jb];cases ht:lk e t with
  |none=>rfl
  |some d=>rw[ht]at h;cases d<;>first|rfl|cases h
 |_=>rfl
theorem akQ{b:cM X}{e:U (Nat×DV X)}{o:U (Nat×Option (bz X))}{P:Ξ}{T:en}{i:Nat}{op:Oper}{cy:ka}{get:Ω}{out:Out}(hok:Tm e b.env op.op=true)
 (h:kr P T i op cy (mL (jb b e o).env) get=some out):∀p∈needs (jb b e o).env (jb b e o).ok op.op,p:=by
 obtain⟨dst,op,ty,am,after,guard⟩:=op;unfold needs;split
 .rename_i c x y heq;simp only at heq;subst heq;simp only[Tm,aX,Bool.or_eq_true]at hok;obtain⟨hc,hxy⟩:=hok;have hb:∃t,mL (jb b e o).env c=.t (.sc (.bool t)):=by
   have h0:(∃ n,cy=.ext n)\/(∃ ab fr q,cy=.xv ab fr q)\/ru T i ⟨dst,.pick c x y,ty,am,after,guard⟩ cy (mL (jb b e o).env) get=some out:=(by cases cy<;>first|exact .inl ⟨_,rfl⟩|exact .inr (.inl ⟨_,_,_,rfl⟩)|exact .inr (.inr h));rcases h0 with ⟨n,rfl⟩|⟨ab,fr,q,rfl⟩|h0
   .simp[kr,um,P0,ul]at h
   .simp[kr,Il,ahi]at h
   .simp only[ru]at h0;split at h0
    .rename_i t ht;exact⟨t,ht⟩
    .cases h0
  obtain⟨t,ht⟩:=hb;rw[ht];simp only[Dm hc,fw];rcases hxy with ⟨hx,hy⟩|hxy
  .simp[Dm hx,Dm hy]
  .split at hxy
   .rename_i t' ht';have e1:mL (jb b e o).env c=.t (.sc (.bool t')):=(by rw[ae6];simp only[ht'];rfl);rw[e1]at ht;injection ht with ht;injection ht with ht;injection ht with ht;subst ht;cases t' with
    |true=>
     simp only[aj]at hxy;simp[Dm hxy]
    |false=>
     simp only[au]at hxy;simp[Dm hxy]
   .cases hxy
 .rename_i o' hne;intro p hp;have hall:∀x∈op.operands.toList,Ll e x=true:=by have:Tm e b.env op=op.operands.toList.all (Ll e):=(by cases op<;>first|rfl|exact(hne _ _ _ rfl).elim);rw[this]at hok;exact all_eq_true.1 hok
  simp only[mem_flatMap]at hp;obtain⟨x,hx,hp⟩:=hp;rw[Dm (hall x hx)]at hp;simp at hp
theorem ams{a b:U Prop}(h:∀p∈a,p)(h':lg b):lg (a++b):=sJ _ (iM h (Nn b h'))
variable {Γ:FuncId->Option (ci X)} {fz:List Nat} {T:en} {code:TypeId->Option (CT X.ι)} {ag:Array Oper} {b:cM X} {P:Program}
theorem akR(hΓ:qq P Γ){i:Nat}{op:Oper}{e:U (Nat×DV X)}{o:U (Nat×Option (bz X))}{k:KK X A}{r:A}(hop:ag[i]? =some op)(hw:want ag op (jb b e o).env (jb b e o).ok=some true)(hok:Tm e b.env op.op=true)
 (h:Hd Γ fz T code i op.op (ZX (pH e b.env)) (zt o b.obj) k=some r):
 ∃(a:ot)(dv:DV X)(upd:U (Nat×Option (bz X))),a.sym=false/\k dv upd a.rd a.wr=some r/\∀(cV:Nat->ot)(K:St->Prop),cV i=a->K (jb b (Al op.dst (XD dv) e) (upd++o))->As P T ag cV i K (jb b e o):=by
 have⟨cy,rd,wr,dv,upd,out,h1,h2,h3,h4,h5,h6⟩:=ahP hΓ h;refine⟨⟨cy,rd,wr,false⟩,dv,upd,rfl,h6,λcV K ha hK=>?_⟩;have h1':kr P T i op cy (mL (jb b e o).env) (dU rd (jb b e o).obj)=some out:=by rw[ae6];exact h1
 refine⟨op,(⟨out.v,out.upd,needs (jb b e o).env (jb b e o).ok op.op++out.obs⟩,none),hop,?_,?_,?_⟩;simp only[opAt,hop,ai,hw,ha,h1'];rw[aY];rw[all_eq_true];intro p hp;rw[h4]at hp;simp only[jH,mem_map]at hp;obtain⟨q,hq,rfl⟩:=hp;rcases h5 q hq with h|h;simp[h,WC.2 (.inl rfl:jt (cJ i) (cJ i))];simp[h];exact ams (akQ hok h1') h2;rw[h3,h4,amr];exact hK
theorem step_skip{i:Nat}{op:Oper}{e:U (Nat×DV X)}{o:U (Nat×Option (bz X))}(hop:ag[i]? =some op)(hw:want ag op (jb b e o).env (jb b e o).ok=some false)
 (cV:Nat->ot) (K:St->Prop) (ha:cV i=⟨.none,[],[],false⟩) (hK:K (jb b (Al op.dst .skip e) o)):As P T ag cV i K (jb b e o):=by refine⟨op,(⟨.undef,[],[]⟩,some false),hop,?_,trivial,?_⟩;simp[opAt,hop,hw,ha];rw[akP];exact hK
theorem ahQ{e:U (Nat×DV X)}{o:U (Nat×Option (bz X))}{t:Nat}{v:Bool}(h:pH e b.env t=.c .bool v):jb b ((t,.c .bool v)::e) o=jb b e o:=by
 simp[jb];refine⟨?_,?_⟩;funext s;by_cases hs:t=s;subst hs;rw[h];simp[pH,lk];simp[pH,lk,hs];funext s;by_cases hs:t=s;subst hs;simp[lk];unfold pH at h;cases ht:lk e t with
 |none=>rfl
 |some d=>rw[ht]at h;simp at h;subst h;rfl
 simp[lk,hs]
def KE(tr:U (Nat×ot)):Hp:=tr.map λp=>(p.1,p.2.rd,p.2.wr)
def Tn(ag:Array Oper)(t:Nat):Prop:=∃(j:Nat)(op:Oper),ag[j]? =some op/\op.dst=some t
theorem ae7{dst:J Tmp}{dv:DV X}{e:U (Nat×DV X)}{p:Nat×DV X}(h:p∈Al dst dv e):p∈e\/dst=some p.1:=by
 cases dst with
 |none=>exact .inl h
 |some t=>
  simp[Al]at h;rcases h with rfl|h;exact .inr rfl;exact .inl h
theorem EN(hΓ:qq P Γ){k:U (Nat×DV X)->U (Nat×Option (bz X))->Hp->J A}{r:A}:∀(l:U Nat)(e:U (Nat×DV X))(o:U (Nat×Option (bz X)))(pf:Hp),zB Γ fz T code ag b k l e o pf=some r->
 ∃(tr:U (Nat×ot))(e':U (Nat×DV X))(o':U (Nat×Option (bz X))),tr.map (·.1)=l/\k e' o' ((KE tr).reverse++pf)=some r/\(∀ p∈e',p∈e\/Tn ag p.1)/\
  ∀cV:Nat->ot,(∀ p∈tr,cV p.1=p.2)->WL P T ag cV (λ σ=>σ=jb b e' o') l (jb b e o)
 |[],e,o,pf,h=>⟨[],e,o,rfl,h,λ_ hp=>.inl hp,λ_ _=>rfl⟩
 |i::l,e,o,pf,h=>by
  simp[zB]at h;have⟨op,hop,h⟩:=ah.1 h
  have exec:∀e:U (Nat×DV X),want ag op (jb b e o).env (jb b e o).ok=some true->
   (bif Tm e b.env op.op then Hd Γ fz T code i op.op (ZX (pH e b.env)) (zt o b.obj) λdv upd rd wr=>zB Γ fz T code ag b k l (Al op.dst (XD dv) e) (upd++o) ((i,rd,wr)::pf)else none)=some r->
   ∃(tr:U (Nat×ot)) (e':U (Nat×DV X)) (o':U (Nat×Option (bz X))),tr.map (·.1)=i::l/\k e' o' ((KE tr).reverse++pf)=some r/\(∀ p∈e',p∈e\/Tn ag p.1)/\
    ∀cV:Nat->ot,(∀ p∈tr,cV p.1=p.2)->WL P T ag cV (λ σ=>σ=jb b e' o') (i::l) (jb b e o):=by intro e hw h;have⟨hok,h⟩:=eu h;have⟨a,dv,upd,_,h1,h2⟩:=akR hΓ hop hw hok h;obtain⟨tr,e',o',g1,g2,g4,g3⟩:=EN hΓ l _ _ _ h1;refine⟨(i,a)::tr,e',o',by simp[g1],?_,λp hp=>(g4 p hp).elim (λ hp=>(ae7 hp).elim .inl λhd=>.inr ⟨i,op,hop,hd⟩) .inr,λcV ha=>?_⟩;simpa[KE]using g2;exact h2 cV _ (ha (i,a) (by simp)) (g3 cV λp hp=>ha p (by simp[hp]))
  have skip:∀e:U (Nat×DV X),want ag op (jb b e o).env (jb b e o).ok=some false->zB Γ fz T code ag b k l (Al op.dst .skip e) o ((i,[],[])::pf)=some r->
   ∃(tr:U (Nat×ot)) (e':U (Nat×DV X)) (o':U (Nat×Option (bz X))),tr.map (·.1)=i::l/\k e' o' ((KE tr).reverse++pf)=some r/\(∀ p∈e',p∈e\/Tn ag p.1)/\
    ∀cV:Nat->ot,(∀ p∈tr,cV p.1=p.2)->WL P T ag cV (λ σ=>σ=jb b e' o') (i::l) (jb b e o):=by intro e hw h;obtain⟨tr,e',o',g1,g2,g4,g3⟩:=EN hΓ l _ _ _ h;refine⟨(i,⟨.none,[],[],false⟩)::tr,e',o',by simp[g1],?_,λp hp=>(g4 p hp).elim (λ hp=>(ae7 hp).elim .inl λhd=>.inr ⟨i,op,hop,hd⟩) .inr,λcV ha=>?_⟩;simpa[KE]using g2;exact step_skip hop hw cV _ (ha (i,_) (by simp)) (g3 cV λp hp=>ha p (by simp[hp]))
  split at h;rename_i hg;exact exec e (by simp[want,hg]) h;rename_i j p hg;rw[ah]at h;obtain⟨t,ht,h⟩:=h;split at h;rename_i v hv;have hw:∀e:U (Nat×DV X),pH e b.env t=.c .bool v->want ag op (jb b e o).env (jb b e o).ok=some (v==p):=by
   intro e he;simp[want,hg,ht];have h0:(jb b e o).ok t=none:=by
    simp[jb];unfold pH at he;cases hq:lk e t with
    |none=>rfl
    |some d=>rw[hq]at he;simp at he;subst he;rfl
   have h1:(jb b e o).env t=.t (.sc (.bool v)):=(by simp[jb,he];rfl);rw[h0,h1]
  have hk:=ahQ (b:=b) (o:=o) hv;have hv':pH ((t,.c .bool v)::e) b.env t=.c .bool v:=by simp[pH,lk]
  have htd:Tn ag t:=by have⟨oj,h1,h2⟩:=ah.1 ht;exact⟨j,oj,h1,h2⟩
  have wide:(∃ (tr:U (Nat×ot)) (e':U (Nat×DV X)) (o':U (Nat×Option (bz X))),tr.map (·.1)=i::l/\k e' o' ((KE tr).reverse++pf)=some r/\(∀ p∈e',p∈((t,.c .bool v)::e:U (Nat×DV X))\/Tn ag p.1)/\
   ∀cV:Nat->ot,(∀ p∈tr,cV p.1=p.2)->WL P T ag cV (λ σ=>σ=jb b e' o') (i::l) (jb b ((t,.c .bool v)::e) o))->
   ∃(tr:U (Nat×ot))(e':U (Nat×DV X))(o':U (Nat×Option (bz X))),tr.map (·.1)=i::l/\k e' o' ((KE tr).reverse++pf)=some r/\(∀ p∈e',p∈e\/Tn ag p.1)/\
   ∀cV:Nat->ot,(∀ p∈tr,cV p.1=p.2)->WL P T ag cV (λ σ=>σ=jb b e' o') (i::l) (jb b e o):=by rintro⟨tr,e',o',g1,g2,g4,g3⟩;refine⟨tr,e',o',g1,g2,λq hq=>?_,hk ▸ g3⟩;rcases g4 q hq with h|h;rcases aL.1 h with rfl|h;exact .inr htd;exact .inl h;exact .inr h
  apply wide;cases v with
  |true=>
   simp at h;cases p with
   |true=>exact exec _ (hw _ hv') h
   |false=>exact skip _ (hw _ hv') h
  |false=>
   simp at h;cases p with
   |true=>exact skip _ (hw _ hv') h
   |false=>exact exec _ (hw _ hv') h
  rename_i hv;have⟨hsome,h⟩:=eu h;refine skip e ?_ h;simp[want,hg,ht];have h1:(jb b e o).env t=.undef:=by simp[jb,hv];rfl
  cases hq:lk e t with
  |some d=>
   have h0:(jb b e o).ok t=some false:=(by unfold pH at hv;rw[hq]at hv;simp at hv;subst hv;simp[jb,hq]);rw[h0,h1]
  |none=>rw[hq]at hsome;cases hsome
  cases h
end
section
variable {X:SX} {A:Type}
def fN(nx k:Nat):Nat:=if k<1000000 then k else nx+(k-1000000)
def gN(nx j:Nat):Nat:=if j<nx then j else 1000000+(j-nx)
def Ks(nx sz k:Nat):Bool:=decide (k<nx) || (decide (1000000<=k)&&decide (k<1000000+sz))
def okE(nx sz:Nat)(e:U (Nat×DV X)):Bool:=e.all λp=>(bx p.2).all (Ks nx sz)
def okO(nx sz:Nat)(o:U (Nat×Option (bz X))):Bool:=o.all λp=>Ks nx sz p.1&&match p.2 with|some x=>(ee x).all (Ks nx sz)|none=>true
def S3(pf:Hp):Nat->ot:=λi=>match lk pf i with|some p=>⟨.none,p.1,p.2,false⟩|none=>⟨.none,[],[],false⟩
def HU(tr:U (Nat×ot)):Nat->ot:=λi=>match lk tr i with|some a=>a|none=>⟨.none,[],[],false⟩
def PH:DV X->DV X
 |.skip=>.undef
 |x=>x
theorem amu(x:DV X):den (PH x)=den x:=by cases x<;>rfl
theorem abq(x:DV X):bx (PH x)=bx x:=by cases x<;>rfl
def fin(s:cM X)(e:U (Nat×DV X))(o:U (Nat×Option (bz X)))(sz:Nat):cM X:=
 ⟨e.map (λ p=>(p.1,PH (sA (fN s.nx) p.2)))++s.env,o.map (λ p=>(fN s.nx p.1,p.2.map (qt (fN s.nx))))++s.obj,s.nx+sz,o.map (λ p=>fN s.nx p.1)++s.log⟩
def amv(N:Nat)(ag:Array Oper)(d:Bool)(nx:Nat)(e:U (Nat×DV X))(o:U (Nat×Option (bz X)))(pf:Hp):Bool:=
 Wr N ag&&(!d || T6 ag (S3 pf))&&okE nx (64*ag.size) e&&okO nx (64*ag.size) o&&decide (nx+64*ag.size<=1000000)
def ahR(Γ:FuncId->J (ci X))(fz:U Nat)(T:en)(code:TypeId->J (CT X.ι))(N:Nat)(ag:Array Oper)(d:Bool)(s:cM X)(k:cM X->J A):J A:=
 zB Γ fz T code ag s (λ e o pf=>bif amv N ag d s.nx e o pf then k (fin s e o (64*ag.size))else none) (List.range ag.size) [] [] []
theorem ae8{ag:Array Oper}{cV wa:Nat->ot}(h:∀i,(cV i).rd=(wa i).rd/\(cV i).wr=(wa i).wr):T6 ag cV=T6 ag wa:=by
 have h1:yC cV=yC wa:=by funext i j;simp[yC,(h i).1,(h i).2,(h j).1,(h j).2]
 have h2:∀md,Qx md ag cV=Qx md ag wa:=by intro md;funext listed i;simp[Qx,h1]
 have h3:∀(md:Region.Mode)(n k:Nat)(listed:Array Bool),lexFrom' md ag cV n k listed=lexFrom' md ag wa n k listed:=by
  intro md n
  induction n with
  |zero=>intro k listed;rfl
  |succ n ih=>intro k listed;simp[lexFrom',h2,ih]
 exact h3 _ _ _ _
theorem Dn{α:Type}:∀(a b:U (Nat×α))(k:Nat),lk (a++b) k=match lk a k with|some x=>some x|none=>lk b k
 |[],_,_=>rfl
 |(j,x)::a,b,k=>by simp[lk];by_cases h:j=k;simp[h];simp[aT h,Dn a b k]
theorem ajD{α:Type}:∀{l:U (Nat×α)}{k:Nat},lk l k=none->∀x,(k,x)∉l
 |(j,y)::r,k,h,x=>by simp[lk]at h;split at h;cases h;rename_i hn;simp only[aL,Prod.mk.injEq,not_or];exact⟨λ e=>hn e.1.symm,ajD h x⟩
 |[],_,_,_=>by simp
theorem apX{tr:U (Nat×ot)}(hn:(tr.map (·.1)).Nodup)(i:Nat):(S3 (KE tr).reverse i).rd=(HU tr i).rd/\(S3 (KE tr).reverse i).wr=(HU tr i).wr:=by
 have hn':((KE tr).reverse.map (·.1)).Nodup:=by
  rw[List.map_reverse];have h1:((KE tr).map (·.1)).Nodup:=by simpa[KE,Function.comp_def]using hn
  exact List.pairwise_reverse.2 (h1.imp λh=>Ne.symm h)
 unfold S3 HU;cases h:lk tr i with
 |none=>
  cases h':lk (KE tr).reverse i with
  |none=>exact⟨rfl,rfl⟩
  |some p=>
   have:=rD h';simp only[KE,List.mem_reverse,mem_map]at this;obtain⟨q,hq,he⟩:=this;injection he with e1 e2;subst e1;exact(ajD h q.2 hq).elim
 |some a=>
  have h1:=rD h;have h2:(i,a.rd,a.wr)∈(KE tr).reverse:=by simp only[KE,List.mem_reverse,mem_map];exact⟨(i,a),h1,rfl⟩
  rw[vP hn' h2];exact⟨rfl,rfl⟩
theorem amw{tr:U (Nat×ot)}(hn:(tr.map (·.1)).Nodup):∀p∈tr,HU tr p.1=p.2:=by rintro⟨i,a⟩ hp;rw[HU,vP hn hp]
theorem XE{nx sz k:Nat}(h:Ks nx sz k=true):k<nx\/(1000000<=k/\k<1000000+sz):=by simpa[Ks]using h
theorem gfN{nx sz k:Nat}(hle:nx+sz<=1000000)(h:k<nx\/(1000000<=k/\k<1000000+sz)):gN nx (fN nx k)=k:=by grind [gN,fN]
theorem H5{nx sz k:Nat}(hle:nx+sz<=1000000)(h:k<nx\/(1000000<=k/\k<1000000+sz)):fN nx k<nx+sz:=by grind [fN]
theorem Vc{nx k:Nat}(hle:nx<=1000000)(h:k<nx):fN nx k=k:=aY (by omega)
mutual
theorem XF{f:Nat->Nat}:∀x:DV X,(∀ k∈bx x,f k=k)->sA f x=x
 |.own k _ _,h|.ptr k _ _,h|.rK k _ _,h|.mp k,h|.oz k _,h|.ud k _ _ _ _,h=>by simp[sA,h k (by simp[bx])]
 |.agg cs,h|.fm cs,h=>by simp[sA,EO cs (by simpa[bx]using h)]
 |.fn F first caps,h=>by simp[sA,EO first (λ k hk=>h k (by simp[bx,hk])),EO caps (λ k hk=>h k (by simp[bx,hk]))]
 |.c _ _,_|.rp _ _ _,_|.zd _ _ _ _ _,_|.d7 _ _ _,_|.raw _,_|.nil,_|.ub,_|.skip,_|.undef,_=>rfl
theorem EO{f:Nat->Nat}:∀l:List (DV X),(∀ k∈aP l,f k=k)->LV f l=l
 |[],_=>rfl
 |x::xs,h=>by simp[LV,XF x (λ k hk=>h k (by simp[aP,hk])),EO xs (λ k hk=>h k (by simp[aP,hk]))]
end
mutual
theorem XG(f:Nat->Nat):∀x:DV X,bx (sA f x)=(bx x).map f
 |.own _ _ _|.ptr _ _ _|.rK _ _ _|.mp _|.oz _ _|.ud _ _ _ _ _=>rfl
 |.agg cs|.fm cs=>by simp[sA,bx,Dp f cs]
 |.fn F first caps=>by simp[sA,bx,Dp f first,Dp f caps]
 |.c _ _|.rp _ _ _|.zd _ _ _ _ _|.d7 _ _ _|.raw _|.nil|.ub|.skip|.undef=>rfl
theorem Dp(f:Nat->Nat):∀l:List (DV X),aP (LV f l)=(aP l).map f
 |[]=>rfl
 |x::xs=>by simp[LV,aP,XG f x,Dp f xs]
end
theorem ae9(f:Nat->Nat)(o:bz X):ee (qt f o)=(ee o).map f:=by
 cases o with
 |cells sz rows=>simp[qt,ee];congr 1;exact map_congr_left λr _=>Dp f r
 |ek c l|map kc vc l=>rfl
theorem amx{α β:Type}(f:α->β):∀(l:U (Nat×α))(k:Nat),lk (l.map λp=>(p.1,f p.2)) k=(lk l k).map f
 |[],_=>rfl
 |(j,x)::r,k=>by simp[lk];by_cases h:j=k;simp[h];simp[aT h,amx f r k]
theorem ajF{α β:Type}(f:α->β)(g:Nat->Nat):∀(l:U (Nat×α))(j:Nat),(∀ p∈l,∀q∈l,g p.1=g q.1->p.1=q.1)->
 (∀ y,lk (l.map λp=>(g p.1,f p.2)) j=some y->∃k x,lk l k=some x/\g k=j/\y=f x)/\(lk (l.map λp=>(g p.1,f p.2)) j=none->∀p∈l,g p.1≠j)
 |[],_,_=>⟨λ _ h=>by simp[lk]at h,λ_=>by simp⟩
 |(k0,x0)::r,j,hi=>by
  obtain⟨i1,i2⟩:=ajF f g r j (λ p hp q hq=>hi p (by simp[hp]) q (by simp[hq]));simp[lk];by_cases h:g k0=j;rw[aY h];exact⟨λ y hy=>by injection hy with hy;exact⟨k0,x0,by simp,h,hy.symm⟩,λhn=>by cases hn⟩
  grind
structure Ext(ds:Nat->Prop)(s s':cM X):Prop where
 env:∀t,¬ds t->ea s'.env t=ea s.env t\/ea s'.env t=.undef
 obj:∃d,s'.log=d++s.log/\∀k,k<s.nx->k∉d->gd s'.obj k=gd s.obj k\/gd s'.obj k=none
 nx:s.nx<=s'.nx
variable {Γ:FuncId->Option (ci X)} {fz:List Nat} {T:en} {code:TypeId->Option (CT X.ι)} {P:Program} {N:Nat}
theorem NI(s:cM X)(e:U (Nat×DV X))(o:U (Nat×Option (bz X)))(sz t:Nat):ea (fin s e o sz).env t=match lk e t with|some d=>PH (sA (fN s.nx) d)|none=>ea s.env t:=by simp[fin,ea,Dn,amx (λ d=>PH (sA (fN s.nx) d))];cases lk e t<;>rfl
theorem ac1(hT:fB P T)(hm:P.follows .mixedOrders=true)(hΓ:qq P Γ){id:Nat}{ag:Array Oper}{d:Bool}{s:cM X}{k:cM X->J A}{r:A}(hl:Low s)(h:ahR Γ fz T code N ag d s k=some r):
 ∃s':cM X,k s'=some r/\Low s'/\Ext (Tn ag) s s'/\Ev P N (.region id ag d) (λ e σ=>e=.normal/\σ=s'.st) s.st:=by
 unfold ahR at h;obtain⟨tr,e,o,h1,h2,h3,h4⟩:=EN hΓ _ _ _ _ h;have⟨h5,h6⟩:=eu h2;simp only[amv,aX,append_nil]at h5;obtain⟨⟨⟨⟨hd,hlex⟩,hE⟩,hO⟩,hnx⟩:=h5;have hle:s.nx+64*ag.size<=1000000:=of_decide_eq_true hnx;have MM:(tr.map (·.1)).Nodup:=by rw[h1];exact List.nodup_range
 have hEn:∀t x,lk e t=some x->∀j∈bx x,j<s.nx\/(1000000<=j/\j<1000000+64*ag.size):=by intro t x hx j hj;have:=all_eq_true.1 hE _ (rD hx);exact XE (all_eq_true.1 this j hj)
 have NO:∀p∈o,(p.1<s.nx\/(1000000<=p.1/\p.1<1000000+64*ag.size))/\∀x,p.2=some x->∀j∈ee x,j<s.nx\/(1000000<=j/\j<1000000+64*ag.size):=by intro p hp;have:=all_eq_true.1 hO _ hp;simp at this;refine⟨XE this.1,λx hx j hj=>?_⟩;have h2:=this.2;rw[hx]at h2;exact XE (all_eq_true.1 h2 j hj)
 have hinj:∀p∈o,∀q∈o,fN s.nx p.1=fN s.nx q.1->p.1=q.1:=by
  intro p hp q hq he;have:=congrArg (gN s.nx) he
  rwa [gfN hle (NO p hp).1,gfN hle (NO q hq).1]at this
 have zv:∀j,(∃ q x,lk o q=some x/\fN s.nx q=j/\gd (fin s e o (64*ag.size)).obj j=x.map (qt (fN s.nx)))\/(gd (fin s e o (64*ag.size)).obj j=gd s.obj j/\∀p∈o,fN s.nx p.1≠j):=by
  intro j;obtain⟨i1,i2⟩:=ajF (λ x:Option (bz X)=>x.map (qt (fN s.nx))) (fN s.nx) o j hinj;simp only[fin,gd,Dn];cases hj:lk (o.map λp=>(fN s.nx p.1,p.2.map (qt (fN s.nx)))) j with
  |none=>exact .inr ⟨rfl,i2 hj⟩
  |some y=>
   have⟨q,x,g1,g2,g3⟩:=i1 y hj;exact .inl ⟨q,x,g1,g2,by rw[g3];rfl⟩
 refine⟨fin s e o (64*ag.size),h6,?_,?_,?_⟩;constructor;exact hle;have:=hl.ge;show 1000<=s.nx+64*ag.size;omega;intro t j hj;rw[NI]at hj;cases ht:lk e t with
 |none=>rw[ht]at hj;have:=hl.env t j hj;show j<s.nx+64*ag.size;omega
 |some x=>
  rw[ht,abq,XG]at hj;obtain⟨q,hq,rfl⟩:=mem_map.1 hj;exact H5 hle (hEn t x ht q hq)
 intro j x hx;rcases zv j with ⟨q,y,g1,rfl,g3⟩|⟨g1,_⟩;rw[g3]at hx;rw[iE]at hx;obtain⟨z,rfl,rfl⟩:=hx;obtain⟨k1,k2⟩:=NO _ (rD g1);refine⟨H5 hle k1,λi hi=>?_⟩;rw[ae9]at hi;obtain⟨i',hi',rfl⟩:=mem_map.1 hi;exact H5 hle (k2 z rfl i' hi');rw[g1]at hx;have⟨k1,k2⟩:=hl.obj j x hx;refine⟨show j<s.nx+64*ag.size by omega,λi hi=>?_⟩;have:=k2 i hi;show i<s.nx+64*ag.size;omega;refine⟨λ t ht=>.inl ?_,⟨o.map (λ p=>fN s.nx p.1),rfl,λj hj hn=>?_⟩,by show s.nx<=s.nx+64*ag.size;omega⟩;rw[NI];cases hx:lk e t with
 |none=>rfl
 |some x=>
  rcases h3 _ (rD hx)with h|h;simp at h;exact(ht h).elim
 rcases zv j with ⟨q,y,g1,g2,g3⟩|⟨g1,_⟩;exact(hn (mem_map.2 ⟨(q,y),rD g1,g2⟩)).elim;exact .inl g1;have hst:jb s [] []=s.st:=rfl;have hex:=h4 (HU tr) (amw MM);rw[hst]at hex;intro _ w0 O0 β I a w hr ho;have done:∀(e':Exit)(a':Act)(w':World),(∃ β' I' σ1,Rel P w0 O0 N β' I' σ1 a' w'/\e'=.normal/\σ1=jb s e o)->∃ β' I' σ1,Rel P w0 O0 N β' I' σ1 a' w'/\vf σ1/\e'=.normal/\σ1=(fin s e o (64*ag.size)).st:=by
  rintro e' a' w' ⟨β',I',σ1,g1,rfl,rfl⟩;refine⟨_,I',(fin s e o (64*ag.size)).st,Rel.re (f:=fN s.nx) (g:=gN s.nx) (D:=λk=>k<s.nx\/(1000000<=k/\k<1000000+64*ag.size)) (λ k hk=>gfN hle hk) (λ j hj=>by have:=hl.ge;unfold gN;rw[aY (by omega)]) g1 (λ t=>?_) (λ _=>rfl) (λ t=>.inr ?_) (λ j o' hj=>?_),?_,rfl,rfl⟩;show(match lk e t with|some .skip=>some false|_=>none)=none\/den (ea (fin s e o (64*ag.size)).env t)=.undef;rw[NI];cases ht:lk e t with
  |none=>exact .inl rfl
  |some d=>cases d<;>first|exact .inl rfl|exact .inr rfl
  show(∀ k∈refs (den (pH e s.env t)),_)/\lO (kx (fN s.nx) (den (pH e s.env t))) (den (ea (fin s e o (64*ag.size)).env t));rw[NI,ja,<- A8];unfold pH;cases ht:lk e t with
  |none=>
   refine⟨λ q hq=>.inl (hl.env t q hq),?_⟩;rw[XF _ (λ q hq=>Vc (by omega) (hl.env t q hq))];exact lO.refl _
  |some x=>exact⟨hEn t x ht,by simp[amu];exact lO.refl _⟩
  simp[cM.st]at hj;obtain⟨x,hx,rfl⟩:=hj;rcases zv j with ⟨q,y,i1,rfl,i3⟩|⟨i1,i2⟩;rw[i3,iE]at hx;obtain⟨z,rfl,rfl⟩:=hx;obtain⟨k1,k2⟩:=NO _ (rD i1);obtain⟨r1,r2⟩:=Kh (D:=λk=>k<s.nx\/(1000000<=k/\k<1000000+64*ag.size)) (fN s.nx) z (λ i hi=>k2 z rfl i hi);refine⟨q,bP z,?_,k1,rfl,r1,r2⟩;simp[jb,zt,i1];rw[i1]at hx;have⟨k1,k2⟩:=hl.obj j x hx;have hid:qt (fN s.nx) x=x:=by
   cases x with
   |ek c l|map kc vc l=>rfl
   |cells sz rows=>
    simp[qt];congr 1;have:∀q∈rows,LV (fN s.nx) q=q:=λq hq=>EO q λi hi=>Vc (by omega) (k2 i (by simp[ee];exact⟨_,⟨q,hq,rfl⟩,hi⟩));rw[map_congr_left this];simp
  obtain⟨r1,r2⟩:=Kh (D:=λk=>k<s.nx\/(1000000<=k/\k<1000000+64*ag.size)) (fN s.nx) x (λ i hi=>.inl (k2 i hi));rw[hid]at r1 r2;refine⟨j,bP x,?_,.inl k1,Vc (by omega) k1,r1,r2⟩;simp[jb,zt];cases hlo:lk o j with
  |none=>simp[hx]
  |some y=>exact(i2 _ (rD hlo) (Vc (by omega) k1)).elim
  have hL:Low (fin s e o (64*ag.size)):=by
   constructor;exact hle;have:=hl.ge;show 1000<=s.nx+64*ag.size;omega;intro t j hj;rw[NI]at hj;cases ht:lk e t with
   |none=>rw[ht]at hj;have:=hl.env t j hj;show j<s.nx+64*ag.size;omega
   |some x=>
    rw[ht,abq,XG]at hj;obtain⟨q,hq,rfl⟩:=mem_map.1 hj;exact H5 hle (hEn t x ht q hq)
   intro j x hx;rcases zv j with ⟨q,y,g1,rfl,g3⟩|⟨g1,_⟩;rw[g3]at hx;rw[iE]at hx;obtain⟨z,rfl,rfl⟩:=hx;obtain⟨k1,k2⟩:=NO _ (rD g1);refine⟨H5 hle k1,λi hi=>?_⟩;rw[ae9]at hi;obtain⟨i',hi',rfl⟩:=mem_map.1 hi;exact H5 hle (k2 z rfl i' hi');rw[g1]at hx;have⟨k1,k2⟩:=hl.obj j x hx;refine⟨show j<s.nx+64*ag.size by omega,λi hi=>?_⟩;have:=k2 i hi;show i<s.nx+64*ag.size;omega
  exact hL.old
 cases d with
 |false=>exact wpIn_mono (akt hT hd ho hex hr) done
 |true=>
  refine wpIn_mono (WN hT hm hd ?_ ho hex hr) done;rw[<- ae8 (apX MM)];simpa using hlex
end
end Go.Gb
namespace Go.Gb
open Go.RowKit
structure Sh(ι:Type) where
 slots:List (Nat×Pt ι)
 cD:List (Nat×OP ι)
 keep:List Nat
 dc:List Nat
 nx:Nat
 Do:List (Nat×CT ι)
def Sh.vars{ι:Type}(s:Sh ι):U (CT ι):=i6 s.slots++df s.cD
section
variable {X:SX}
def nz(z:Bool)(k:Nat):DV X:=bif z then .oz k 0 else .own k 0 0
def CC(z:Bool)(s:cM X)(t:Nat)(c:CT X.ι):cM X:=
 match ea s.env t with
 |.nil=>if s.nx<1000000 then⟨(t,nz z s.nx)::s.env,(s.nx,some (.ek c []))::s.obj,s.nx+1,s.nx::s.log⟩else s
 |_=>s
def HT(s:cM X)(q j:Nat)(c:CT X.ι):cM X:=
 match gd s.obj q with
 |some (.cells sz [row])=>match row[j]? with
  |some .nil=>if s.nx<1000000 then⟨s.env,(q,some (.cells sz [row.set j (.own s.nx 0 0)]))::(s.nx,some (.ek c []))::s.obj,s.nx+1,q::s.nx::s.log⟩else s
  |_=>s
 |_=>s
def QN:U (Nat×CT X.ι)->cM X->cM X
 |[],s=>s
 |(t,c)::r,s=>QN r (bif Nat.ble 1000000 t then bif Nat.ble 1099511627776 t then CC true s (t-1099511627776) c else HT s ((t-1000000)/4096) ((t-1000000)%4096) c else CC false s t c)
def isU:DV X->Bool
 |.undef|.skip=>true
 |_=>false
def encS(sh:Sh X.ι)(s0:cM X)(v:VT (X:=X) sh.vars):cM X:=
 let L:=wU sh.vars v
 let n:=(i6 sh.slots).length
 let ol:=λk=>(lk (lens sh.cD (L.drop n)) k).getD 0
 ⟨xM ol sh.slots (L.take n)++sh.keep.map (λ t=>(t,ea s0.env t)),cO ol sh.cD (L.drop n)++sh.dc.map (λ k=>(k,gd s0.obj k)),sh.nx,
  (List.range s0.nx).filter (λ k=>!sh.dc.contains k)++s0.log⟩
def okS(b:Bool)(sh:Sh X.ι)(ds:U Nat)(s0 s':cM X)(m:MA X):Bool:=
 decide (m.nm.map (·.1)++sh.dc).Nodup&&decide (m.nm.map (·.2)++sh.dc).Nodup&&decide (sh.cD.map (·.1)).Nodup&&m.nm.all (λ q=>(sh.cD.map (·.1)).contains q.2&&decide (q.2<sh.nx)&&(decide (q.1=q.2) || decide (1000<=q.2) || !b))&&
  sh.slots.all (λ p=>ds.contains p.1)&&sh.keep.all (λ t=>!ds.contains t&&!isU (ea s'.env t)&&(bx (ea s0.env t)).all λj=>sh.dc.contains j || m.nm.contains (j,j))&&
  sh.dc.all (λ k=>decide (k<s0.nx)&&!(s'.log.take (s'.log.length-s0.log.length)).contains k&&(gd s'.obj k).isSome&&match gd s0.obj k with|some o=>(ee o).all λj=>sh.dc.contains j || m.nm.contains (j,j)|none=>false)&&
  decide (s0.nx<=sh.nx)&&decide (sh.nx<=1000000)
def WP{A:Type}(b:Bool)(sh:Sh X.ι)(ds:U Nat)(s0 s':cM X)(k:VT (X:=X) sh.vars->J A):J A:=
 (IC (gd s'.obj) (ea s'.env) sh.slots ⟨[],[],[]⟩).bind λm=>(Dj (gd s'.obj) sh.cD m).bind λm=>bif okS b sh ds s0 s' m then(Hi sh.vars m.eK).bind λv=>WY m.j8 (k v)else none
def ahS{A:Type}(b:Bool)(sh:Sh X.ι)(ds:U Nat)(s0 s':cM X)(k:VT (X:=X) sh.vars->J A):J A:=
 bif sh.Do.all (λ p=>bif Nat.ble 1000000 p.1 then !Nat.ble 1099511627776 p.1 || ds.contains (p.1-1099511627776)else ds.contains p.1)then WP b sh ds s0 (QN sh.Do s') k else none
def ql{A:Type}(sh:Sh X.ι)(ds:U Nat)(s0 s':cM X)(k:VT (X:=X) sh.vars->J A):J A:=ahS true sh ds s0 s' k
end
end Go.Gb
