import Derived.Test.YtckpncemdfkmgaaGreatW1
import Derived.Maps.RangeRun
import Derived.ChangeSame
import Derived.Carry
import Derived.OpenShut
import Derived.SizedLaws
import Derived.WalkKit
import Derived.ProofKit
import Derived.Lib.LaidTab
open List (mem_map all_eq_true cons_append length_map append_nil map_map take_of_length_le map_congr_left map_nil all_cons map_take map_drop mem_flatMap mem_append_left mem_append_right)
namespace Go.Gb
open Go.RowKit Go.MapKept
theorem UJ{L:Option Nat}{P:Program}{ag:Array Oper}{Q:Exit->Act->World->Prop}{i:Nat}{ae:List Nat}{o:Oper}{a:Act}{w w':World}{v:Value}(h:ag[i]? =some o)(hg:o.guard=none)
 (hx:(execOp a.eval o).run P w=.ok (.value v) w') (hk:wpOpsIn (Fw L) 0 P ag Q ae (a.put o.dst v) w'):wpOpsIn (Fw L) 0 P ag Q (i::ae) a w:=by rw[wpOpsIn_cons];simp[wpOpIn,h];rw[aY (by simp[Region.wanted,hg])];refine⟨λ f _=>Fw.fn L f,?_⟩;rw[xR hx (by simp)];exact hk
structure RgI where
 x:Operand
 t:TypeId
 a0:Nat
 it:Nat
 nn:Nat
 b:Nat
 e:Nat
 xx:Nat
 kv:Nat
 j:Nat
 j2:Nat
 body:Code
section
variable {P:Program} {w0:World} {O0:gA} {N:Nat} {β:Nat->Option cz} {I:Nat->Prop} {σ:St} {a:Act} {w:World}
def St.put(σ:St)(d:Nat)(x:AV):St:=⟨Au σ.env (some d) x,σ.obj,Au σ.ok (some d) none⟩
theorem Rel.put(hr:Rel P w0 O0 N β I σ a w){d:Nat}(hd:d<N){x:AV}{v:Value}(hv:VR P β w I x v):Rel P w0 O0 N β I (σ.put d x) (a.put (some d) v) w:=by
 refine⟨by simpa[Act.put]using hr.defers,by simpa[Act.put]using hr.size,λt=>?_,hr.mem⟩;have hold:=hr.env t;simp only[St.put,Au,Act.put,bM];by_cases hdt:d=t;subst hdt;rw[aY rfl,aY rfl];have e:(a.tmps.setIfInBounds d v).getD d undef=v:=by simp[Nat.lt_of_lt_of_eq hd hr.size.symm]
 rw[e];exact hv
 simp_all
theorem Ty{a:Act}{d:Nat}{v:Value}(hd:d<a.tmps.size):(a.put (some d) v).eval (.tmp d)=v:=by simp[Act.put,Act.eval,hd]
theorem rF{a:Act}{d t:Nat}{v:Value}(h:d≠t):(a.put (some d) v).eval (.tmp t)=a.eval (.tmp t):=by
 simp_all [Act.put,Act.eval]
def BC(w0:World)(O0:gA)(I E:Nat->Prop)(dl:List Deferred):gA:=⟨λ q=>(O0.own q\/w0.heap.size<=q)/\¬E q/\¬I q,λq=>(O0.pT q\/O0.own q\/w0.heap.size<=q)/\¬E q,O0.anc,O0.lt,dl⟩
structure kw(β:Nat->Option cz)(I:Nat->Prop)(obj:Nat->Option aO)(w:World)(r:Nat):Prop where
 lt:r<w.heap.size
 pT:¬I r
 obj:∀k o,obj k=some o->¬ft β k r
theorem Mem.sC{obj:Nat->Option aO}(h:Mem P w0 O0 β I obj w){E:Nat->Prop}(hE:∀q,E q->kw β I obj w q){dl:List Deferred}:Mem P w (BC w0 O0 I E dl) β I obj w:=by refine⟨h.cy,h.ep,λk o B q h1 h2 h3=>?_,h.lt,λq hq=>.inl ⟨h.up q hq,λe=>(hE q e).pT hq⟩,λ_ _ _=>rfl,aA _,rfl,rfl,rfl,h.anch,h.vars⟩;have⟨g1,g2,g3⟩:=h.ownB k o B q h1 h2 h3;exact⟨g1,g2,.inl ⟨g3,λe=>(hE q e).obj k o h1 ⟨B,h2,h3⟩,g1⟩⟩
theorem Mem.sy{obj js:Nat->Option aO}{β':Nat->Option cz}{I':Nat->Prop}{w':World}(h:Mem P w0 O0 β I obj w){E:Nat->Prop}{dl:List Deferred}(h':Mem P w (BC w0 O0 I E dl) β' I' js w')(hE:∀q,E q->q<w.heap.size):
 Mem P w0 O0 β' I' js w'/\(∀ q,E q->kw β' I' js w' q/\w'.heap[q]? =w.heap[q]?)/\Same I w w':=by
 have hle:=h.le;have hle':=h'.le;have own':∀k o B q,js k=some o->β' k=some B->B.num=some q->(O0.own q\/w0.heap.size<=q)/\¬E q:=by intro k o B q h1 h2 h3;rcases (h'.ownB k o B q h1 h2 h3).2.2 with g|g;exact⟨g.1,g.2.1⟩;exact⟨.inr (by omega),λe=>by have:=hE q e;omega⟩
 have HX:∀q,I' q->(O0.pT q\/O0.own q\/w0.heap.size<=q)/\¬E q:=by intro q hq;rcases h'.up q hq with g|g|g;exact g;exact⟨.inr g.1,g.2.1⟩;exact⟨.inr (.inr (by omega)),λe=>by have:=hE q e;omega⟩
 refine⟨⟨h'.cy,h'.ep,λk o B q h1 h2 h3=>⟨(h'.ownB k o B q h1 h2 h3).1,(h'.ownB k o B q h1 h2 h3).2.1,(own' k o B q h1 h2 h3).1⟩,h'.lt,λq hq=>(HX q hq).1,λq hq hno=>?_,by omega,h'.os.trans h.os,h'.tape.trans h.tape,h'.output.trans h.output,h'.anch,h'.vars⟩,
  λq hq=>⟨⟨by have:=hE q hq;omega,λhi=>(HX _ hi).2 hq,λk o h1 ⟨B,h2,h3⟩=>(own' k o B q h1 h2 h3).2 hq⟩,h'.keep q (hE q hq) λhh=>hh.2.1 hq⟩,λq hq=>h'.keep q (h.lt q hq) λhh=>hh.2.2 hq⟩
 exact(h'.keep q (by omega) (λ hh=>by rcases hh.1 with g|g;exact hno g;omega)).trans (h.keep q hq hno)
theorem Mem.Up{obj:Nat->Option aO}(h:Mem P w0 O0 β I obj w){r:Nat}(hr:kw β I obj w r)(hnew:w0.heap.size<=r){w':World}(hother:∀q,q≠r->w'.heap[q]? =w.heap[q]?)(hsize:w'.heap.size=w.heap.size)(hos:w'.os=w.os)(rK:w'.tape=w.tape)(hout:w'.output=w.output):
 Same I w w'/\Mem P w0 O0 β I obj w':=by have hs:Same I w w':=λq hq=>hother q (λ e=>hr.pT (e ▸ hq));refine⟨hs,λk o hk=>?_,h.ep,λk o B q h1 h2 h3=>by rw[hsize];exact h.ownB k o B q h1 h2 h3,λq hq=>by rw[hsize];exact h.lt q hq,h.up,λq hq hno=>?_,by rw[hsize];exact h.le,hos.trans h.os,rK.trans h.tape,hout.trans h.output,h.anch,h.vars.mono hs (λ _ h=>h)⟩;have⟨B,hB,hO⟩:=h.cy k o hk;exact⟨B,hB,OR.mono (λ _ _ h=>h) hs (λ _ h=>h) (λ q hq=>hother q (λ e=>hr.obj k o hk ⟨B,hB,e ▸ hq⟩)) hO⟩;rw[hother q (by omega)];exact h.keep q hq hno
theorem Rel.world{w':World}(hr:Rel P w0 O0 N β I σ a w)(hs:Same I w w')(hm:Mem P w0 O0 β I σ.obj w'):Rel P w0 O0 N β I σ a w':=
 ⟨hr.defers,hr.size,λt=>da.mono (λ _ _ h=>h) hs (λ _ h=>h) (hr.env t),hm⟩
end
open Go.RowKit
def kept(os':List (Option fw))(j:Nat):Prop:=∃p,os'[j]? =some (some p)
def A0(get:Nat->Option aO)(fk:Option Nat)(os':List (Option fw)):AV->Tree->Prop
 |.t x,y=>y=x
 |.cN,y=>y=.sl []
 |.oz k len,y=>fk≠some k/\¬kept os' k/\∃o dc,get k=some o/\(o.rows.drop 0).take len=aI dc/\dc.length=len/\y=.sl dc
 |.own k aa len,y=>fk≠some k/\¬kept os' k/\∃o dc,get k=some o/\(o.rows.drop aa).take len=aI dc/\dc.length=len/\y=.sl dc
 |_,_=>False
def lO(get:Nat->Option aO)(fk:Option Nat)(os':List (Option fw)):List AV->List Tree->Prop
 |[],[]=>True
 |x::xs,y::ys=>A0 get fk os' x y/\lO get fk os' xs ys
 |_,_=>False
def ek(get:Nat->Option aO)(fk:Option Nat)(os':List (Option fw)):List (List AV)->List (List Tree)->Prop
 |[],[]=>True
 |x::xs,y::ys=>lO get fk os' x y/\ek get fk os' xs ys
 |_,_=>False
def Hc(get:Nat->Option aO)(fk:Option Nat)(os':List (Option fw)):AV->RC->Prop
 |.agg cs,.d (.a ts)=>lO get fk os' cs ts
 |x,.d (.s y)=>A0 get fk os' x y
 |.cN,.fresh _ rows=>rows=[]
 |.own k aa len,.fresh sz rows=>fk=some k/\¬kept os' k/\aa=0/\∃o,get k=some o/\o.sz=sz/\ek get fk os' (o.rows.take len) rows/\rows.length=len
 |.own k aa len,.whole j len'=>k=j/\aa=0/\len'=len/\kept os' j
 |_,_=>False
def nw(get:Nat->Option aO)(fk:Option Nat)(os':List (Option fw)):List AV->List RC->Prop
 |[],[]=>True
 |x::xs,c::cs=>Hc get fk os' x c/\nw get fk os' xs cs
 |_,_=>False
def Hb(get:Nat->Option aO)(fk:Option Nat)(os':List (Option fw)):List AV->RV->Prop
 |[x],.one c=>Hc get fk os' x c
 |x::y::r,.eR cs=>nw get fk os' (x::y::r) cs
 |[],.eR cs=>cs=[]
 |_,_=>False
def Q2(get:Nat->Option aO)(fk:Option Nat)(os':List (Option fw)):Prop:=
 ∀(j:Nat) p,os'[j]? =some (some p)->fk≠some j/\∃o,get j=some o/\o.sz=p.1/\ek get fk os' (o.rows.take p.2.length) p.2
def Tz(T:ed)(t:TypeId)(x:AV)(obj:Nat->Option aO):Option Out:=
 J3 T t x .none obj
def OO(T:ed)(σ:St):ResultVar->Option AV
 |.tmp t=>match σ.ok t with
  |none=>some (σ.env t)
  |some _=>none
 |.cell a t=>match σ.ok a with
  |none=>match Tz T t (σ.env a) σ.obj with
   |some ⟨v,[],[]⟩=>some v
   |_=>none
  |some _=>none
def lV(T:ed)(σ:St):List ResultVar->Option (List AV)
 |[]=>some []
 |r::rs=>(OO T σ r).bind λv=>(lV T σ rs).bind λvs=>some (v::vs)
def QS(tmps:Array Value):ResultVar->Sem Value
 |.tmp t=>pure (tmps.getD t undef)
 |.cell a t=>do loadVar t (<- asAddr (tmps.getD a undef))
theorem Dv(fn:Func)(tmps:Array Value):results fn tmps=(fn.results.mapM (QS tmps))>>=λvs=>pure (if h:vs.size=1 then vs[0]else .tuple vs):=by congr 2
def aoC(T:ed)(rs:List ResultVar)(rv:RV)(os':List (Option fw)):Exit->St->Prop
 |.normal,σ=>∃xs fk,lV T σ rs=some xs/\Hb σ.obj fk os' xs rv/\Q2 σ.obj fk os'
 |.ret,σ=>∃xs fk,lV T σ rs=some xs/\Hb σ.obj fk os' xs rv/\Q2 σ.obj fk os'
 |_,_=>False
section
variable {P:Program} {T:ed} {w0:World} {O0:gA} {N:Nat} {β:Nat->Option cz} {I:Nat->Prop} {σ:St} {a:Act} {w:World}
theorem aaC(hT:fu P T)(hr:Rel P w0 O0 N β I σ a w){r:ResultVar}{x:AV}(h:OO T σ r=some x):
 ∃v,(QS a.tmps r).run P w=.ok v w/\VR P β w I x v:=by
 cases r with
 |tmp t=>
  simp only[OO]at h;have h1:=hr.env t;cases hk:σ.ok t with
  |some b=>rw[hk]at h;cases h
  |none=>
   rw[hk]at h h1;cases h;exact⟨_,by simp[QS],h1⟩
 |cell ad t=>
  simp only[OO]at h;have hx:=hr.env ad;cases hk:σ.ok ad with
  |some b=>rw[hk]at h;cases h
  |none=>
  rw[hk]at h hx;simp only at h;have hx:VR P β w I (σ.env ad) (a.tmps.getD ad undef):=hx;split at h
  ·rename_i v hl;injection h with h;subst h;obtain⟨u,h1,h2⟩:∃u,(Instr.loadAt t (a.tmps.getD ad undef)).run P w=.ok u w/\VR P β w I v u:=(by obtain⟨u,h1,h2,_⟩:=QF hT hr.mem (λ _ _ h=>h) hl trivial hx;exact⟨u,h1,h2⟩);refine⟨u,?_,h2⟩;have hp:∃p,a.tmps.getD ad undef=.pointer (some p):=by
    unfold Tz at hl;unfold J3 at hl;cases hti:T t with
    |none=>simp[hti]at hl
    |some ti=>
     simp only[hti,ai]at hl;split at hl
     ·rename_i heq;rw[heq]at hx;simp only[VR]at hx;obtain⟨b,sz,n,_,h⟩:=hx;exact⟨_,h⟩
     ·rename_i heq;rw[heq]at hx;simp only[VR]at hx;obtain⟨b,o,h,_⟩:=hx;exact⟨_,h⟩
     ·cases hl
   obtain⟨p,hp⟩:=hp;rw[hp]at h1;simp only[QS,hp,asAddr,Sem.run_bind,Sem.run_pure,Result.andThen_ok];exact h1
  ·cases h
theorem vv(hT:fu P T)(hr:Rel P w0 O0 N β I σ a w):∀(rs:List ResultVar)(xs:List AV),lV T σ rs=some xs->
 ∃vs,(rs.mapM (QS a.tmps)).run P w=.ok vs w/\bk P β w I xs vs
 |[],xs,h=>by simp_all [lV,bk]
 |r::rs,xs,h=>by
  simp[lV]at h;cases h1:OO T σ r with
  |none=>grind
  |some x=>
   cases h2:lV T σ rs with
   |none=>grind
   |some ys=>
    simp[h1,h2]at h;subst h;have⟨v,g1,g2⟩:=aaC hT hr h1;obtain⟨vs,g3,g4⟩:=vv hT hr rs ys h2
    simp_all [g1,g3,bk]
def LM(σ:St)(w0 w:World)(β:Nat->Option cz)(I:Nat->Prop)(O0:gA)(fk:Option Nat)(os':List (Option fw))(b:Nat):Prop:=
 (I b\/O0.pT b\/w0.heap.size<=b\/O0.own b)/\b<w.heap.size/\¬∃k,(fk=some k\/kept os' k)/\(∃ o,σ.obj k=some o)/\ft β k b
theorem acD(hr:Rel P w0 O0 N β I σ a w)(fk:Option Nat)(os':List (Option fw)):∀b,I b->LM σ w0 w β I O0 fk os' b:=λb hb=>
 ⟨.inl hb,hr.mem.lt b hb,λ⟨k,_,⟨o,ho⟩,hβ⟩=>(hr.mem.ix k o b ho hβ).1 hb⟩
theorem LP(hr:Rel P w0 O0 N β I σ a w){fk:Option Nat}{os':List (Option fw)}{k aa len:Nat}{y:Tree}{v:Value}(h:fk≠some k/\¬kept os' k/\∃o dc,σ.obj k=some o/\(o.rows.drop aa).take len=aI dc/\dc.length=len/\y=.sl dc)(hv:VR P β w I (.own k aa len) v):TR w (LM σ w0 w β I O0 fk os') y v:=by obtain⟨hne,hnk,o,dc,h1,h2,h3,rfl⟩:=h;simp only[TR];rcases hv with ⟨_,rfl,_,h4⟩|⟨b,sz,n,cap,ad,h4,rfl,h5,h6,h7⟩;exact .inl ⟨List.eq_nil_of_length_eq_zero (by omega),none,0,rfl,λ_=>rfl⟩;have⟨g1,g2,g3⟩:=hr.mem.own k o b sz n h1 h4;refine .inr ⟨b,ad,cap,sz,by rw[h3],by omega,⟨.inr (.inr (g3.elim .inr .inl)),g2,λ⟨k',e1,⟨o',e2⟩,e3⟩=>?_⟩,?_⟩;have:=hr.mem.ov k k' o o' b h1 e2 (.at h4) e3;subst this;exact e1.elim hne hnk;by_cases hc:cap=0;have:dc=[]:=List.eq_nil_of_length_eq_zero (by omega);subst this;simp[cx];rw[h7 hc];have⟨B,hB,so⟩:=hr.mem.cy k o h1;rw[h4]at hB;cases hB;obtain⟨hs,c,e,hc',_,so⟩:=so;have h8:=bx.take len _ _ _ _ (bx.drop aa _ _ _ _ so);rw[h2]at h8;exact cx.lv (acD hr fk os') hc' dc _ _ h8
theorem Dw(hr:Rel P w0 O0 N β I σ a w){fk:Option Nat}{os':List (Option fw)}{x:AV}{y:Tree}{v:Value}(h:A0 σ.obj fk os' x y)(hv:VR P β w I x v):TR w (LM σ w0 w β I O0 fk os') y v:=by
 cases x<;>simp only[A0]at h
 case t x=>subst h;simp[VR]at hv;exact TR.mono (λ _ _=>rfl) (acD hr fk os') _ _ hv
 case cN=>subst h;grind [VR,TR]
 case own k aa len=>exact LP hr h hv
 case oz k len=>
  rcases hv.vj with ⟨rfl,rfl⟩|⟨_,hv⟩;obtain⟨hne,hnk,o,dc,h1,h2,h3,rfl⟩:=h;exact .inl ⟨List.eq_nil_of_length_eq_zero h3,none,0,rfl,λ_=>rfl⟩;exact LP hr h hv
theorem LQ(hr:Rel P w0 O0 N β I σ a w){fk:Option Nat}{os':List (Option fw)}{β':Nat->Option cz}:∀{r:List AV}{t:List Tree}{c:Array Value}{aa:Nat},lO σ.obj fk os' r t->cQ P β w I r c aa->cQ P β' w (LM σ w0 w β I O0 fk os') (t.map AV.t) c aa
 |[],[],_,_,_,_=>trivial
 |x::xs,y::ys,c,aa,h,⟨⟨v,h1,h2,h3⟩,h4⟩=>⟨⟨v,h1,by simp[VR];exact Dw hr h.1 h2,h3⟩,LQ hr h.2 h4⟩
 |[],_::_,_,_,h,_|_::_,[],_,_,h,_=>h.elim
theorem lO.length{get:Nat->Option aO}{fk:Option Nat}{os':List (Option fw)}:∀{r:List AV}{t:List Tree},lO get fk os' r t->t.length=r.length
 |[],[],_=>rfl
 |_::_,_::_,h=>by simp[lO.length h.2]
 |[],_::_,h|_::_,[],h=>h.elim
theorem Av(hr:Rel P w0 O0 N β I σ a w){fk:Option Nat}{os':List (Option fw)}{β':Nat->Option cz}:∀{rs:List (List AV)}{ts:List (List Tree)}{c:Array Value}{aa sz:Nat},ek σ.obj fk os' rs ts->bx P β w I rs c aa sz->bx P β' w (LM σ w0 w β I O0 fk os') (aI ts) c aa sz
 |[],[],_,_,_,_,_=>trivial
 |r::rs,t::ts,c,aa,sz,h,⟨h1,h2,h3⟩=>⟨by rw[length_map,h.1.length,h1],LQ hr h.1 h2,Av hr h.2 h3⟩
 |[],_::_,_,_,_,h,_|_::_,[],_,_,_,h,_=>h.elim
theorem ek.length{get:Nat->Option aO}{fk:Option Nat}{os':List (Option fw)}:∀{rs:List (List AV)}{ts:List (List Tree)},ek get fk os' rs ts->rs.length=ts.length
 |[],[],_=>rfl
 |_::_,_::_,h=>by simp[h.2.length]
 |[],_::_,h|_::_,[],h=>h.elim
theorem Kb(hr:Rel P w0 O0 N β I σ a w){fk:Option Nat}{os':List (Option fw)}{β':Nat->Option cz}:∀{r:List AV}{t:List Tree}{vs:List Value},lO σ.obj fk os' r t->bk P β w I r vs->bk P β' w (LM σ w0 w β I O0 fk os') (t.map AV.t) vs
 |[],[],[],_,_=>by trivial
 |x::xs,y::ys,v::vs,h,hv=>by exact⟨Dw hr h.1 hv.1,Kb hr h.2 hv.2⟩
 |[],_::_,_,h,_|_::_,[],_,h,_=>h.elim
 |[],[],_::_,_,hv|_::_,_::_,[],_,hv=>by trivial
theorem Gy(hr:Rel P w0 O0 N β I σ a w){fk:Option Nat}{os':List (Option fw)}{β':Nat->Option cz}:∀{rs:List (List AV)}{ts:List (List Tree)}{es:List MapEntry},ek σ.obj fk os' rs ts->cA P β w I rs es->cA P β' w (LM σ w0 w β I O0 fk os') (aI ts) es
 |[],[],[],_,_=>trivial
 |_::_,_::_,_::_,h,hm=>⟨Kb hr h.1 hm.1,Gy hr h.2 hm.2⟩
 |[],_::_,_,h,_|_::_,[],_,h,_=>h.elim
 |[],[],_::_,_,hm|_::_,_::_,[],_,hm=>hm.elim
theorem ek.nil{get:Nat->Option aO}{fk:Option Nat}{os':List (Option fw)}{t:List (List Tree)}(h:ek get fk os' [] t):t=[]:=by
 cases t with
 |nil=>rfl
 |cons=>trivial
theorem UK(hr:Rel P w0 O0 N β I σ a w){F:Nat->Prop}{βi:Nat->Option cz}{fk:Option Nat}{os':List (Option fw)}(hF:∀k o b,fk=some k->σ.obj k=some o->¬kept os' k->ft β k b->F b)(hi:∀j,kept os' j->β j=βi j){x:AV}{c:RC}{v:Value}
 (h:Hc σ.obj fk os' x c) (hv:VR P β w I x v):yz P F βi c w (LM σ w0 w β I O0 fk os') v:=by
 unfold Hc at h;split at h;rename_i cs ts;simp[VR]at hv;obtain⟨vs,rfl,hv⟩:=hv;refine⟨vs,rfl,?_⟩;have:∀(cs:List AV)(ts:List Tree)(vs:List Value),lO σ.obj fk os' cs ts->bk P β w I cs vs->eC w (LM σ w0 w β I O0 fk os') ts vs:=by
  intro cs
  induction cs with
  |nil=>intro ts vs h hv;cases ts<;>cases vs<;>first|trivial|grind|grind
  |cons x xs ih=>
   intro ts vs h hv;cases ts with
   |nil=>exact h.elim
   |cons t ts=>
    cases vs with
    |nil=>simp[bk]at hv
    |cons u us=>simp[bk]at hv;exact⟨Dw hr h.1 hv.1,ih ts us h.2 hv.2⟩
 exact this cs ts vs.toList h hv;exact Dw hr h hv;subst h;simp[VR]at hv;exact .inl ⟨rfl,hv⟩;rename_i k aa len sz rows;obtain⟨rfl,hnk,rfl,o,h1,rfl,h2,h3⟩:=h;simp only[VR]at hv;rcases hv with ⟨_,rfl,_,h4⟩|⟨b,sz,n,cap,ad,h4,rfl,h5,h6,h7⟩;exact .inl ⟨List.eq_nil_of_length_eq_zero (by omega),rfl⟩;have⟨B,hB,so⟩:=hr.mem.cy k o h1;rw[h4]at hB;cases hB;obtain⟨hs,c,e,hc',hn,so⟩:=so;refine .inr ⟨b,c,e,cap,ad,n.s,by rw[h3],hF k o b rfl h1 hnk (.at h4),λhI=>hI.2.2 ⟨k,.inl rfl,⟨o,h1⟩,.at h4⟩,hc',by omega,?_,?_,λhc=>by simpa using h7 hc⟩;rw[<- hs,hn];simpa using h6;rw[<- hs];exact Av hr h2 (bx.take len _ _ _ _ so);rename_i k aa len j len';obtain⟨rfl,rfl,rfl,hk⟩:=h;show VR P βi w (LM σ w0 w β I O0 fk os') (.own k 0 len') v;simp[VR]at hv ⊢;rw[<- hi k hk];exact hv
 grind
theorem yj{α:Type}(l:List α)(t:Nat):lk ((List.range l.length).zip l) t=l[t]? :=by
 have qn:∀(l:List α)(s t:Nat),(lk ((List.range' s l.length).zip l) t)=if s<=t/\t<s+l.length then l[t-s]? else none:=by
  intro l
  induction l with
  |nil=>simp[lk]
  |cons x xs ih=>
   simp[List.range'_succ,lk]
   all_goals grind
 simp[List.range_eq_range',qn]
theorem OQ{x:AV}:∀{l:List AV},x∈l->∀k∈refs x,k∈fq l
 |[],h,_,_=>by simp at h
 |y::ys,h,k,hk=>by simp[fq];rcases aQ.1 h with rfl|h;exact .inl hk;exact .inr (OQ h k hk)
theorem ain(hT : fu P T){f : FuncId}{fn : Func}{c : Code}{args : List AV}{os : List fw}{os' : List (Option fw)}{rv : RV}(hfn : P.funcs[f]? = some fn)(hb : fn.body = some c)(hname : (fn.name == "runtime.NumGoroutine") = false)(hN : args.length <= fn.ntmps)(hargs : ∀ k ∈ fq args, k < 1000)(hos : os.length <= 1000)(hlen : os'.length = os.length)
 (h:Ev P fn.ntmps c (aoC T fn.results.toList rv os') (rj.st ⟨(List.range args.length).zip args,(List.range (os.map gz).length).zip (os.map gz)⟩)):p5 P f args os os' rv:=by
 refine⟨⟨fn,hfn,by rw[hb];rfl,hname⟩,λw β I vs hβ hM hv=>?_⟩;have hvl:=bk.length _ _ hv;simp at hvl;have ie:∀k,lk ((List.range (os.map gz).length).zip (os.map gz)) k=rh os k:=λk=>by rw[yj];simp[rh]
 refine calls_of_wp hfn hb ?_;have hrel:Rel P w (mX β I) fn.ntmps β I (rj.st ⟨(List.range args.length).zip args,(List.range (os.map gz).length).zip (os.map gz)⟩) { tmps:=vs++Array.replicate (fn.ntmps-vs.size) undef,defers:=[] } w:=by
  refine⟨rfl,by simp;omega,λt=>?_,?_⟩;simp only[rj.st,yj,da];by_cases ht:t<args.length;obtain⟨v,g1,g2⟩:=bk.get _ _ t _ hv (dm ht);rw[dm ht];simp only[Option.getD_some];have:(vs++Array.replicate (fn.ntmps-vs.size) undef).getD t undef=v:=by rw[Array.getElem?_toList]at g1;simp only[Array.getD_eq_getD_getElem?,Array.getElem?_append,show t<vs.size by omega,if_true,g1,Option.getD_some]
  rw[this];exact g2;rw[List.getElem?_eq_none (Nat.le_of_not_lt ht)];simp[VR];have:(rj.st ⟨(List.range args.length).zip args,(List.range (os.map gz).length).zip (os.map gz)⟩).obj=rh os:=funext ie;rw[this];exact hM
 have hold:tS (rj.st ⟨(List.range args.length).zip args,(List.range (os.map gz).length).zip (os.map gz)⟩):=by
  refine⟨λ t k hk=>?_,λk o hk=>?_⟩;simp[rj.st,yj]at hk;cases ht:args[t]? with
  |none=>rw[ht]at hk;simp[refs]at hk
  |some x=>rw[ht]at hk;have:=hargs k (OQ (cB ht) k hk);omega
  have hk:rh os k=some o:=(ie k).symm.trans hk;simp only[rh,jb]at hk;obtain⟨p,hp,rfl⟩:=hk;refine⟨by have:=(dn.1 hp).1;omega,λr hr x hx j hj=>?_⟩;simp[gz,aI,mem_map]at hr;obtain⟨q,_,rfl⟩:=hr;simp[mem_map]at hx;obtain⟨t,_,rfl⟩:=hx;simp[refs]at hj
 refine wp_mono (wpIn_wide.1 (h none w (mX β I) β I _ w hrel hold)) ?_
 have fin:∀(a':Act) (w':World) (β':Nat->Option cz) (I':Nat->Prop) (σ':St),Rel P w (mX β I) fn.ntmps β' I' σ' a' w'->(∃ xs fk,lV T σ' fn.results.toList=some xs/\Hb σ'.obj fk os' xs rv/\Q2 σ'.obj fk os')->
  a'.defers=[]/\∃v,(results fn a'.tmps).run P w'=.ok v w'/\Q4 P w β I os' rv (.returned v) w':=by
  intro a' w' β' I' σ' hr ⟨xs,fk,hx,he,heo⟩;obtain⟨us,g1,g2⟩:=vv hT hr _ _ hx;have GP:=bk.length _ _ g2;have hm:=hr.mem;have hrun:(fn.results.mapM (QS a'.tmps)).run P w'=.ok us.toArray w':=by rw[Array.mapM_eq_mapM_toList,Sem.run_map,g1];rfl
  have hko:∀j p,os'[j]? =some (some p)->∃B o,β j=some B/\β' j=some B/\σ'.obj j=some o/\OR P β' w' I' o B/\o.sz=p.1/\ek σ'.obj fk os' (o.rows.take p.2.length) p.2:=by intro j p hj;have⟨_,o,e1,e2,e3⟩:=heo j p hj;have hjl:j<os.length:=(by rw[<- hlen];exact(dn.1 hj).1);obtain⟨B,hB,_⟩:=hM.cy j (gz os[j]) (by simp[rh,hjl]);have hB':=hm.anch j B (by simp only[mX];rw[aY (by omega)];exact hB);have⟨B',hB2,hO⟩:=hm.cy j o e1;rw[hB']at hB2;cases hB2;exact⟨B,o,hB,hB',e1,hO,e2,e3⟩
  have hkept:∀j,kept os' j->β' j=β j:=λj ⟨p,hp⟩=>by have⟨B,o,h1,h2,_⟩:=hko j p hp;rw[h1,h2]
  have rN:∀j o,Dp os' j=some o->∃p,os'[j]? =some (some p)/\o=gz p:=by intro j o hj;simp only[Dp,jb,Option.join_eq_some_iff]at hj;obtain⟨p,hp,rfl⟩:=hj;exact⟨p,hp,rfl⟩
  have ml:∀b,I b->¬RG β b/\b<w.heap.size:=by intro b hb;refine⟨?_,hM.lt b hb⟩;rintro⟨j,B,hj,hB⟩;rcases Nat.lt_or_ge j os.length with hjl|hjl;exact(hM.ownB j (gz os[j]) B b (by simp[rh,hjl]) hj hB).1 hb;rw[hβ j hjl]at hj;cases hj
  have hOI:∀b,I b->LM σ' w w' β' I' (mX β I) fk os' b:=by intro b hb;have⟨g1,g2⟩:=ml b hb;refine⟨.inr (.inl hb),Nat.lt_of_lt_of_le g2 hm.le,?_⟩;rintro⟨k,_,⟨o,ho⟩,hβk⟩;rcases (hm.ix k o b ho hβk).2.2 with g|g;exact g1 g;omega
  have hmem:Mem P w (mX β I) β (LM σ' w w' β' I' (mX β I) fk os') (Dp os') w':=by
   constructor;intro j o hj;obtain⟨p,hp,rfl⟩:=rN j o hj;have⟨B,o1,b1,b2,b3,b4,b5,b6⟩:=hko j p hp;refine⟨B,b1,?_⟩;cases B with
   |none=>
    simp[OR]at b4 ⊢;rw[b4]at b6;have:=ek.nil (by simpa using b6);simp[gz,aI,this]
   | «at» b s n=>
    obtain⟨c1,c,e,c2,c3,c4⟩:=b4;refine⟨by rw[c1,b5];rfl,c,e,c2,c3,?_⟩;exact Av hr b6 (bx.take _ _ _ _ _ c4)
   |mp b=>
    obtain⟨es,cl,c1,cl',c2,c3⟩:=b4;have hl:=b6.length;simp[List.length_take]at hl;refine⟨es,cl,c1,by simp[gz,aI,length_map];omega,λe=>?_,c3⟩;have e':p.1=p.2.length:=(by simpa[gz,aI]using e);rw[take_of_length_le (by omega)]at b6;exact Gy hr b6 (c2 (by omega))
   intro j j' o o' B B' b h1 h2 h3 h4 h5 h6;obtain⟨p,hp,rfl⟩:=rN j o h1;obtain⟨p',hp',rfl⟩:=rN j' o' h2;have⟨_,o1,_,_,b3,_⟩:=hko j p hp;have⟨_,o1',_,_,b3',_⟩:=hko j' p' hp';rw[<- hkept j ⟨p,hp⟩]at h3;rw[<- hkept j' ⟨p',hp'⟩]at h4;exact hm.ep j j' o1 o1' B B' b b3 b3' h3 h4 h5 h6;intro j o B b h1 h2 h5;obtain⟨p,hp,rfl⟩:=rN j o h1;have⟨_,o1,_,_,b3,_⟩:=hko j p hp;rw[<- hkept j ⟨p,hp⟩]at h2;have⟨_,c2,c3⟩:=hm.ownB j o1 B b b3 h2 h5;exact⟨λ hb=>hb.2.2 ⟨j,.inr ⟨p,hp⟩,⟨o1,b3⟩,B,h2,h5⟩,c2,c3⟩;exact λb hb=>hb.2.1;intro b hb;rcases hb.1 with g|g|g|g;exact hm.up b g;exact .inl g;exact .inr (.inr g);exact .inr (.inl g);exact hm.keep;exact hm.le;exact hm.os;exact hm.tape;exact hm.output;intro j B hj;simp only[mX]at hj;split at hj;exact hj;cases hj;exact hM.vars.mono (λ b hb=>hm.keep b (ml b hb).2 (ml b hb).1) hOI
  have hF:∀k o b,fk=some k->σ'.obj k=some o->¬kept os' k->ft β' k b->AN w β os' b:=by intro k o b _ h2 h3 h4;refine⟨(hm.ix k o b h2 h4).2.2,λj o' h5 h6=>?_⟩;obtain⟨p,hp,rfl⟩:=rN j o' h5;have⟨_,o1,_,_,b3,_⟩:=hko j p hp;have h6':ft β' j b:=(by obtain⟨B,e1,e2⟩:=h6;exact⟨B,by rw[hkept j ⟨p,hp⟩];exact e1,e2⟩);have:=hm.ov k j o o1 b h2 b3 h4 h6';subst this;exact h3 ⟨p,hp⟩
  have ret:∀v,ra P (AN w β os') β rv w' (LM σ' w w' β' I' (mX β I) fk os') v->Q4 P w β I os' rv (.returned v) w':=λv hv'=>⟨v,_,rfl,hmem,hOI,hv'⟩;refine⟨hr.defers,?_⟩;have hlist:∀(xs:List AV)(cs:List RC)(us:List Value),nw σ'.obj fk os' xs cs->bk P β' w' I' xs us->Ub P (AN w β os') β cs w' (LM σ' w w' β' I' (mX β I) fk os') us:=by
   intro xs
   induction xs with
   |nil=>intro cs us h1 h2;cases cs<;>cases us<;>first|trivial|exact h1.elim|(simp [bk]at h2)
   |cons x xs ih=>
    intro cs us h1 h2;cases cs with
    |nil=>exact h1.elim
    |cons c cs=>
     cases us with
     |nil=>simp[bk]at h2
     |cons u us=>simp[bk]at h2;exact⟨UK hr hF hkept h1.1 h2.1,ih cs us h1.2 h2.2⟩
  simp only[Dv,Sem.run_bind,hrun,Result.andThen_ok,Sem.run_pure];refine⟨_,rfl,ret _ ?_⟩
  match xs,us,rv,he,g2 with
  |[x],[u],.one c,he,g2=>
   simp only[bk]at g2;simpa[ra]using UK hr hF hkept he g2.1
  |x::y::r,u::u'::us,.eR cs,he,g2=>
   have:=hlist _ _ _ he g2;rw[dif_neg (by simp)];exact⟨_,rfl,by simpa using this⟩
  |[],[],.eR cs,he,g2=>
   simp[Hb]at he;subst he;rw[dif_neg (by simp)];exact⟨_,rfl,trivial⟩
  |[x],[u],.eR cs,he,_=>exact he.elim
  |[],_,.one c,he,_=>exact he.elim
  |x::y::r,_,.one c,he,_=>exact he.elim
  |[],_::_,.eR _,_,g2=>simp[bk]at g2
  |[_],[],_,_,g2=>simp[bk]at g2
  |[_],_::_::_,_,_,g2=>simp[bk]at g2
  |_::_::_,[],_,_,g2=>simp[bk]at g2
  |_::_::_,[_],_,_,g2=>simp[bk]at g2
 rintro e a' w' ⟨β',I',σ',h1,h2,h3⟩;cases e with
 |normal=>exact fin a' w' β' I' σ' h1 h3
 |ret=>exact fin a' w' β' I' σ' h1 h3
 |_=>exact h3.elim
def Ha(P:Program)(get:Nat->Option aO)(xs:List AV)(os':List (Nat×aO))(rv:AV):Prop:=
 ∀(w0:World) (O0:gA) (β:Nat->Option cz) (I:Nat->Prop) (w:World) (vs:Array Value),Mem P w0 O0 β I get w->bk P β w I xs vs.toList->∃ β' I',Mem P w0 O0 β' I' (pD os') w/\(∀ b,I b->I' b)/\VR P β' w I' rv (if h:vs.size=1 then vs[0]else .tuple vs)
def an0(P:Program)(T:ed)(rs:List ResultVar)(rv:AV)(os':List (Nat×aO)):Exit->St->Prop
 |.normal,σ=>∃xs,lV T σ rs=some xs/\Ha P σ.obj xs os' rv
 |.ret,σ=>∃xs,lV T σ rs=some xs/\Ha P σ.obj xs os' rv
 |_,_=>False
theorem aip(hT : fu P T){f : FuncId}{fn : Func}{c : Code}{args : List AV}{os : List aO}{os' : List (Nat × aO)}{rv : AV}(hfn : P.funcs[f]? = some fn)(hb : fn.body = some c)(hname : (fn.name == "runtime.NumGoroutine") = false)(hN : args.length <= fn.ntmps)(hargs : ∀ k ∈ fq args, k < 1000)(hos : os.length <= 1000)
 (X2:∀o∈os,∀r∈o.rows,∀x∈r,∀j∈refs x,j<1000)
 (h:Ev P fn.ntmps c (an0 P T fn.results.toList rv os') (rj.st ⟨(List.range args.length).zip args,(List.range os.length).zip os⟩)):Gk P f args os os' rv:=by
 refine⟨⟨fn,hfn,by rw[hb];rfl,hname⟩,λw β I vs hβ hM hv=>?_⟩;have hvl:=bk.length _ _ hv;simp at hvl;have ie:∀k,lk ((List.range os.length).zip os) k=tx os k:=λk=>by rw[yj];rfl
 refine calls_of_wp hfn hb ?_;have hrel:Rel P w (mX β I) fn.ntmps β I (rj.st ⟨(List.range args.length).zip args,(List.range os.length).zip os⟩) { tmps:=vs++Array.replicate (fn.ntmps-vs.size) undef,defers:=[] } w:=by
  refine⟨rfl,by simp;omega,λt=>?_,?_⟩;simp only[rj.st,yj,da];by_cases ht:t<args.length;obtain⟨v,g1,g2⟩:=bk.get _ _ t _ hv (dm ht);rw[dm ht];simp only[Option.getD_some];have:(vs++Array.replicate (fn.ntmps-vs.size) undef).getD t undef=v:=by rw[Array.getElem?_toList]at g1;simp only[Array.getD_eq_getD_getElem?,Array.getElem?_append,show t<vs.size by omega,if_true,g1,Option.getD_some]
  rw[this];exact g2;rw[List.getElem?_eq_none (Nat.le_of_not_lt ht)];simp[VR];have:(rj.st ⟨(List.range args.length).zip args,(List.range os.length).zip os⟩).obj=tx os:=funext ie;rw[this];exact hM
 have hold:tS (rj.st ⟨(List.range args.length).zip args,(List.range os.length).zip os⟩):=by
  refine⟨λ t k hk=>?_,λk o hk=>?_⟩;simp[rj.st,yj]at hk;cases ht:args[t]? with
  |none=>rw[ht]at hk;simp[refs]at hk
  |some x=>rw[ht]at hk;have:=hargs k (OQ (cB ht) k hk);omega
  have hk:tx os k=some o:=(ie k).symm.trans hk;simp[tx]at hk;refine⟨by have:=(dn.1 hk).1;omega,λr hr x hx j hj=>?_⟩;have:=X2 o (cB hk) r hr x hx j hj;omega
 refine wp_mono (wpIn_wide.1 (h none w (mX β I) β I _ w hrel hold)) ?_
 have fin:∀(a':Act) (w':World) (β':Nat->Option cz) (I':Nat->Prop) (σ':St),Rel P w (mX β I) fn.ntmps β' I' σ' a' w'->(∃ xs,lV T σ' fn.results.toList=some xs/\Ha P σ'.obj xs os' rv)->
  a'.defers=[]/\∃v,(results fn a'.tmps).run P w'=.ok v w'/\Q3 P w β I os' rv (.returned v) w':=by
  intro a' w' β' I' σ' hr ⟨xs,hx,he⟩;obtain⟨us,g1,g2⟩:=vv hT hr _ _ hx;have hrun:(fn.results.mapM (QS a'.tmps)).run P w'=.ok us.toArray w':=by rw[Array.mapM_eq_mapM_toList,Sem.run_map,g1];rfl
  have ml:∀b,I b->¬RG β b/\b<w.heap.size:=by intro b hb;refine⟨?_,hM.lt b hb⟩;rintro⟨j,B,hj,hB⟩;rcases Nat.lt_or_ge j os.length with hjl|hjl;exact(hM.ownB j os[j] B b (by simp[tx]) hj hB).1 hb;rw[hβ j hjl]at hj;cases hj
  obtain⟨β2,I2,hm,hI2,hv2⟩:=he w (mX β I) β' I' w' us.toArray hr.mem (by simpa using g2);have hmem:Mem P w (mX β I) β2 (λ b=>I2 b\/I b) (pD os') w':=by constructor;intro k o hk;have⟨B,hB,hO⟩:=hm.cy k o hk;exact⟨B,hB,OR.mono (λ _ _ h=>h) (λ _ _=>rfl) (λ b hb=>.inl hb) (λ _ _=>rfl) hO⟩;exact hm.ep;intro k o B b h1 h2 h3;have⟨a1,a2,a3⟩:=hm.ownB k o B b h1 h2 h3;refine⟨?_,a2,a3⟩;rintro (hb|hb);exact a1 hb;have⟨c1,c2⟩:=ml b hb;rcases a3 with a3|a3;exact c1 a3;omega;rintro b (hb|hb);exact hm.lt b hb;exact Nat.lt_of_lt_of_le (ml b hb).2 hm.le;rintro b (hb|hb);exact hm.up b hb;exact .inl hb;exact hm.keep;exact hm.le;exact hm.os;exact hm.tape;exact hm.output;exact hm.anch;exact hm.vars.mono (λ _ _=>rfl) (λ b hb=>.inl hb)
  refine⟨hr.defers,?_⟩;simp only[Dv,Sem.run_bind,hrun,Result.andThen_ok,Sem.run_pure];exact⟨_,rfl,_,β2,_,rfl,hmem,λb hb=>.inr hb,VR.mono (λ _ _ h=>h) (λ _ _=>rfl) (λ b hb=>.inl hb) _ _ hv2⟩
 rintro e a' w' ⟨β',I',σ',h1,h2,h3⟩;cases e with
 |normal|ret=>exact fin a' w' β' I' σ' h1 h3
 |_=>exact h3.elim
theorem ra.HR{F F':Nat->Prop}{βi:Nat->Option cz}{w':World}{I':Nat->Prop}(hF:∀b,F b->F' b){rv:RV}{v:Value}(h:ra P F βi rv w' I' v):ra P F' βi rv w' I' v:=by
 have hc:∀(c:RC)(v:Value),yz P F βi c w' I' v->yz P F' βi c w' I' v:=by
  intro c v h;cases c with
  |d x=>exact h
  |fresh sz rows=>
   rcases h with h|⟨b,c,e,cap,o,s,h1,h2,h3⟩;exact .inl h;exact .inr ⟨b,c,e,cap,o,s,h1,hF b h2,h3⟩
  |whole j len=>exact h
 cases rv with
 |one c=>exact hc c v h
 |eR cs=>
  obtain⟨vs,rfl,h⟩:=h;refine⟨vs,rfl,?_⟩;have:∀(cs:List RC)(vs:List Value),Ub P F βi cs w' I' vs->Ub P F' βi cs w' I' vs:=by
   intro cs
   induction cs with
   |nil=>intro vs h;cases vs with
    |nil=>trivial
    |cons=>trivial
   |cons c cs ih=>intro vs h;cases vs with
    |nil=>trivial
    |cons v vs=>exact⟨hc c v h.1,ih vs h.2⟩
  grind
theorem UL{f:FuncId}{args:List AV}{rv:RV}(h:p5 P f args [] [] rv):tc P f args rv:=by
 refine⟨h.1,λw I vs hlt hgv hv=>?_⟩;have hM:Mem P w (mX k5 I) k5 I (rh []) w:=by
  refine⟨λ k o hk=>by trivial,λk k' o o' B B' b hk=>by trivial,λk o B b hk=>by trivial,hlt,λb hb=>.inl hb,λ_ _ _=>rfl,aA _,rfl,rfl,rfl,λj B hj=>?_,hgv⟩
  simp_all [mX,k5,ite_self]
 refine(h.2 w k5 I vs (λ _ _=>rfl) hM hv).mono ?_;rintro e w' ⟨v,I',rfl,g1,g2,g3⟩;have hno:∀b,¬(mX k5 I).own b:=λb ⟨j,B,hj,_⟩=>by cases hj
 refine⟨v,I',rfl,⟨g1.os,g1.tape,g1.output,g1.le,λb hb=>g1.keep b hb (hno b)⟩,g2,g1.lt,λb hb=>?_,ra.HR (λ b hb=>?_) g3⟩;rcases g1.up b hb with h|h|h;exact .inl h;exact(hno b h).elim;exact .inr h;rcases hb.1 with h|h;exact(hno b h).elim;exact h
end
open Go.RowKit Go.WideShapes Go.ChangeShapes
inductive CS where
 |int (k:IntKind)
 |bool
 |str
 |sl (row:List CS)
 |any
  |mu (row:List CS)
 |back
def aoD:CS->Tree->Prop
 |.int k,x=>∃n,x=.sc (.int k n)/\(Lit.int k n).wf=true
 |.bool,x=>∃b,x=.sc (.bool b)
 |.str,x=>∃s,x=.sc (.string s)/\s.size<=maxLen
 |_,_=>False
def an1:CS->Nat
 |.int .i64=>8
 |.int _=>1
 |.bool=>1
 |.str=>16
 |_=>24
def Se:CS->Nat
 |.int .i64=>8
 |.int _=>1
 |.bool=>1
 |_=>8
def anj:Nat->List CS->Nat
 |o,[]=>o
 |o,c::cs=>anj ((o+(Se c-1))/Se c*Se c+an1 c) cs
def Q1(r:List CS):Nat:=bif r.any (λ c=>Se c==8)then(anj 0 r+7)/8*8 else anj 0 r
mutual
inductive Hv(row:List CS):Tree->Prop
 |mk (rows:List (List Tree)) (hl:rows.length<=maxLen) (h:py row rows):Hv row (.sl rows)
inductive py(row:List CS):List (List Tree)->Prop
 |nil:py row []
 |cons {r:List Tree} {rs:List (List Tree)} (h:jt row row r) (t:py row rs):py row (r::rs)
inductive jt(row:List CS):List CS->List Tree->Prop
 |nil:jt row [] []
 |back {cs:List CS} {x:Tree} {xs:List Tree} (h:Hv row x) (t:jt row cs xs):jt row (.back::cs) (x::xs)
 |one {c:CS} {cs:List CS} {x:Tree} {xs:List Tree} (h:aoD c x) (t:jt row cs xs):jt row (c::cs) (x::xs)
end
mutual
def Fit:CS->Tree->Prop
 |.int k,x=>∃n,x=.sc (.int k n)/\(Lit.int k n).wf=true
 |.bool,x=>∃b,x=.sc (.bool b)
 |.str,x=>∃s,x=.sc (.string s)/\s.size<=maxLen
 |.sl row,x=>∃rows,x=.sl rows/\(rows.length<=maxLen/\rows.length*Q1 row<=reachBytes)/\∀r∈rows,dE row r
 |.any,_=>True
 |.mu row,x=>Hv row x
 |.back,_=>False
def dE:List CS->List Tree->Prop
 |[],[]=>True
 |c::cs,x::xs=>Fit c x/\dE cs xs
 |_,_=>False
end
mutual
def oe:Tree->Nat
 |.sc (.string s)=>s.size+1
 |.sc _=>1
 |.sl rows=>wX rows+1
def wX:List (List Tree)->Nat
 |[]=>0
 |r::rs=>jV r+wX rs
def jV:List Tree->Nat
 |[]=>0
 |x::xs=>oe x+jV xs
end
theorem zO:∀a b:List Tree,jV (a++b)=jV a+jV b
 |[],b=>by simp[jV]
 |x::a,b=>by simp[jV,zO a b];omega
structure Bk(H:Type) where
 b:DataW H->Nat
 a:List (DataW H)->Nat
 str:∀l,b (.lit (.string l))=l.length+1
 int:∀k n,b (.lit (.int k n))=1
 bool:∀v,b (.lit (.bool v))=1
 nil:b .nil=1
 sl:∀e s,b (.slice e s)=a e+a s+1
 agg:∀p,b (.agg p)=a p+1
 a0:a []=0
 a1:∀d r,a (d::r)=b d+a r
theorem Bk.app{H:Type}(K:Bk H)(l r:List (DataW H)):K.a (l++r)=K.a l+K.a r:=by
 induction l with
 |nil=>simp[K.a0]
 |cons x l ih=>grind [K.a1]
theorem Bk.drop{H:Type}(K:Bk H){l:List (DataW H×List MemPlace)}{j:Nat}{y:DataW H×List MemPlace}(h:l[j]? =some y):K.a ((l.map (·.1)).drop j)=K.b y.1+K.a ((l.map (·.1)).drop (j+1)):=by obtain⟨hj,rfl⟩:=dn.1 h;rw[List.drop_eq_getElem_cons (by grind),K.a1];simp
def yr(P:Program)(go:TypeId->Option (List CS)):Nat->List Field->Option (List CS)
 |_,[]=>some []
 |o,f::fs=>(go f.type).bind λa=>if f.offset=o/\a.length=P.cellsOf f.type then(yr P go (o+a.length) fs).map (a++ ·)else none
def afk(P:Program)(t u:TypeId):Option (List CS):=if u=t then some [.back]else match P.underlying u with
 |some (.int k)=>some [.int k]
 |some .bool=>some [.bool]
 |some .string=>some [.str]
 |_=>none
def Sa(P:Program)(t e:TypeId):Option (List CS):=match P.underlying e with
 |some (.struct fs)=>(yr P (afk P t) 0 fs.toList).bind λr=>if r.length=P.cellsOf e/\0<r.length then some r else none
 |_=>none
def By(P:Program)(cut:List TypeId):Nat->TypeId->Option (List CS)
 | 0,_=>none
 |n+1,t=>match P.underlying t with
  |some (.int k)=>some [.int k]
  |some .bool=>some [.bool]
  |some .string=>some [.str]
  |some (.slice e)=>if cut.contains t then(match Sa P t e with|some row=>some [.mu row]|none=>some [.any])else(By P cut n e).bind λr=>if r.length=P.cellsOf e/\0<r.length/\Q1 r<=P.bytesOf e then some [.sl r]else none
  |some (.struct fs)=>(yr P (By P cut n) 0 fs.toList).bind λr=>if r.length=P.cellsOf t then some r else none
  |some (.array m e)=>(By P cut n e).bind λr=>if r.length=P.cellsOf e/\m*r.length=P.cellsOf t then some (List.replicate m r).flatten else none
  |_=>none
theorem dE.length:∀(cs:List CS)(ts:List Tree),dE cs ts->ts.length=cs.length
 |[],[],_=>rfl
 |c::cs,x::xs,h=>by simp[dE]at h;simp[dE.length cs xs h.2]
 |[],_::_,h|_::_,[],h=>by trivial
theorem dE.append:∀(cs:List CS)(ts:List Tree){cs':List CS}{ts':List Tree},dE cs ts->dE cs' ts'->dE (cs++cs') (ts++ts')
 |[],[],_,_,_,h=>h
 |c::cs,x::xs,_,_,h,h'=>by simp at h ⊢;exact⟨h.1,dE.append cs xs h.2 h'⟩
 |[],_::_,_,_,h,_|_::_,[],_,_,h,_=>by trivial
def Here(w:World)(b:Nat):Prop:=b<w.heap.size
section
variable {w:World} {I:Nat->Prop}
theorem eC.append:∀(ts:List Tree)(cs:List Value){ts':List Tree}{cs':List Value},eC w I ts cs->eC w I ts' cs'->eC w I (ts++ts') (cs++cs')
 |[],[],_,_,_,h=>h
 |_::xs,_::vs,_,_,h,h'=>⟨h.1,eC.append xs vs h.2 h'⟩
 |[],_::_,_,_,h,_|_::_,[],_,_,h,_=>h.elim
theorem eC.length:∀(ts:List Tree)(cs:List Value),eC w I ts cs->ts.length=cs.length
 |[],[],_=>rfl
 |_::xs,_::vs,h=>by simp[eC.length xs vs h.2]
 |[],_::_,h|_::_,[],h=>h.elim
theorem aaE:∀(ts:List Tree)(cs:List Value)(b aa:Nat),eC w I ts cs->(∀ i,i<cs.length->w.cell? ⟨b,aa+i,none⟩=cs[i]?)->ea w I ts b aa
 |[],[],_,_,_,_=>by trivial
 |x::xs,v::vs,b,aa,h,hc=>by
  refine⟨⟨v,by simpa using hc 0 (by simp),h.1⟩,aaE xs vs b (aa+1) h.2 λi hi=>?_⟩;have:=hc (i+1) (by grind)
  grind
 |[],_::_,_,_,h,_|_::_,[],_,_,h,_=>h.elim
end
section
variable {H:Type} {enc:TypeId×Value->H} {P:Program} {w:World} {sp:Nat->Bool} {held:Bool}
theorem OT{a:Addr}{v:Value}(h:w.cell? a=some v):a.spot=none/\a.block<w.heap.size:=by simp[World.cell?]at h;split at h;rename_i c e st hc;split at h;cases h;rename_i hs;exact⟨by simp_all,(Array.getElem?_eq_some_iff.1 hc).1⟩;cases h
def TE(P:Program)(t:TypeId)(x:DataW H×List MemPlace):Prop:=∀k∈x.1.weights P t,k<=reachBytes
theorem yu{e:TypeId}:∀{l:List (DataW H)}{d:DataW H},d∈l->∀k∈d.weights P e,k∈DataW.weightsAll P e l
 |a::l,d,h,k,hk=>by simp[DataW.weightsAll];rcases aQ.1 h with rfl|h;exact .inl hk;exact .inr (yu h k hk)
theorem QT(m:Nat)(cs:List Value)(go:TypeId->Option (List CS))(hgo:∀t sh,go t=some sh->∀cs x,DataW.trod enc P w 0 sp held m t cs=some x->TE P t x->∃ts,eC w (Here w) ts cs/\dE sh ts/\∀K:Bk H,jV ts<=K.b x.1):
 ∀(fs:List Field)(l:List (DataW H×List MemPlace))(o:Nat)(sh:List CS),yr P go o fs=some sh->l.length=fs.length->(∀ (i:Nat) (f:Field) (x:DataW H×List MemPlace),fs[i]? =some f->l[i]? =some x->DataW.trod enc P w 0 sp held m f.type ((cs.drop f.offset).take (P.cellsOf f.type))=some x/\TE P f.type x)->
  ∃ts,eC w (Here w) ts ((cs.drop o).take sh.length)/\dE sh ts/\∀K:Bk H,jV ts<=K.a (l.map (·.1))
 |[],l,o,sh,h,_,_=>by
  simp[yr]at h
  grind [eC,dE,jV]
 |f::fs,[],o,sh,h,hl,hf=>by grind
 |f::fs,x::l,o,sh,h,hl,hf=>by simp only[yr,ah]at h;obtain⟨a,h1,h2⟩:=h;split at h2;rename_i hc;obtain⟨hc1,hc2⟩:=hc;simp at h2;obtain⟨r,h3,rfl⟩:=h2;have⟨hx,hz⟩:=hf 0 f x rfl rfl;obtain⟨ts,g1,g2,k1⟩:=hgo _ _ h1 _ _ hx hz;obtain⟨ts',g3,g4,k2⟩:=QT m cs go hgo fs l _ _ h3 (by grind) λi f' x' hf' hx'=>hf (i+1) f' x' hf' hx';refine⟨ts++ts',?_,dE.append _ _ g2 g4,λK=>by have:=k1 K;have:=k2 K;rw[zO,bH,K.a1];omega⟩;rw[fQ,List.take_add,List.drop_drop];rw[hc1,<- hc2]at g1;exact eC.append _ _ g1 g3;cases h2
theorem jt.append{row:List CS}:∀{a b:List CS}{x y:List Tree},jt row a x->jt row b y->jt row (a++b) (x++y)
 |_,_,_,_,.nil,h=>h
 |_,_,_,_,.back h t,h'=>.back h (t.append h')
 |_,_,_,_,.one h t,h'=>.one h (t.append h')
theorem LU{row:List CS}(m:Nat)(cs:List Value)(go:TypeId->Option (List CS))(hgo:∀t sh,go t=some sh->∀cs x,DataW.trod enc P w 0 sp held m t cs=some x->∃ts,eC w (Here w) ts cs/\jt row sh ts/\∀K:Bk H,jV ts<=K.b x.1):
 ∀(fs:List Field)(l:List (DataW H×List MemPlace))(o:Nat)(sh:List CS),yr P go o fs=some sh->l.length=fs.length->(∀ (i:Nat) (f:Field) (x:DataW H×List MemPlace),fs[i]? =some f->l[i]? =some x->DataW.trod enc P w 0 sp held m f.type ((cs.drop f.offset).take (P.cellsOf f.type))=some x)->
  ∃ts,eC w (Here w) ts ((cs.drop o).take sh.length)/\jt row sh ts/\∀K:Bk H,jV ts<=K.a (l.map (·.1))
 |[],l,o,sh,h,_,_=>by simp[yr]at h;subst h;exact⟨[],by trivial,.nil,λK=>by simp[jV]⟩
 |f::fs,[],o,sh,h,hl,hf=>by grind
 |f::fs,x::l,o,sh,h,hl,hf=>by simp only[yr,ah]at h;obtain⟨a,h1,h2⟩:=h;split at h2;rename_i hc;obtain⟨hc1,hc2⟩:=hc;simp at h2;obtain⟨r,h3,rfl⟩:=h2;have hx:=hf 0 f x rfl rfl;obtain⟨ts,g1,g2,k1⟩:=hgo _ _ h1 _ _ hx;obtain⟨ts',g3,g4,k2⟩:=LU m cs go hgo fs l _ _ h3 (by grind) λi f' x' hf' hx'=>hf (i+1) f' x' hf' hx';refine⟨ts++ts',?_,g2.append g4,λK=>by have:=k1 K;have:=k2 K;rw[zO,bH,K.a1];omega⟩;rw[fQ,List.take_add,List.drop_drop];rw[hc1,<- hc2]at g1;exact eC.append _ _ g1 g3;cases h2
theorem alX{t e:TypeId}{row:List CS}(hk:P.underlying t=some (.slice e))(hm:Sa P t e=some row):∀(fuel:Nat)(cs:List Value)(x:DataW H×List MemPlace),DataW.trod enc P w 0 sp held fuel t cs=some x->∃tr,eC w (Here w) [tr] cs/\Hv row tr/\∀K:Bk H,oe tr<=K.b x.1:=by
 intro fuel
 induction fuel using Nat.strongRecOn with
 |_ fuel ih=>
 intro cs x hx;have one:∀m,m<fuel->∀tI y,DataW.trod enc P w 0 sp held m e tI=some y->∃ts,eC w (Here w) ts tI/\jt row row ts/\ts.length=row.length/\∀K:Bk H,jV ts<=K.b y.1:=by
  intro m hmf tI y hy;unfold Sa at hm;split at hm;rename_i fs hke;simp only[ah]at hm;obtain⟨r,h1,h2⟩:=hm;split at h2;rename_i hr;injection h2 with h2;subst h2;obtain⟨xs,m',hm',rfl,hl,hxs,hf⟩:=DataW.trod_struct hke hy;obtain⟨ts,g1,g2,k1⟩:=LU (row:=r) m' tI (afk P t) (λ u sh hsh cs x hx=>by unfold afk at hsh;split at hsh;rename_i hu;cases hsh;rw[hu]at hx;obtain⟨tr,a1,a2,a3⟩:=ih m' (by omega) cs x hx;exact⟨[tr],a1,.back a2 .nil,λK=>by grind [jV]⟩;split at hsh;rename_i k CH;cases hsh;obtain⟨v,rfl,rfl,hw⟩:=DataW.trod_int CH hx;exact⟨[.sc (.int k v)],by simp[eC,TR,oneCell],.one ⟨v,rfl,hw⟩ .nil,λK=>by simp[jV,oe,K.int]⟩;rename_i CH;cases hsh;obtain⟨v,rfl,rfl⟩:=DataW.trod_bool CH hx;exact⟨[.sc (.bool v)],by simp[eC,TR,oneCell],.one ⟨v,rfl⟩ .nil,λK=>by simp[jV,oe,K.bool]⟩;rename_i CH;cases hsh;obtain⟨v,rfl,rfl,hw⟩:=DataW.trod_string CH hx;exact⟨[.sc (.string v)],by simp[eC,TR,oneCell],.one ⟨v,rfl,hw⟩ .nil,λK=>by simp[jV,oe,K.str]⟩;cases hsh) fs.toList xs 0 r h1 (by simpa using hxs) (λ i f x hi hxi=>by have hi':fs[i]? =some f:=(by simpa using hi);rw[hf i f hi',hxi]);rw[List.drop_zero,take_of_length_le (by omega)]at g1;refine⟨ts,g1,g2,?_,λK=>by have:=k1 K;rw[K.agg];omega⟩;rw[eC.length _ _ g1];omega;cases h2;cases hm
 have rl:row.length=P.cellsOf e/\0<row.length:=by unfold Sa at hm;split at hm;simp only[ah]at hm;obtain⟨r,h1,h2⟩:=hm;split at h2;rename_i hr;cases h2;exact hr;cases h2;cases hm
 rcases DataW.trod_slice hk hx with ⟨rfl,rfl⟩|⟨a,len,cap,elems,ae,m,hfm,rfl,rfl,_,hl,hmx,hlen,hel,_,_⟩;refine⟨.sl [],?_,.mk [] (by simp[maxLen]) .nil,λK=>by simp[oe,wX,K.nil]⟩;simp only[eC,TR];exact⟨.inl ⟨trivial,none,0,rfl,λ_=>rfl⟩,trivial⟩;have each:∀i,i<len->∃tI y,w.cells? 0 (a.add (i*P.cellsOf e)) (P.cellsOf e)=some tI/\DataW.trod enc P w 0 sp held m e tI=some y/\elems[i]? =some y:=by intro i hi;have h3:=hel i hi;have h6:elems[i]? =some (elems[i]'(by omega)):=dm (by omega);rw[h6,ah]at h3;obtain⟨tI,h4,h5⟩:=h3;exact⟨tI,_,h4,h5,h6⟩
 by_cases h0:len=0;subst h0;refine⟨.sl [],?_,.mk [] (by simp[maxLen]) .nil,λK=>by simp[oe,wX,K.sl]⟩;simp only[eC,TR];exact⟨.inl ⟨trivial,some a,cap,rfl,λh=>by cases h⟩,trivial⟩;obtain⟨cs0,y0,c0,_,_⟩:=each 0 (by omega);obtain⟨_,c1,c2⟩:=World.cells?_some c0;have c3:=c2 0 (by omega);rw[dm (by omega)]at c3;have c4:=OT c3;simp[Nat.zero_mul,Addr.add,if_true]at c4;obtain⟨b,aa,s⟩:=a;simp at c4;obtain⟨rfl,hb⟩:=c4;have rows:∀q j,j+q=len->∃rows:List (List Tree),rows.length=q/\cx w (Here w) rows b (aa+j*P.cellsOf e) (P.cellsOf e)/\py row rows/\∀K:Bk H,wX rows<=K.a ((elems.map (·.1)).drop j):=by
  intro q
  induction q with
  |zero=>intro j _;exact⟨[],rfl,by simp[cx],.nil,λK=>by simp[wX]⟩
  |succ q ihq=>
   intro j hj;obtain⟨rows,g1,g2,g3,k3⟩:=ihq (j+1) (by omega);obtain⟨csj,y,g4,g5,gy⟩:=each j (by omega);obtain⟨ts,g6,g7,_,k6⟩:=one m (by omega) _ _ g5;obtain⟨_,g8,g9⟩:=World.cells?_some g4;refine⟨ts::rows,by simp[g1],?_,.cons g7 g3,λK=>by have:=k3 K;have:=k6 K;rw[K.drop gy,wX];omega⟩;simp[cx];refine⟨(eC.length _ _ g6).trans g8,aaE _ _ _ _ g6 λi hi=>?_,?_⟩;rw[<- g9 i (by omega),addr_add,addr_add];rw[show aa+j*P.cellsOf e+P.cellsOf e=aa+(j+1)*P.cellsOf e by rw[Nat.add_mul];omega];exact g2
 obtain⟨rows,g1,g2,g3,k3⟩:=rows len 0 (by omega);refine⟨.sl rows,?_,.mk rows (by omega) g3,λK=>by have:=k3 K;rw[List.drop_zero]at this;rw[K.sl,oe];omega⟩;simp only[eC,TR];exact⟨.inr ⟨b,aa,cap,P.cellsOf e,by rw[g1],by omega,hb,by simpa using g2⟩,trivial⟩
theorem Dx{cut:List TypeId}:∀(n:Nat)(t:TypeId)(sh:List CS),By P cut n t=some sh->∀(fuel:Nat)(cs:List Value)(x:DataW H×List MemPlace),DataW.trod enc P w 0 sp held fuel t cs=some x->TE P t x->
 ∃ts,eC w (Here w) ts cs/\dE sh ts/\∀K:Bk H,jV ts<=K.b x.1
 | 0,_,_,h,_,_,_,_,_=>by trivial
 |n+1,t,sh,h,fuel,cs,x,hx,hz=>by
  unfold By at h;split at h;rename_i k hk;cases h;obtain⟨v,rfl,rfl,hw⟩:=DataW.trod_int hk hx;exact⟨[.sc (.int k v)],by simp[eC,TR,oneCell],by simp only[dE,Fit];exact⟨⟨v,rfl,hw⟩,trivial⟩,λK=>by simp[jV,oe,K.int]⟩;rename_i hk;cases h;obtain⟨v,rfl,rfl⟩:=DataW.trod_bool hk hx;exact⟨[.sc (.bool v)],by simp[eC,TR,oneCell],by simp only[dE,Fit];exact⟨⟨v,rfl⟩,trivial⟩,λK=>by simp[jV,oe,K.bool]⟩;rename_i hk;cases h;obtain⟨v,rfl,rfl,hw⟩:=DataW.trod_string hk hx;exact⟨[.sc (.string v)],by simp[eC,TR,oneCell],by simp only[dE,Fit];exact⟨⟨v,rfl,hw⟩,trivial⟩,λK=>by simp[jV,oe,K.str]⟩;rename_i e hk;split at h;split at h;rename_i row hmr;cases h;have⟨tr,g1,g2,k1⟩:=alX hk hmr fuel cs x hx;exact⟨[tr],g1,by simp only[dE,Fit];exact⟨g2,trivial⟩,λK=>by have:=k1 K;simp only[jV];omega⟩;cases h;rcases DataW.trod_slice hk hx with ⟨rfl,rfl⟩|⟨a,len,cap,elems,ae,m,_,rfl,rfl,_,hl,hm,hlen,hel,_,_⟩;exact⟨[.sc (.slice none 0 0)],by simp[eC,TR,oneCell],by simp[dE,Fit],λK=>by simp[jV,oe,K.nil]⟩;exact⟨[.sc (.slice (some a) len cap)],by simp[eC,TR,oneCell],by simp[dE,Fit],λK=>by simp[jV,oe,K.sl]⟩;simp only[ah]at h;obtain⟨r,h1,h2⟩:=h;split at h2;rename_i hr;cases h2;rcases DataW.trod_slice hk hx with ⟨rfl,rfl⟩|⟨a,len,cap,elems,ae,m,_,rfl,rfl,_,hl,hm,hlen,hel,_,_⟩;refine⟨[.sl []],?_,by simp only[dE,Fit];exact⟨⟨[],rfl,by simp[maxLen],by simp⟩,trivial⟩,λK=>by simp[jV,oe,wX,K.nil]⟩;simp only[eC,TR];exact⟨.inl ⟨trivial,none,0,rfl,λ_=>rfl⟩,trivial⟩;have hzw:∀k,k=(elems.length+ae.length)*P.bytesOf e\/k∈DataW.weightsAll P e (elems.map (·.1))->k<=reachBytes:=by intro k hkk;refine hz k ?_;simp only[DataW.weights,hk,aQ,bL,length_map];rcases hkk with h|h;exact .inl h;exact .inr (.inl h)
  have each:∀i,i<len->∃tI y,w.cells? 0 (a.add (i*P.cellsOf e)) (P.cellsOf e)=some tI/\DataW.trod enc P w 0 sp held m e tI=some y/\TE P e y/\elems[i]? =some y:=by intro i hi;have h3:=hel i hi;have h6:elems[i]? =some (elems[i]'(by omega)):=dm (by omega);rw[h6,ah]at h3;obtain⟨tI,h4,h5⟩:=h3;exact⟨tI,_,h4,h5,λk hk=>hzw k (.inr (yu (mem_map.2 ⟨_,List.getElem_mem (by omega),rfl⟩) k hk)),h6⟩
  have hbytes:len*Q1 r<=reachBytes:=by have h1:=hzw _ (.inl rfl);have h2:len*Q1 r<=(elems.length+ae.length)*P.bytesOf e:=Nat.mul_le_mul (by omega) hr.2.2;omega
  by_cases h0:len=0;subst h0;refine⟨[.sl []],?_,by simp only[dE,Fit];exact⟨⟨[],rfl,by simp[maxLen],by simp⟩,trivial⟩,λK=>by simp[jV,oe,wX,K.sl]⟩;simp only[eC,TR];exact⟨.inl ⟨trivial,some a,cap,rfl,λh=>by cases h⟩,trivial⟩;obtain⟨cs0,y0,c0,_,_,_⟩:=each 0 (by omega);obtain⟨_,c1,c2⟩:=World.cells?_some c0;have c3:=c2 0 (by omega);rw[dm (by omega)]at c3;have c4:=OT c3;simp[Nat.zero_mul,Addr.add,if_true]at c4;obtain⟨b,aa,s⟩:=a;simp at c4;obtain⟨rfl,hb⟩:=c4;have rows:∀m j,j+m=len->∃rows:List (List Tree),rows.length=m/\cx w (Here w) rows b (aa+j*P.cellsOf e) (P.cellsOf e)/\(∀ x∈rows,dE r x)/\∀K:Bk H,wX rows<=K.a ((elems.map (·.1)).drop j):=by
   intro m
   induction m with
   |zero=>intro j _;exact⟨[],rfl,by simp[cx],by simp,λK=>by simp[wX]⟩
   |succ m ih=>
    intro j hj;obtain⟨rows,g1,g2,g3,k3⟩:=ih (j+1) (by omega);obtain⟨csj,y,g4,g5,g5z,gy⟩:=each j (by omega);obtain⟨ts,g6,g7,k6⟩:=Dx n e r h1 _ _ _ g5 g5z;obtain⟨_,g8,g9⟩:=World.cells?_some g4;refine⟨ts::rows,by simp[g1],?_,λx hx=>?_,λK=>by have:=k3 K;have:=k6 K;rw[K.drop gy,wX];omega⟩;simp[cx];refine⟨(eC.length _ _ g6).trans g8,aaE _ _ _ _ g6 λi hi=>?_,?_⟩;rw[<- g9 i (by omega),addr_add,addr_add];rw[show aa+j*P.cellsOf e+P.cellsOf e=aa+(j+1)*P.cellsOf e by rw[Nat.add_mul];omega];exact g2;rcases aQ.1 hx with rfl|hx;exact g7;exact g3 x hx
  obtain⟨rows,g1,g2,g3,k3⟩:=rows len 0 (by omega);refine⟨[.sl rows],?_,by simp only[dE,Fit];exact⟨⟨rows,rfl,⟨by omega,by rw[g1];exact hbytes⟩,g3⟩,trivial⟩,λK=>by have:=k3 K;rw[List.drop_zero]at this;rw[K.sl];simp[jV,oe];omega⟩;simp only[eC,TR];exact⟨.inr ⟨b,aa,cap,P.cellsOf e,by rw[g1],by omega,hb,by simpa using g2⟩,trivial⟩;cases h2;rename_i fs hk;simp only[ah]at h;obtain⟨r,h1,h2⟩:=h;split at h2;rename_i hr;injection h2 with h2;subst h2;obtain⟨xs,m,_,rfl,hl,hxs,hf⟩:=DataW.trod_struct hk hx;obtain⟨ts,g1,g2,k1⟩:=QT m cs (By P cut n) (λ t sh hsh cs x hx hz=>Dx n t sh hsh m cs x hx hz) fs.toList xs 0 r h1 (by simpa using hxs) (λ i f x hi hxi=>by have hi':fs[i]? =some f:=(by simpa using hi);have:=hf i f hi';rw[hxi]at this;refine⟨this,λk hk'=>hz k ?_⟩;simp[DataW.weights,hk];exact DataW.weights_mem_each (j:=i) (t:=f.type) (d:=x.1) (by simp[hi']) (by simp[hxi]) k hk');refine⟨ts,?_,g2,λK=>by have:=k1 K;rw[K.agg];omega⟩;rw[List.drop_zero,take_of_length_le (by omega)]at g1;exact g1;cases h2;rename_i m e hk;simp only[ah]at h;obtain⟨r,h1,h2⟩:=h;split at h2;rename_i hr;cases h2;obtain⟨xs,q,_,rfl,hl,hxs,hf⟩:=DataW.trod_array hk hx;have part:∀i j,j+i=m->∃ts,eC w (Here w) ts (cs.drop (j*P.cellsOf e))/\dE (List.replicate i r).flatten ts/\∀K:Bk H,jV ts<=K.a ((xs.map (·.1)).drop j):=by
   intro i
   induction i with
   |zero=>
    intro j hj;refine⟨[],?_,by simp[dE],λK=>by simp[jV]⟩;have:j=m:=(by omega);subst this;rw[List.drop_of_length_le (by rw[hl,<- hr.2,<- hr.1];omega)];simp[eC]
   |succ i ih=>
    intro j hj;obtain⟨ts,g1,g2,k1⟩:=ih (j+1) (by omega);have:=hf j (by omega);have hxj:xs[j]? =some (xs[j]'(by omega)):=dm (by omega);rw[hxj]at this;obtain⟨ts0,g3,g4,k3⟩:=Dx n e r h1 _ _ _ this (λ k hk'=>hz k (by simp[DataW.weights,hk];exact yu (mem_map.2 ⟨_,List.getElem_mem (by omega),rfl⟩) k hk'));refine⟨ts0++ts,?_,?_,λK=>by have:=k1 K;have:=k3 K;rw[K.drop hxj,zO];omega⟩;have:=eC.append _ _ g3 g1;rw[show (j+1)*P.cellsOf e=j*P.cellsOf e+P.cellsOf e by rw[Nat.add_mul];omega,<- List.drop_drop,List.take_append_drop]at this;exact this;exact dE.append _ _ g4 g2
  obtain⟨ts,g1,g2,k1⟩:=part m 0 (by omega);exact⟨ts,by simpa using g1,g2,λK=>by have:=k1 K;rw[List.drop_zero]at this;rw[K.agg];omega⟩;cases h2;cases h
inductive VS where
 |one (c:CS)
 |agg (cs:List CS)
def MT(P:Program)(cut:List TypeId)(t:TypeId):Option VS:=
 (By P cut 12 t).bind λsh=>match P.underlying t with
  |some (.struct _)|some (.array _ _)=>some (.agg sh)
  |_=>match sh with
   |[c]=>some (.one c)
   |_=>none
def G4:VS->TV->Prop
 |.one c,x=>∃y,x=.s y/\Fit c y
 |.agg cs,x=>∃ys,x=.a ys/\dE cs ys
def UM:List VS->List TV->Prop
 |[],[]=>True
 |s::ss,x::xs=>G4 s x/\UM ss xs
 |_,_=>False
def ON:TV->Nat
 |.s y=>oe y
 |.a ys=>jV ys
def yq:List TV->Nat
 |[]=>0
 |x::xs=>ON x+yq xs
theorem ajX{cut:List TypeId}{t:TypeId}{s:VS}{v:Value}{d:DataW H}{ps:List MemPlace}{b0:Nat}(hs:MT P cut t=some s)(hval:Value.okWide P w .any b0 t v)(hd:DataW.Trod enc P w 0 sp held t v d ps)(hz:∀k∈d.weights P t,k<=reachBytes):
 ∃x,tR w (Here w) x v/\G4 s x/\∀K:Bk H,ON x<=K.b d:=by
 obtain⟨fuel,hf⟩:=hd;simp[MT,ah]at hs;obtain⟨sh,h1,h2⟩:=hs;obtain⟨ts,g1,g2,k1⟩:=Dx 12 t sh h1 _ _ _ hf hz;have hag:∀cs:Array Value,v=.agg cs->s=.agg sh->∃x,tR w (Here w) x v/\G4 s x/\∀K:Bk H,ON x<=K.b d:=by rintro cs rfl rfl;exact⟨.a ts,⟨cs,rfl,by trivial⟩,⟨ts,rfl,g2⟩,k1⟩
 unfold Value.okWide at hval;split at h2;rename_i hu;injection h2 with h2;rw[hu]at hval;obtain⟨cs,rfl,_⟩:=hval;exact hag cs rfl h2.symm;rename_i hu;injection h2 with h2;rw[hu]at hval;obtain⟨cs,rfl,_⟩:=hval;exact hag cs rfl h2.symm;split at h2;cases h2;have hone:v.cells.toList=[v]:=by
  cases hu:P.underlying t with
  |none=>simp_all [hu,Cell.okWide,Cell.ok]
  |some d=>
   rw[hu]at hval;cases v<;>first|rfl|(exfalso;revert hval;cases d<;>simp_all [Cell.okWide,Cell.ok])
 rw[hone]at g1
 match ts,g1,g2,k1 with
 |[y],g1,g2,k1=>
  simp only[dE]at g2;exact⟨.s y,g1.1,⟨y,rfl,g2.1⟩,λK=>by have:=k1 K;simpa[jV,ON]using this⟩
 |[],g1,_,_=>exact g1.elim
 |_::_::_,g1,_,_=>exact g1.2.elim
 cases h2
theorem Y9{cut:List TypeId}:∀{ts:List TypeId}{ss:List VS}{vs:List Value}{ds:List (DataW H)}{ps:List MemPlace}{b0:Nat},ts.mapM (MT P cut)=some ss->
 (∀ (j:Nat) t v,ts[j]? =some t->vs[j]? =some v->Value.okWide P w .any b0 t v)->DataW.TrodAll enc P w 0 sp held ts vs ds ps->(∀ k∈DataW.weightsEach P ts ds,k<=reachBytes)->∃xs,nb w (Here w) xs vs/\UM ss xs/\∀K:Bk H,yq xs<=K.a ds
 |[],ss,vs,ds,ps,b0,hs,_,hd,_=>by obtain⟨rfl,rfl,rfl⟩:=trodAll_nil hd;simp at hs;subst hs;exact⟨[],trivial,trivial,λK=>by simp[yq]⟩
 |t::ts,ss,vs,ds,ps,b0,hs,hval,hd,hz=>by obtain⟨v,vs',d,ds',p,q,rfl,rfl,rfl,h0,r0⟩:=trodAll_cons hd;simp[ah]at hs;obtain⟨s,h1,ss',h2,rfl⟩:=hs;obtain⟨x,g1,g2,k1⟩:=ajX h1 (hval 0 t v rfl rfl) h0 (λ k hk=>hz k (by grind [DataW.weightsEach]));obtain⟨xs,g3,g4,k2⟩:=Y9 h2 (λ j t v h h'=>hval (j+1) t v h h') r0 (λ k hk=>hz k (by grind [DataW.weightsEach]));exact⟨x::xs,⟨g1,g3⟩,⟨g2,g4⟩,λK=>by have:=k1 K;have:=k2 K;rw[yq,K.a1];omega⟩
theorem QU{β:Nat->Option cz}{I:Nat->Prop}:∀(xs:List TV)(vs:List Value),nb w I xs vs->bk P β w I (xs.map TV.av) vs
 |[],[],_=>by trivial
 |x::xs,v::vs,h=>by
  refine⟨?_,QU xs vs h.2⟩;have h1:=h.1;cases x with
  |s y=>trivial
  |a cs=>
   obtain⟨us,rfl,h2⟩:=h1;refine⟨us,rfl,?_⟩;have:∀(cs:List Tree) (us:List Value),eC w I cs us->bk P β w I (cs.map AV.t) us:=by
    intro cs
    induction cs with
    |nil=>intro us h;cases us<;>first|trivial|grind
    |cons c cs ih=>intro us h;cases us with
     |nil=>trivial
     |cons u us=>simp;exact⟨h.1,ih us h.2⟩
   grind
 |[],_::_,h|_::_,[],h=>h.elim
end
section
variable {H:Type} {enc:TypeId×Value->H} {P:Program}
theorem afl{f:Func}{s:ChangeSpec}{apart fresh handsOn again:Bool}{W W':World}{args:Array Value}{v:Value}{ds gs:List (DataW H)}{before pa pv:List MemPlace}
 (hW:DataW.Whole enc P f.params.toList s.vars apart W args.toList ds gs before)
 (hres:∀(b:Nat)(sp:Nat->Bool)(hd:Bool),DataW.TrodAll enc P W' b sp hd f.resultTypes.toList (v.resultList f.resultTypes.size) (s.fn H (ds++gs)).results [])
 (hargs:∀sp:Nat->Bool,(∀ p∈before,sp p.block=true)->DataW.TrodAll enc P W' 0 sp true f.params.toList args.toList (s.fn H (ds++gs)).args pa)
 (hvars:∀sp:Nat->Bool,(∀ p∈before,sp p.block=true)->DataW.TrodVars enc P W' sp s.vars (s.fn H (ds++gs)).vars pv)
 (hps:before=pa++pv) (hb:Below W.heap.size W W')
 (hok:∀(j:Nat)(t:TypeId)(r:Value),f.resultTypes[j]? =some t->(v.resultList f.resultTypes.size)[j]? =some r->Value.okWide P W' .any 0 t r):
 s.post enc P f apart fresh handsOn again W args v W':=by
 have hlt:∀p∈before,p.block<W.heap.size:=λp hp=>hW.lt p hp;have hold:∀p∈before,(λ b=>decide (b<W.heap.size)) p.block=true:=λp hp=>by simpa using hlt p hp
 refine⟨ds,gs,before,[],pa,pv,hW,hres _ _ _,hargs _ hold,hvars _ hold,World.keptBut_mono (λ p hp=>⟨hp,?_⟩) (hb.frame (· ∈before)),λ_=>?_⟩;rw[hps,bL]at hp;exact Or.inr hp;obtain⟨_,_,_,_,_,hz,hn⟩:=hW;refine⟨hok,_,_,([]++pa)++pv,⟨[]++pa,pv,trodAll_append (hargs _ (λ _ _=>rfl)) (hres _ _ _),hvars _ (λ _ _=>rfl),rfl,?_,?_⟩,?_⟩;intro b aa hp;have hin:MemPlace.cell b aa∈before:=by rw[hps];simpa using hp
 rw[hb.frozen (hlt _ hin)];exact hz b aa hin;intro ha;have:=hn ha;rw[hps]at this;simpa using this;intro p hp _;rw[hps];simpa using hp
theorem Kc(hl:laidOutB P=true){W W':World}(hb:Below W.heap.size W W'):∀{ts:List TypeId}{vs:List Value}{ds:List (DataW H)}{ps:List MemPlace},(∀ t∈ts,P.readableRec t=true/\t<P.types.size)->
 DataW.TrodAll enc P W 0 (λ _=>true) true ts vs ds ps->(∀ x∈ps,x.block<W.heap.size)->∀sp:Nat->Bool,(∀ p∈ps,sp p.block=true)->DataW.TrodAll enc P W' 0 sp true ts vs ds ps
 |[],vs,ds,ps,_,hd,_,sp,_=>by obtain⟨rfl,rfl,rfl⟩:=trodAll_nil hd;exact trodAll_mk0
 |t::ts,vs,ds,ps,ht,hd,hlt,sp,hsp=>by
  obtain⟨v,vs',d,ds',p,q,rfl,rfl,rfl,h0,r0⟩:=trodAll_cons hd;obtain⟨h1,h2⟩:=ht t (by simp)
  exact trodAll_cons_mk (WideElems.Trod_stays hl h1 h2 h0 (λ x hx=>hb.same (hlt x (by simp[hx]))) (λ x hx=>hsp x (by simp[hx])))
   (Kc hl hb (λ t ht'=>ht t (by simp[ht'])) r0 (λ x hx=>hlt x (by simp[hx])) sp (λ x hx=>hsp x (by simp[hx])))
theorem QV{w:World}{base:Nat}{sp:Nat->Bool}{held:Bool}:∀{ts:List TypeId}{vs:List Value}{ds:List (DataW H)}{ps:List MemPlace},DataW.TrodAll enc P w base sp held ts vs ds ps->ds.length=ts.length
 |[],_,_,_,h=>by obtain⟨_,rfl,_⟩:=trodAll_nil h;rfl
 |_::_,_,_,_,h=>by obtain⟨_,_,_,_,_,_,_,rfl,_,_,h2⟩:=trodAll_cons h;simp[QV h2]
theorem acE:∀{ts:List TypeId}{ds:List (DataW H)}{vt:List TypeId}{gs:List (DataW H)},ds.length=ts.length->∀k∈DataW.weightsEach P ts ds,k∈DataW.weightsEach P (ts++vt) (ds++gs)
 |[],[],_,_,_,k,h=>by simp[DataW.weightsEach]at h
 |t::ts,d::ds,vt,gs,hl,k,h=>by simp[DataW.weightsEach]at h ⊢;rcases h with h|h;exact .inl h;exact .inr (acE (by simpa using hl) k h)
 |[],_::_,_,_,h,_,_|_::_,[],_,_,h,_,_=>by simp at h
theorem aaG{cut:List TypeId}{C:Checked}{f:FuncId}{fn:Func}{s:ChangeSpec}{ss:List VS}{tb:TypeId}(hl:laidOutB C.prog=true)(hread:(fn.params.toList.all λt=>C.prog.readableRec t&&decide (t<C.prog.types.size))=true)
 (hss:fn.params.toList.mapM (MT C.prog cut)=some ss) (hvars:s.vars=[]) (hres:fn.resultTypes=#[tb]) (hb:C.prog.underlying tb=some .bool)
 (hs:∀ds:List (DataW H),ds.length=fn.params.toList.length->s.fn H ds={ results:=[.lit (.bool true)],args:=ds })
 {B:Nat->Prop} (Z2:∀xs,UM ss xs->(∀ n,B n->yq xs<=n)->tc C.prog f (xs.map TV.av) (.one (.d (.s (.sc (.bool true))))))
 {W:World} {base:Nat} {args:Array Value} {ds gs:List (DataW H)} {before:List MemPlace}
 (hval:∀(j:Nat) t v,fn.params[j]? =some t->args[j]? =some v->Value.okWide C.prog W .any base t v)
 (hW:DataW.Whole enc C.prog fn.params.toList s.vars false W args.toList ds gs before)
 {vt:List TypeId} (hz:(DataW.weightsEach C.prog (fn.params.toList++vt) (ds++gs)).all (· <=reachBytes)=true) (hv:j8 W (Here W)) (hB:∀n,B n->∃K:Bk H,K.a ds<=n):
 Calls C.prog f args W λe W'=>∃v,e=.returned v/\s.post enc C.prog fn false true false false W args v W':=by
 have hW':=hW;obtain⟨p,q,hA,hV,rfl,_,_⟩:=hW;rw[hvars]at hV;obtain⟨rfl,rfl⟩:=trodVars_none hV;have hlen:=QV hA;obtain⟨xs,g1,g2,g3⟩:=Y9 hss (λ j t v h1 h2=>hval j t v (by simpa using h1) (by simpa using h2)) hA (λ k hk=>by have:=all_eq_true.1 hz k (acE hlen k hk);simpa using this);simp at hW';have hlt:∀x∈p,x.block<W.heap.size:=λx hx=>hW'.lt x hx;refine((Z2 xs g2 (λ n hn=>by have⟨K,hK⟩:=hB n hn;exact Nat.le_trans (g3 K) hK)).2 W (Here W) args (λ _ h=>h) hv (QU _ _ g1)).mono λe W' ⟨v,I',he,hbel,_,_,_,hr⟩=>⟨v,he,?_⟩;simp[ra]at hr;obtain⟨rfl,_⟩:=hr;have hfn:s.fn H (ds++[])={ results:=[.lit (.bool true)],args:=ds }:=by rw[append_nil];exact hs ds hlen
 refine afl (pa:=p) (pv:=[]) hW' (λ b sp hd=>?_) (λ sp hsp=>?_) (λ sp _=>?_) (by simp) hbel (ok_one (by rw[hres]) rfl (okWide_bool_mk hb _));rw[hfn,hres];exact trodAll_mk1 (shut_bool hb _);rw[hfn];refine Kc hl hbel (λ t ht=>?_) hA hlt sp hsp;have:=all_eq_true.1 hread t ht;simpa using this;rw[hfn,hvars];rfl
end
def ank:A5->TypeDesc->Bool
 |.slice e,.slice e'=>e==e'
 |.arr n e,.array n' e'=>n==n'&&e==e'
 |.struct fs,.struct fa=>fa.toList.map (λ f=>(f.offset,f.type))==fs
 |.bool,.bool=>true
 |.str,.string=>true
 |.int k,.int k'=>k==k'
 |.map k e,.map k' e'=>k==k'&&e==e'
 |.other,_=>true
 |_,_=>false
def ajY:Value->Value->Bool
 |.int k a,.int k' b=>k==k'&&a==b
 |.bool a,.bool b=>a==b
 |.string a,.string b=>decide (a=b)
 |.slice none 0 0,.slice none 0 0=>true
 |.pointer none,.pointer none=>true
 |.nilFunc,.nilFunc=>true
 |.nilIface,.nilIface=>true
 |.map none,.map none=>true
 |_,_=>false
theorem acF{a b:Value}(h:ajY a b=true):a=b:=by unfold ajY at h;split at h<;>simp_all
def UN:List Value->List Value->Bool
 |[],[]=>true
 |a::as,b::bs=>ajY a b&&UN as bs
 |_,_=>false
theorem LV:∀{a b:List Value},UN a b=true->a=b
 |[],[],_=>rfl
 |a::as,b::bs,h=>by simp[UN]at h;rw[acF h.1,LV h.2]
 |[],_::_,h|_::_,[],h=>by simp[UN]at h
def ajZ(P:Program)(t:TypeId)(ti:px):Bool:=
 match P.info? t,P.underlying t with
 |some info,some d=>match info.zero with
  |some z=>info.size==ti.size&&info.bytes==ti.bytes&&sX d==ti.agg&&ank ti.k d&&ti.zero.all jp&&ti.zero.length==ti.size&&
   (ti.cmp.isEmpty || match d with
    |.struct fa=>!P.stoodInHeld t&&!P.eqGuardType P.depth t&&gE P 0 fa.toList ti.cmp
    |.array _ _=>ti.cmp==[9]&&!P.eqGuardType P.depth t
    |_=>false)&&UN z.cells.toList ti.zero&&td ti.agg z
  |none=>false
 |_,_=>false
theorem afm{k:A5}{d:TypeDesc}(h:ank k d=true):V0 k d:=by unfold ank at h;split at h;simp at h;subst h;rfl;simp at h;obtain⟨rfl,rfl⟩:=h;rfl;rename_i fs fa;exact⟨fa,rfl,by simpa using h⟩;rfl;rfl;simp at h;subst h;rfl;simp at h;obtain⟨rfl,rfl⟩:=h;rfl;trivial;cases h
theorem acG{P:Program}{t:TypeId}{ti:px}(h:ajZ P t ti=true):lz P t ti:=by
 unfold ajZ at h;split at h;rename_i info d h1 h2;split at h
 ·rename_i z h3;simp only[bC,beq_iff_eq]at h;obtain⟨⟨⟨⟨⟨⟨⟨⟨a1,a2⟩,a3⟩,a4⟩,a5⟩,a6⟩,a7⟩,a8⟩,a9⟩:=h;refine⟨⟨info,d,z,h1,h2,a1,a2,h3,LV a8,a3,afm a4⟩,a5,a6,λinfo' z' e1 e2=>by rw[h1]at e1;cases e1;rw[h3]at e2;cases e2;exact a9,λhne=>?_⟩
  all_goals grind
 cases h;cases h
def UO(l:List (TypeId×px)):ed:=λt=>(l.find? λp=>p.1==t).map (·.2)
theorem aj0{P:Program}{l:List (TypeId×px)}(h:(l.all λp=>ajZ P p.1 p.2)=true):fu P (UO l):=by intro t ti ht;simp only[UO,jb]at ht;obtain⟨p,hp,rfl⟩:=ht;have h1:=List.find?_some hp;simp at h1;subst h1;exact acG (all_eq_true.1 h p (List.mem_of_find?_eq_some hp))
inductive CT(ι:Type) where
 |int (k:IntKind)
 |bool
 |str
 |sl (e:CT ι)
 |st (i:ι)
 |any
 |mp (k v:CT ι)
 deriving DecidableEq
structure SE where
 ι:Type
 dec:DecidableEq ι
 T:ι->Type
 row:(i:ι)->T i->List Tree
instance (E:SE):DecidableEq E.ι:=E.dec
section
variable (E:SE)
@[reducible] def CT.T:CT E.ι->Type
 |.int _=>Int
 |.bool=>Bool
 |.str=>ByteArray
 |.sl e=>List (CT.T e)
 |.st i=>E.T i
 |.any=>Tree
 |.mp k v=>List (CT.T k×CT.T v)
def CT.row:(c:CT E.ι)->CT.T E c->List Tree
 |.int k,n=>[.sc (.int k n)]
 |.bool,b=>[.sc (.bool b)]
 |.str,s=>[.sc (.string s)]
 |.sl e,l=>[.sl (List.map (CT.row e) l)]
 |.st i,x=>E.row i x
 |.any,x=>[x]
 |.mp _ _,_=>[.sl []]
def CT.one{ι:Type}:CT ι->Bool
 |.st _=>false
 |_=>true
def CT.tv:(c:CT E.ι)->CT.T E c->TV
 |.int k,n=>.s (.sc (.int k n))
 |.bool,b=>.s (.sc (.bool b))
 |.str,s=>.s (.sc (.string s))
 |.sl e,l=>.s (.sl (List.map (CT.row E e) l))
 |.st i,x=>.a (E.row i x)
 |.any,x=>.s x
 |.mp _ _,_=>.s (.sl [])
def HL:List (CT E.ι)->Type
 |[]=>Unit
 |c::l=>CT.T E c×HL l
def HL.row:(l:List (CT E.ι))->HL E l->List Tree
 |[],_=>[]
 |c::l,h=>CT.row E c h.1++HL.row l h.2
def HL.oE:(l:List (CT E.ι))->HL E l->List TV
 |[],_=>[]
 |c::l,h=>CT.tv E c h.1::HL.oE l h.2
end
structure Arr(E:SE) where
 i:E.ι
 c:CT E.ι
 f:E.T i->List (CT.T E c)
 g:List (CT.T E c)->Option (E.T i)
structure SX extends SE where
 cV:ι->List (CT ι)
 get:(i:ι)->T i->HL toSE (cV i)
 make:(i:ι)->HL toSE (cV i)->T i
 oR:∀i x,row i x=HL.row toSE (cV i) (get i x)
 gb:∀i h,row i (make i h)=HL.row toSE (cV i) h
 flat:∀i,(cV i).all CT.one=true
 gv:Nat->Option ((c:CT ι)×CT.T toSE c)
 zE:∀g,(gv g).map (λ p=>CT.row toSE p.1 p.2)=(xy g).map λr=>r.map Tree.sc
 ar:TypeId->Option (Arr toSE):=λ_=>none
 ao7:∀t a,ar t=some a->a.c.one=true/\(∀ x,row a.i x=((a.f x).map (CT.row toSE a.c)).flatten)/\∀l x,a.g l=some x->a.f x=l:=by intro t a h;cases h
section
variable (X:SX)
abbrev SX.C:=CT X.ι
abbrev SX.t(c:CT X.ι):Type:=CT.T X.toSE c
def CT.sz:CT X.ι->Nat
 |.st i=>(X.cV i).length
 |_=>1
inductive DV where
 |c (t:CT X.ι) (x:CT.T X.toSE t)
 |agg (cs:List DV)
 |eR (vs:List DV)
 |own (k aa len:Nat)
 |ptr (k row aa:Nat)
 |qt (k:Nat) (n:Int) (aa:Nat)
 |tw (k row aa m:Nat) (n:Int)
 |rp (t:CT X.ι) (x:CT.T X.toSE t) (aa:Nat)
 |xi (t:CT X.ι) (x:CT.T X.toSE t) (aa m:Nat) (n:Int)
 |fn (f:FuncId) (first caps:List DV)
 |dt (as:List (CT X.ι)) (r:CT X.ι) (φ:HL X.toSE as->Option (CT.T X.toSE r))
 |mp (k:Nat)
 |oz (k len:Nat)
 |raw (v:Value)
 |nil
 |ub
 |skip
 |undef
inductive bu where
 |cells (sz:Nat) (rows:List (List (DV X)))
 |ec (c:CT X.ι) (l:List (CT.T X.toSE c))
 |map (kc vc:CT X.ι) (l:List (CT.T X.toSE kc×CT.T X.toSE vc))
structure cE where
 env:List (Nat×DV X)
 obj:List (Nat×Option (bu X))
 nx:Nat
 log:List Nat
variable {X}
mutual
def den:DV X->AV
 |.c t x=>(CT.tv X.toSE t x).av
 |.agg cs=>.agg (bI cs)
 |.eR vs=>.eR (bI vs)
 |.own k aa len=>.own k aa len
 |.ptr k row aa=>.ptr k row aa
 |.qt k n aa=>.ptr k n.toNat aa
 |.tw k row aa _ n=>.ptr k row (aa+n.toNat)
 |.rp t x aa=>.eo (CT.row X.toSE t x) aa
 |.xi t x aa _ n=>.eo (CT.row X.toSE t x) (aa+n.toNat)
 |.fn f first caps=>.fn f (bI first) (bI caps)
 |.dt as r φ=>.dt λts u=>∃h x,φ h=some x/\ts=HL.oE X.toSE as h/\u=CT.tv X.toSE r x
 |.mp k=>.mp k
 |.oz k len=>.oz k len
 |.raw v=>cv v
 |.nil=>.cN
 |.ub=>.ub
 |.skip=>.undef
 |.undef=>.undef
def bI:List (DV X)->List AV
 |[]=>[]
 |x::xs=>den x::bI xs
end
theorem nW:∀l:List (DV X),bI l=l.map den
 |[]=>rfl
 |x::xs=>by simp[bI,nW xs]
def bK:bu X->aO
 |.cells sz rows=>⟨sz,rows.map bI⟩
 |.ec c l=>⟨CT.sz X c,aI (l.map (CT.row X.toSE c))⟩
 |.map kc vc l=>⟨l.length,l.map λp=>[(CT.tv X.toSE kc p.1).av,(CT.tv X.toSE vc p.2).av]⟩
def jy(u:List (Nat×Option (bu X))):List (Nat×Option aO):=u.map λp=>(p.1,p.2.map bK)
def fm(o:List (Nat×Option (bu X)))(k:Nat):Option (bu X):=(lk o k).join
def du(e:List (Nat×DV X))(t:Nat):DV X:=(lk e t).getD .undef
def cE.st(s:cE X):St:=⟨λ t=>den (du s.env t),λk=>(fm s.obj k).map bK,λ_=>none⟩
def lI(a b:CT X.ι)(x:CT.T X.toSE a):Option (CT.T X.toSE b):=
 match decEq a b with
 |isTrue h=>some (h ▸ x)
 |isFalse _=>none
theorem rG{a b:CT X.ι}{x:CT.T X.toSE a}{y:CT.T X.toSE b}(h:lI a b x=some y):∃e:a=b,y=e ▸ x:=by unfold lI at h;split at h;rename_i e _;injection h with h;exact⟨e,h.symm⟩;cases h
def HL.cells:(l:List (CT X.ι))->HL X.toSE l->List (DV X)
 |[],_=>[]
 |c::l,h=>.c c h.1::HL.cells l h.2
theorem row_one{c:CT X.ι}(h:c.one=true)(x:CT.T X.toSE c):∃t,CT.row X.toSE c x=[t]/\CT.tv X.toSE c x=.s t:=by cases c<;>first|exact⟨_,rfl,rfl⟩|cases h
theorem HL.qq:∀(l:List (CT X.ι))(h:HL X.toSE l),l.all CT.one=true->bI (HL.cells l h)=(HL.row X.toSE l h).map AV.t
 |[],_,_=>rfl
 |c::l,h,ha=>by simp only[all_cons,bC]at ha;obtain⟨t,h1,h2⟩:=row_one ha.1 h.1;simp[HL.cells,bI,den,HL.row,h1,h2,TV.av,HL.qq l h.2 ha.2]
theorem HL.oX:∀(l:List (CT X.ι))(h:HL X.toSE l),l.all CT.one=true->(HL.row X.toSE l h).length=l.length
 |[],_,_=>rfl
 |c::l,h,ha=>by simp only[all_cons,bC]at ha;obtain⟨t,h1,_⟩:=row_one ha.1 h.1;simp[HL.row,h1,HL.oX l h.2 ha.2]
theorem Gz(c:CT X.ι)(x:CT.T X.toSE c):(CT.row X.toSE c x).length=CT.sz X c:=by
 cases c<;>try rfl
 rename_i i;exact(congrArg List.length (X.oR i x)).trans (HL.oX _ _ (X.flat i))
def uP:(c:CT X.ι)->CT.T X.toSE c->List (DV X)
 |.st i,x=>HL.cells (X.cV i) (X.get i x)
 |c,x=>[.c c x]
theorem oZ(c:CT X.ι)(x:CT.T X.toSE c):bI (uP c x)=(CT.row X.toSE c x).map AV.t:=by
 cases c<;>try rfl
 rename_i i;exact(HL.qq _ _ (X.flat i)).trans (congrArg (List.map AV.t) (X.oR i x).symm)
def vw:DV X->Bool
 |.agg _|.eR _|.undef|.skip|.raw _|.c (.st _) _=>false
 |_=>true
theorem QW{x:DV X}(h:vw x=true):oW (den x)=true:=by
 cases x<;>try rfl
 case c t x=>cases t<;>first|rfl|simp[vw]at h
 all_goals simp[vw]at h
def cellsD:DV X->Option (List (DV X))
 |.agg cs=>if cs.all vw then some cs else none
 |.c (.st i) x=>some (uP (.st i) x)
 |.eR _|.undef|.skip|.raw _=>none
 |x=>some [x]
theorem ahk{l:List (DV X)}(h:l.all vw=true):(bI l).all oW=true:=by rw[nW,List.all_map,all_eq_true];exact λx hx=>QW (all_eq_true.1 h x hx)
theorem Dy{x:DV X}{cs:List (DV X)}(h:cellsD x=some cs):cellsOf (den x)=some (bI cs):=by
 cases x
 case c t x=>
  cases t
  case st i=>
   simp[cellsD]at h;subst h;simp only[den,CT.tv,TV.av,cellsOf,oZ];show(if ((X.row i x).map AV.t).all oW then some ((X.row i x).map AV.t)else none)=some ((X.row i x).map AV.t);rw[aY];rw[List.all_map,all_eq_true];exact λ_ _=>rfl
  all_goals simp[cellsD]at h;subst h;rfl
 case agg l=>
  simp only[cellsD]at h;split at h;cases h;simp only[den,cellsOf];rw[aY (ahk ‹_›)];cases h
 all_goals simp[cellsD]at h;try (subst h;rfl)
def wd:Value->DV X
 |.slice none 0 0=>.nil
 |.int k n=>.c (.int k) n
 |.bool b=>.c .bool b
 |.string s=>.c .str s
 |v=>.raw v
theorem ahl(v:Value):den (wd (X:=X) v)=cv v:=by unfold wd;split<;>rfl
theorem BQ(l:List Value):bI (l.map (wd (X:=X)))=l.map cv:=by rw[nW,map_map];exact map_congr_left λv _=>ahl v
def X8(env:Nat->DV X):Operand->DV X
 |.tmp t=>env t
 |.const v=>wd v
 |.global g=>match X.gv g with
  |some p=>.rp p.1 p.2 0
  |none=>.undef
 |.func f=>.fn f [] []
theorem UQ(env:Nat->DV X)(x:Operand):den (X8 env x)=l4 (λ t=>den (env t)) x:=by
 cases x with
 |global g=>
  have h:=X.zE g;simp[X8,l4];cases h1:X.gv g with
  |none=>
   rw[h1]at h;cases h2:xy g with
   |none=>rfl
   |some r=>rw[h2]at h;cases h
  |some p=>grind [den]
 |const v=>exact ahl _
 |tmp t|func f=>rfl
end
def bz{α:Type}(l:List α)(n:Int):Option α:=bif decide (0<=n)then l[n.toNat]? else none
def sub{α:Type}(l:List α)(aa len:Nat):List α:=(l.drop aa).take len
def ct(n:Int)(len:Nat):Bool:=decide (0<=n)&&decide (n<(len:Int))
def jM{α β:Type}(a:α)(f:α->β):β:=f a
def bP(lo len ln n bytes:Nat):Bool:=decide (lo=len)&&decide (ln=n)&&decide ((len+n)*bytes<=140737488355328)&&decide (len+n<=maxLen)
def aE(a b:Nat):Bool:=decide (a=b)
def Aw(l h:Int)(len:Nat):Bool:=decide (0<=l)&&decide (l<=h)&&decide (h<=(len:Int))
def UR(a b:ByteArray):Bool:=Op.bytesLess a.toList b.toList
def UU(a b:ByteArray):Bool:=decide (a.size+b.size<=maxLen)
abbrev iN(n:Int):Int:=n
abbrev bN(b:Bool):Bool:=b
def UW{A:Type}:List Bool->Option A->Option A
 |[],k=>k
 |c::cs,k=>bif c then UW cs k else none
section
variable {X:SX} {A:Type}
abbrev KK(X:SX)(A:Type):=DV X->List (Nat×Option (bu X))->List Nat->List Nat->Option A
def aj1(t:Bool)(x y:DV X):DV X:=
 match x,y with
 |.c a p,.c b q=>match decEq b a with
  |isTrue h=>.c a (bif t then p else h ▸ q)
  |isFalse _=>bif t then .c a p else .c b q
 |x,y=>bif t then x else y
def GA(agg:Bool)(size:Nat)(cs:List (DV X)):Option (DV X):=
 if cs.length=size then(if agg then some (.agg cs)else match cs with|[x]=>if vw x then some x else none|_=>none)else none
def R0(agg:Bool)(size:Nat)(c:CT X.ι)(y:CT.T X.toSE c)(aa:Nat):Option (DV X):=
 match c,y with
 |.st i,y=>if aa=0/\agg=true/\size=(X.cV i).length then some (.c (.st i) y)else GA agg size (((uP (.st i) y).drop aa).take size)
 |c,y=>GA agg size (((uP c y).drop aa).take size)
def Kz(d:DV X)(c:CT X.ι):Option (CT.T X.toSE c):=
 match d,c with
 |.c a x,c=>lI a c x
 |.nil,.sl _=>some []
 |.nil,.any=>some (.sl [])
 |_,_=>none
def Dz:List (DV X)->(l:List (CT X.ι))->Option (HL X.toSE l)
 |[],[]=>some ()
 |d::ds,c::l=>(Kz d c).bind λx=>(Dz ds l).bind λh=>some (x,h)
 |_,_=>none
def Fi(d:DV X)(i:X.ι):Option (CT.T X.toSE (.st i)):=
 match d with
 |.agg cs=>(Dz cs (X.cV i)).bind λh=>some (X.make i h)
 |.c a x=>lI a (.st i) x
 |_=>none
def dat(d:DV X)(c:CT X.ι):Option (CT.T X.toSE c):=
 match c with
 |.st i=>Fi d i
 |c=>Kz d c
def mk1(c:CT X.ι):List (DV X)->Option (CT.T X.toSE c)
 |[d]=>Kz d c
 |_=>none
def LW(c:CT X.ι)(ds:List (DV X)):Option (CT.T X.toSE c):=
 match c with
 |.st i=>(Dz ds (X.cV i)).bind λh=>some (X.make i h)
 |c=>mk1 c ds
def No(r:List (DV X))(aa:Nat)(cs:List (DV X)):List (DV X):=r.take aa++cs++r.drop (aa+cs.length)
variable (T:ed) (code:TypeId->Option (CT X.ι))
def VV(t:TypeId)(x:DV X)(get:Nat->Option (bu X))(k:KK X A):Option A:=
 (T t).bind λti=>match x with
 |.ptr kk row aa=>(get kk).bind λo=>match o with
  |.cells _ rows=>(rows[row]?).bind λr=>(GA ti.agg ti.size ((r.drop aa).take ti.size)).bind λv=>k v [] [kk] []
  |_=>none
 |.qt kk n aa=>(get kk).bind λo=>match o with
  |.ec c l=>(bz l n).bind λy=>(R0 ti.agg ti.size c y aa).bind λv=>k v [] [kk] []
  |_=>none
 |.rp c y aa=>(R0 ti.agg ti.size c y aa).bind λv=>k v [] [] []
 |_=>none
def T3(t:TypeId)(x y:DV X)(get:Nat->Option (bu X))(k:KK X A):Option A:=
 (T t).bind λti=>(cellsD y).bind λcs=>if cs.length=ti.size then match x with
 |.ptr kk row aa=>(get kk).bind λo=>match o with
  |.cells sz rows=>(rows[row]?).bind λr=>if aa+cs.length<=r.length then k .undef [(kk,some (.cells sz (rows.set row (No r aa cs))))] [kk] [kk]else none
  |_=>none
 |.qt kk n aa=>(get kk).bind λo=>match o with
  |.ec c l=>(bz l n).bind λy=>if aa+cs.length<=CT.sz X c then(LW c (No (uP c y) aa cs)).bind λz=>k .undef [(kk,some (.ec c (l.set n.toNat z)))] [kk] [kk]else none
  |_=>none
 |_=>none else none
def KA(t:TypeId)(x:DV X)(f:Nat)(k:KK X A):Option A:=
 (zI T t f).bind λp=>match x with
 |.ptr kk row aa=>k (.ptr kk row (aa+p.1)) [] [] []
 |.qt kk n aa=>k (.qt kk n (aa+p.1)) [] [] []
 |.rp c y aa=>k (.rp c y (aa+p.1)) [] [] []
 |_=>none
def afo(t:TypeId)(x:DV X)(f:Nat)(k:KK X A):Option A:=
 (zI T t f).bind λp=>match x with
 |.agg cs=>(GA p.2.agg p.2.size ((cs.drop p.1).take p.2.size)).bind λv=>k v [] [] []
 |.c (.st i) y=>(GA p.2.agg p.2.size (((uP (.st i) y).drop p.1).take p.2.size)).bind λv=>k v [] [] []
 |_=>none
def KC(t:TypeId)(x j:DV X)(get:Nat->Option (bu X))(k:KK X A):Option A:=
 (T t).bind λti=>match ti.k,j with
 |.slice e,.c (.int _) n=>(T e).bind λei=>match x with
  |.c (.sl c) l=>if CT.sz X c=ei.size then(bz l n).bind λy=>k (.rp c y 0) [] [] []else none
  |.own kk aa len=>(get kk).bind λo=>match o with
   |.ec c _=>if CT.sz X c=ei.size then bif ct n len then k (.qt kk ((aa:Int)+iN n) 0) [] [kk] []else none else none
   |.cells sz _=>if sz=ei.size then bif ct n len then k (.ptr kk (aa+n.toNat) 0) [] [kk] []else none else none
   |.map _ _ _=>none
  |_=>none
 |.arr m e,.c (.int _) n=>(T e).bind λei=>bif ct n m then match x with
  |.ptr kk row aa=>k (.ptr kk row (aa+n.toNat*ei.size)) [] [] []
  |.qt kk r aa=>k (.qt kk r (aa+n.toNat*ei.size)) [] [] []
  |.rp c y aa=>k (.rp c y (aa+n.toNat*ei.size)) [] [] []
  |_=>none
  else none
 |_,_=>none
def UX(x:DV X)(j:Nat)(k:KK X A):Option A:=
 match x with
 |.eR vs=>(vs[j]?).bind λv=>k v [] [] []
 |_=>none
def GD(op:BinOp)(kd:IntKind)(a b:Int):(DV X)×Option Bool:=
 match op with
 |.add=>(.c (.int kd) (kd.wrap (a+b)),none)
 |.sub=>(.c (.int kd) (kd.wrap (a-b)),none)
 |.mul=>(.c (.int kd) (kd.wrap (a*b)),none)
 |.quo=>(.c (.int kd) (kd.wrap (a.tdiv b)),some (b !=0))
 |.rem=>(.c (.int kd) (a.tmod b),some (b !=0))
 |.and=>(.c (.int kd) (bits .and kd a b),none)
 |.or=>(.c (.int kd) (bits .or kd a b),none)
 |.xor=>(.c (.int kd) (bits .xor kd a b),none)
 |.andNot=>(.c (.int kd) (bits .andNot kd a b),none)
 |.shl=>(.c (.int kd) (kd.wrap (a*2 ^ b.toNat)),some (decide (0<=b)&&decide (b<=kd.bits)))
 |.shr=>(.c (.int kd) (a/2 ^ b.toNat),some (decide (0<=b)&&decide (b<=kd.bits)))
 |.eql=>(.c .bool (a==b),none)
 |.neq=>(.c .bool (a !=b),none)
 |.lss=>(.c .bool (decide (a<b)),none)
 |.leq=>(.c .bool (decide (a<=b)),none)
 |.gtr=>(.c .bool (decide (a>b)),none)
 |.geq=>(.c .bool (decide (a>=b)),none)
def aaH:Nat->DV X->DV X->Option Bool
 | 0,.c (.int j) a,.c (.int k) b=>if j=k then some (iN a==iN b)else none
 | 1,.c .bool a,.c .bool b=>some (bN a==bN b)
 | 2,.c .str a,.c .str b=>some (a.toList==b.toList)
 |_,_,_=>none
def GH:List Nat->List (DV X)->List (DV X)->Option Bool
 |[],[],[]=>some true
 |k::ks,x::xs,y::ys=>(aaH k x y).bind λa=>(GH ks xs ys).bind λb=>some (a&&b)
 |_,_,_=>none
def QQ:DV X->Option (List (DV X))
 |.agg cs=>some cs
 |.c (.st i) y=>some (uP (.st i) y)
 |_=>none
def anl(op:BinOp)(t:TypeId)(x y:DV X)(k:KK X A):Option A:=
 match x,y with
 |.c (.int kd) a,.c (.int yk) b=>if kd=yk\/op=.shl\/op=.shr then match (GD op kd a b:DV X×Option Bool).2 with
  |none=>k (GD op kd a b).1 [] [] []
  |some g=>bif g then k (GD op kd a b).1 [] [] []else none
  else none
 |.c .str a,.c .str b=>match op with
  |.eql=>k (.c .bool (a.toList==b.toList)) [] [] []
  |.neq=>k (.c .bool (!(a.toList==b.toList))) [] [] []
  |.lss=>k (.c .bool (UR a b)) [] [] []
  |.gtr=>k (.c .bool (!(UR a b || a.toList==b.toList))) [] [] []
  |.add=>bif UU a b then k (.c .str (a++b)) [] [] []else none
  |_=>none
 |.c .bool a,.c .bool b=>(T t).bind λti=>match ti.k,op with
  |.bool,.eql=>k (.c .bool (bN a==bN b)) [] [] []
  |.bool,.neq=>k (.c .bool (!(bN a==bN b))) [] [] []
  |_,_=>none
 |x,y=>(QQ x).bind λxs=>(QQ y).bind λys=>(T t).bind λti=>if ti.cmp=[]then none else(GH ti.cmp xs ys).bind λb=>match op with
  |.eql=>k (.c .bool b) [] [] []
  |.neq=>k (.c .bool (!b)) [] [] []
  |_=>none
def TZ(op:UnOp)(x:DV X)(k:KK X A):Option A:=
 match op,x with
 |.not,.c .bool b=>k (.c .bool (!b)) [] [] []
 |.neg,.c (.int kd) n=>k (.c (.int kd) (kd.wrap (0-iN n))) [] [] []
 |_,_=>none
def I8(mx:Bool)(kd:IntKind):Int->List (DV X)->Option Int
 |a,[]=>some a
 |a,.c (.int k') b::r=>if k'=kd then I8 mx kd (if mx then max a b else min a b) r else none
 |_,_=>none
def Pc(mx:Bool)(args:List (DV X))(k:KK X A):Option A:=
 match args with
 |.c (.int kd) a::r=>(I8 mx kd a r).bind λn=>k (.c (.int kd) n) [] [] []
 |_=>none
def anm(t:TypeId)(x:DV X)(k:KK X A):Option A:=
 (T t).bind λti=>match ti.k,x with
 |.slice _,.c (.sl _) l=>k (.c (.int .i64) (l.length:Int)) [] [] []
 |.slice _,.own _ _ len=>k (.c (.int .i64) (len:Int)) [] [] []
 |.slice _,.oz _ len=>k (.c (.int .i64) (len:Int)) [] [] []
 |.slice _,.nil=>k (.c (.int .i64) (0:Int)) [] [] []
 |.str,.c .str s=>k (.c (.int .i64) (s.size:Int)) [] [] []
 |_,_=>none
def Za(place:Nat->Option (Nat×Nat)):List (DV X)->List (Nat×DV X)->Option (List (DV X))
 |cells,[]=>some cells
 |cells,(j,x)::ae=>(place j).bind λp=>(cellsD x).bind λcs=>
  if cs.length=p.2/\p.1+cs.length<=cells.length then Za place (No cells p.1 cs) ae else none
def afp(t:TypeId)(parts:List (Nat×DV X))(k:KK X A):Option A:=
 (T t).bind λti=>match ti.k with
 |.struct fs=>if fs.all (λ p=>(T p.2).isSome)then
  (Za (λ j=>(fs[j]?).bind λp=>(T p.2).bind λui=>some (p.1,ui.size)) (ti.zero.map wd) parts).bind λcells=>k (.agg cells) [] [] []else none
 |.arr _ e=>(T e).bind λei=>(Za (λ j=>some (j*ei.size,ei.size)) (ti.zero.map wd) parts).bind λcells=>k (.agg cells) [] [] []
 |_=>none
def Nm(c:CT X.ι):Nat->List (Nat×DV X)->Option (List (CT.T X.toSE c))
 |_,[]=>some []
 |n,(j,x)::r=>if j=n then(dat x c).bind λy=>(Nm c (n+1) r).bind λl=>some (y::l)else none
def GI(i:Nat)(t:TypeId)(len:Nat)(parts:List (Nat×DV X))(k:KK X A):Option A:=
 (T t).bind λti=>match ti.k with
 |.slice e=>(T e).bind λei=>(code e).bind λc=>if ei.size=0\/len*ei.size>2 ^ 24\/CT.sz X c≠ei.size\/parts.length≠len then none else
  (Nm c 0 parts).bind λl=>k (.own (cC i) 0 len) [(cC i,some (.ec c l))] [] []
 |_=>none
def afq(i:Nat)(e:TypeId)(k:KK X A):Option A:=
 (T e).bind λti=>k (.ptr (cC i) 0 0) [(cC i,some (.cells ti.size [ti.zero.map wd]))] [] []
def ano(i:Nat)(x:DV X)(k:KK X A):Option A:=
 (cellsD x).bind λcs=>k (.ptr (cC i) 0 0) [(cC i,some (.cells cs.length [cs]))] [] []
def AW(d:Int):Option (DV X)->Option Int
 |none=>some d
 |some (.c (.int _) n)=>some n
 |_=>none
def afr(t:TypeId)(x:DV X)(lo hi:Option (DV X))(get:Nat->Option (bu X))(k:KK X A):Option A:=
 (T t).bind λti=>match ti.k with
 |.slice e=>(T e).bind λei=>match x with
  |.own kk aa len=>(get kk).bind λo=>if (bK o).sz=ei.size then(AW 0 lo).bind λl=>(AW len hi).bind λh=>
   bif Aw l h len then k (.own kk (aa+l.toNat) (h.toNat-l.toNat)) [] [kk] []else none else none
  |.c (.sl c) xs=>if CT.sz X c=ei.size then(AW 0 lo).bind λl=>(AW xs.length hi).bind λh=>
   bif Aw l h xs.length then k (.c (.sl c) (sub xs l.toNat (h.toNat-l.toNat))) [] [] []else none else none
  |_=>none
 |_=>none
def anp(y:DV X)(c:CT X.ι)(get:Nat->Option (bu X)):Option (Nat×List (CT.T X.toSE c)×List Nat):=
 match y with
 |.own kk aa len=>(get kk).bind λo=>match o with
  |.ec b l=>(lI (.sl b) (.sl c) l).bind λl=>some (len,sub l aa len,[kk])
  |_=>none
 |.c b l=>(lI b (.sl c) l).bind λ(l:List (CT.T X.toSE c))=>some (l.length,l,[])
 |_=>none
def UY{α:Type}:Nat->List α->List α
 | 0,l=>l
 |n+1,l=>l.drop (n+1)
def aaI(i:Nat)(t:TypeId)(x y:DV X)(get:Nat->Option (bu X))(k:KK X A):Option A:=
 (T t).bind λti=>match ti.k with
 |.slice e=>(T e).bind λei=>(code e).bind λc=>if CT.sz X c=ei.size then(anp y c get).bind λs=>match x with
  |.own kk aa len=>(get kk).bind λo=>match o with
   |.ec b l=>(lI (.sl b) (.sl c) l).bind λ(l:List (CT.T X.toSE c))=>bif bP (UY aa l).length len s.2.1.length s.1 ei.bytes then jM (UY aa l++s.2.1) λr=>k (.own (cC i) 0 r.length) [(cC i,some (.ec c r)),(kk,none)] (kk::s.2.2) [kk]else none
   |_=>none
  |.nil=>bif bP 0 0 s.2.1.length s.1 ei.bytes then jM s.2.1 λr=>k (.own (cC i) 0 r.length) [(cC i,some (.ec c r))] s.2.2 []else none
  |_=>none
  else none
 |_=>none
def UZ(i:Nat)(b:Builtin)(args:List (DV X))(cV:List TypeId)(get:Nat->Option (bu X))(k:KK X A):Option A:=
 match b,args,cV with
 |.len,[x],[t]=>anm T t x k
 |.max,args,_=>Pc true args k
 |.min,args,_=>Pc false args k
 |.append,[x,y],[t,u]=>if t=u then aaI T code i t x y get k else none
 |_,_,_=>none
def O2(i:Nat)(o:Op)(ρ:Operand->DV X)(get:Nat->Option (bu X))(k:KK X A):Option A:=
 match o with
 |.move x=>k (ρ x) [] [] []
 |.assign x=>k (ρ x) [] [] []
 |.pick c a b=>match ρ c with|.c .bool t=>k (aj1 t (ρ a) (ρ b)) [] [] []|_=>none
 |.alloc e=>afq T i e k
 |.box _ x=>ano i (ρ x) k
 |.build t parts=>afp T t (parts.toList.map λp=>(p.1,ρ p.2)) k
 |.buildSlice t len parts=>GI T code i t len (parts.toList.map λp=>(p.1,ρ p.2)) k
 |.load t a=>VV T t (ρ a) get k
 |.store t a x=>T3 T t (ρ a) (ρ x) get k
 |.binOp op t x y _=>anl T op t (ρ x) (ρ y) k
 |.unOp op _ x=>TZ op (ρ x) k
 |.makeFunc (.func f) first caps=>k (.fn f (first.toList.map ρ) (caps.toList.map ρ)) [] [] []
 |.slice t x lo hi none=>afr T t (ρ x) (lo.map ρ) (hi.map ρ) get k
 |.fieldAddr t x f=>KA T t (ρ x) f k
 |.field t x f=>afo T t (ρ x) f k
 |.indexAddr t x j=>KC T t (ρ x) (ρ j) get k
 |.extract x j=>UX (ρ x) j k
 |.call { callee:=.builtin b,args:=args,argTypes:=cV }=>UZ T code i b (args.toList.map ρ) cV.toList get k
 |_=>none
end
section
variable {X:SX} {A:Type} {T:ed} {code:TypeId->Option (CT X.ι)} {get:Nat->Option (bu X)} {k:KK X A} {r:A} {i:Nat}
def fO(get:Nat->Option (bu X)):Nat->Option aO:=λj=>(get j).map bK
theorem fB{rd:List Nat}{j:Nat}{o:bu X}(hj:j∈rd)(h:get j=some o):dN rd (fO get) j=some (bK o):=by simp[dN,hj,fO,h]
theorem iX(l:List (DV X)):(bI l).length=l.length:=by simp[nW]
theorem kU(l:List (DV X))(a b:Nat):bI ((l.drop a).take b)=((bI l).drop a).take b:=by simp[nW]
theorem LX{α:Type}{l:List α}{n:Int}{x:α}(h:bz l n=some x):0<=n/\l[n.toNat]? =some x:=by
 unfold bz at h
 all_goals grind
theorem air(t:Bool)(x y:DV X):den (aj1 t x y)=Of t (den x) (den y):=by
 rw[Uk];have base:∀x y:DV X,den (bif t then x else y)=if t=true then den x else den y:=λx y=>by cases t<;>rfl
 unfold aj1;split;split;rename_i h _;subst h;cases t<;>rfl;exact base _ _;exact base _ _
theorem BR{agg:Bool}{size:Nat}{cs:List (DV X)}{v:DV X}(h:GA agg size cs=some v):part' agg size (bI cs)=some (den v):=by
 unfold GA at h;unfold part';rw[iX];split at h;rename_i hl;rw[aY hl];cases agg with
 |true=>simp at h ⊢;subst h;rfl
 |false=>
  simp at h ⊢
  match cs,h with
  |[x],h=>
   simp only at h;split at h;rename_i hx;cases h;simp only[bI];rw[aY (QW hx)];cases h
  |[],h|_::_::_,h=>cases h
 cases h
theorem OU{agg:Bool}{size aa:Nat}{c:CT X.ι}{y:CT.T X.toSE c}{v:DV X}(h:GA agg size (((uP c y).drop aa).take size)=some v):part' agg size ((((CT.row X.toSE c y).drop aa).take size).map AV.t)=some (den v):=by have:=BR h;rw[kU,oZ]at this;rw[<- this,map_take,map_drop]
theorem Zb{agg:Bool}{size aa:Nat}{c:CT X.ι}{y:CT.T X.toSE c}{v:DV X}(h:R0 agg size c y aa=some v):part' agg size ((((CT.row X.toSE c y).drop aa).take size).map AV.t)=some (den v):=by
 cases c
 case st j=>
  simp[R0]at h;split at h;rename_i hh;obtain⟨rfl,rfl,rfl⟩:=hh;cases h;have hl:(CT.row X.toSE (.st j) y).length=(X.cV j).length:=Gz (.st j) y;rw[List.drop_zero,take_of_length_le (by omega)];unfold part';rw[aY (by simpa using hl)];rfl;exact OU h
 all_goals exact OU h
theorem ais{t:TypeId}{x:DV X}(h:VV T t x get k=some r):∃cp rd dv out,J3 T t (den x) cp (dN rd (fO get))=some out/\kT out.obs/\out.v=den dv/\out.upd=[]/\k dv [] rd []=some r:=by unfold VV at h;unfold J3;rw[ah]at h;obtain⟨ti,h1,h⟩:=h;simp only[h1,ai];split at h;rename_i kk row aa;rw[ah]at h;obtain⟨o,h2,h⟩:=h;split at h;rw[ah]at h;obtain⟨rw',h3,h⟩:=h;rw[ah]at h;obtain⟨v,h4,h⟩:=h;refine⟨.none,[kk],v,⟨den v,[],[]⟩,?_,trivial,rfl,rfl,h⟩;have h5:=BR h4;rw[kU]at h5;simp[den,fB (List.mem_singleton_self kk) h2,bK,h3,h5,pv];cases h;rename_i kk n aa;rw[ah]at h;obtain⟨o,h2,h⟩:=h;split at h;rename_i c l;rw[ah]at h;obtain⟨y,h3,h⟩:=h;rw[ah]at h;obtain⟨v,h4,h⟩:=h;have⟨_,h6⟩:=LX h3;refine⟨.row ((CT.row X.toSE c y).map AV.t),[kk],v,⟨den v,[],[(aI (l.map (CT.row X.toSE c)))[n.toNat]? =some ((CT.row X.toSE c y).map AV.t)]⟩,?_,?_,rfl,rfl,h⟩;have h5:=Zb h4;rw[map_take,map_drop]at h5;simp[den,fB (List.mem_singleton_self kk) h2,bK,h5,m6];simp[kT,aI,h6];cases h;rename_i c y aa;have⟨v,h4,h⟩:=ah.1 h;refine⟨.none,[],v,⟨den v,[],[]⟩,?_,trivial,rfl,rfl,h⟩;simp only[den,Zb h4,ai,pv];cases h
theorem U0(a:List (DV X))(aa:Nat)(cs:List (DV X)):bI (No a aa cs)=put' (bI a) aa (bI cs):=by simp[No,put',nW]
theorem oD{a c:CT X.ι}{x:CT.T X.toSE a}{y:CT.T X.toSE c}(h:lI a c x=some y):den (.c a x)=den (.c c y)/\CT.row X.toSE a x=CT.row X.toSE c y:=by
 obtain⟨e,h⟩:=rG h
 grind
theorem Th{c:CT X.ι}(hc:c.one=true)(x:CT.T X.toSE c):[(CT.tv X.toSE c x).av]=(CT.row X.toSE c x).map AV.t:=by obtain⟨t,h1,h2⟩:=row_one hc x;rw[h1,h2];rfl
theorem am2{c:CT X.ι}(x:CT.T X.toSE c):wk (CT.tv X.toSE c x).av=(CT.tv X.toSE c x).av:=by cases c<;>rfl
theorem vJ{d:DV X}{c:CT X.ι}{x:CT.T X.toSE c}(h:Kz d c=some x):wk (den d)=(CT.tv X.toSE c x).av:=by unfold Kz at h;split at h;rw[(oD h).1];exact am2 x;cases h;rfl;cases h;rfl;cases h
theorem ahn{d:DV X}{c:CT X.ι}{x:CT.T X.toSE c}(hc:c.one=true)(h:Kz d c=some x):vw d=true:=by
 cases d
 case c a y=>
  obtain⟨e,_⟩:=rG (show lI a c y=some x by cases c<;>exact h);subst e;cases a<;>first|rfl|simp[CT.one]at hc
 case nil=>rfl
 all_goals cases c<;>cases h
theorem yw:∀{ds:List (DV X)}{l:List (CT X.ι)}{h:HL X.toSE l},Dz ds l=some h->l.all CT.one=true->(bI ds).map wk=(HL.row X.toSE l h).map AV.t/\ds.all vw=true
 |[],[],h,_,_=>⟨rfl,rfl⟩
 |d::ds,c::l,h,hr,ha=>by simp[Dz]at hr;have⟨x,h1,hr⟩:=ah.1 hr;have⟨g,h2,hr⟩:=ah.1 hr;cases hr;simp only[all_cons,bC]at ha ⊢;have⟨i1,i2⟩:=yw h2 ha.2;simp[bI,HL.row,i1,vJ h1,i2,ahn ha.1 h1];simp[<- Th ha.1 x]
 |[],_::_,_,hr,_|_::_,[],_,hr,_=>by simp[Dz]at hr
theorem U1(j:X.ι)(h:HL X.toSE (X.cV j)):CT.row X.toSE (.st j) (X.make j h)=HL.row X.toSE (X.cV j) h:=X.gb j h
theorem alZ{c:CT X.ι}(hc:c.one=true){ds:List (DV X)}{x:CT.T X.toSE c}(h:mk1 c ds=some x):(bI ds).map wk=(CT.row X.toSE c x).map AV.t:=by
 match ds,h with
 |[d],h=>
  rw[<- Th hc x];simp[bI,vJ h]
 |[],h|_::_::_,h=>cases h
theorem xS{c:CT X.ι}{ds:List (DV X)}{x:CT.T X.toSE c}(h:LW c ds=some x):(bI ds).map wk=(CT.row X.toSE c x).map AV.t:=by
 cases c
 case st j=>
  simp[LW]at h;have⟨g,h1,h⟩:=ah.1 h;cases h;rw[(yw h1 (X.flat j)).1,U1]
 all_goals exact alZ rfl h
theorem afs{d:DV X}{c:CT X.ι}(hc:c.one=true){x:CT.T X.toSE c}(h:Kz d c=some x):∃cs,cellsOf (den d)=some cs/\cs.map wk=(CT.row X.toSE c x).map AV.t:=by
 have hk:=ahn hc h;have hd:=vJ h;have he:cellsOf (den d)=some [den d]:=by
  have:=Dy (x:=d) (cs:=[d]) (by
   cases d
   case c t y=>cases t<;>first|rfl|simp[vw]at hk
   all_goals first|rfl|simp[vw]at hk)
  simpa[bI]using this
 exact⟨_,he,by rw[<- Th hc x];simp[hd]⟩
theorem ait{d:DV X}{c:CT X.ι}{x:CT.T X.toSE c}(h:dat d c=some x):∃cs,cellsOf (den d)=some cs/\cs.map wk=(CT.row X.toSE c x).map AV.t:=by
 cases c
 case st j=>
  replace h:Fi d j=some x:=h
  cases d
  case agg cs=>
   simp[Fi]at h;rw[ah]at h;obtain⟨g,h1,h⟩:=h;cases h;have⟨i1,i2⟩:=yw h1 (X.flat j);refine⟨bI cs,?_,by rw[i1,U1]⟩;simp only[den,cellsOf];rw[aY (ahk i2)]
  case c a y=>
   rw[(oD h).1];refine⟨(CT.row X.toSE (.st j) x).map AV.t,?_,?_⟩;show cellsOf (.agg _)=_;simp only[cellsOf];rw[aY];rfl;rw[List.all_map,all_eq_true];exact λ_ _=>rfl;rw[map_map];rfl
  all_goals cases h
 all_goals exact afs rfl h
theorem aiu{t:TypeId}{x y:DV X}(h:T3 T t x y get k=some r):∃cp kk u out,Ue T t (den x) (den y) cp (dN [kk] (fO get))=some out/\kT out.obs/\out.v=.undef/\out.upd=jy [(kk,u)]/\k .undef [(kk,u)] [kk] [kk]=some r:=by
 unfold T3 at h;unfold Ue;rw[ah]at h;obtain⟨ti,h1,h⟩:=h;rw[ah]at h;obtain⟨cs,h2,h⟩:=h;simp[h1,Dy h2];split at h;rename_i hl;have hdl:(bI cs).length=ti.size:=by rw[iX];exact hl
 simp[hdl];split at h;rename_i kk row aa;rw[ah]at h;obtain⟨o,h3,h⟩:=h;split at h;rw[ah]at h;obtain⟨rw',h4,h⟩:=h;split at h;rename_i hle;refine⟨.none,kk,_,⟨.undef,_,[]⟩,?_,trivial,rfl,rfl,h⟩;simp only[den,fB (List.mem_singleton_self kk) h3,ai,bK,List.getElem?_map,h4,Option.map_some,iX];rw[aY (by rw[<- hl];exact hle)];simp[U0];cases h;cases h;rename_i kk n aa;rw[ah]at h;obtain⟨o,h3,h⟩:=h;split at h;rename_i c l;rw[ah]at h;obtain⟨z,h4,h⟩:=h;split at h;rename_i hle;have⟨z',h5,h⟩:=ah.1 h;have⟨_,h6⟩:=LX h4;refine⟨.set ((CT.row X.toSE c z).map AV.t) (aI ((l.set n.toNat z').map (CT.row X.toSE c))),kk,_,⟨.undef,_,[(aI (l.map (CT.row X.toSE c)))[n.toNat]? =some ((CT.row X.toSE c z).map AV.t)/\aI ((l.set n.toNat z').map (CT.row X.toSE c))=dW ((aI (l.map (CT.row X.toSE c))).set n.toNat (put' ((CT.row X.toSE c z).map AV.t) aa (bI cs)))]⟩,?_,?_,rfl,rfl,h⟩;simp only[den,fB (List.mem_singleton_self kk) h3,ai,bK];rw[aY (by rw[length_map,Gz,<- hl];exact hle)];simp[bK];refine⟨by simp[aI,h6],?_⟩;have h7:=xS h5;rw[U0,oZ]at h7;have hid:dW (aI (l.map (CT.row X.toSE c)))=aI (l.map (CT.row X.toSE c)):=by simp[dW,aI,wk]
 simp[dW,h7];have:(aI (l.map (CT.row X.toSE c))).map (List.map wk)=aI (l.map (CT.row X.toSE c)):=hid;rw[this];simp[aI];cases h;cases h;cases h;cases h
theorem OV{t:TypeId}{x:DV X}{f:Nat}(h:KA T t x f k=some r):∃dv out,yg T t (den x) f=some out/\kT out.obs/\out.v=den dv/\out.upd=[]/\k dv [] [] []=some r:=by unfold KA at h;unfold yg;rw[ah]at h;obtain⟨⟨d,u⟩,h1,h⟩:=h;simp[h1];split at h;exact⟨_,_,rfl,trivial,rfl,rfl,h⟩;exact⟨_,_,rfl,trivial,rfl,rfl,h⟩;exact⟨_,_,rfl,trivial,rfl,rfl,h⟩;cases h
theorem aaK{t:TypeId}{x:DV X}{f:Nat}(h:afo T t x f k=some r):∃dv out,Uf T t (den x) f=some out/\kT out.obs/\out.v=den dv/\out.upd=[]/\k dv [] [] []=some r:=by unfold afo at h;unfold Uf;rw[ah]at h;obtain⟨⟨d,u⟩,h1,h⟩:=h;simp[h1];split at h;rw[ah]at h;obtain⟨v,h2,h⟩:=h;have h3:=BR h2;rw[kU]at h3;exact⟨v,⟨den v,[],[]⟩,by simp[den,h3,pv],trivial,rfl,rfl,h⟩;rename_i j y;have⟨v,h2,h⟩:=ah.1 h;have h3:=OU h2;rw[map_take,map_drop]at h3;refine⟨v,⟨den v,[],[]⟩,?_,trivial,rfl,rfl,h⟩;show(part' u.agg u.size (List.take u.size (List.drop d ((CT.row X.toSE (.st j) y).map AV.t)))).bind pv=_;rw[h3];rfl;cases h
theorem dU{α:Type}{b:Bool}{x:Option α}{r:α}(h:(bif b then x else none)=some r):b=true/\x=some r:=by grind
theorem U2{n:Int}{len:Nat}(h:ct n len=true):0<=n/\n.toNat<len:=by simp[ct]at h;omega
theorem pX{A:Type}:∀{cs:List Bool}{k:Option A}{r:A},UW cs k=some r->(∀ c∈cs,c=true)/\k=some r
 |[],_,_,h=>⟨by simp,h⟩
 |c::cs,k,r,h=>by have⟨h1,h2⟩:=dU h;have⟨h3,h4⟩:=pX h2;exact⟨λ x hx=>(aQ.1 hx).elim (λ e=>e ▸ h1) (h3 x),h4⟩
theorem OW{t:TypeId}{x j:DV X}(h:KC T t x j get k=some r):∃cp rd dv out,mE T t (den x) (den j) cp (dN rd (fO get))=some out/\kT out.obs/\out.v=den dv/\out.upd=[]/\k dv [] rd []=some r:=by unfold KC at h;unfold mE;rw[ah]at h;obtain⟨ti,h1,h⟩:=h;simp[h1];split at h;rename_i e kd n hk;rw[ah]at h;obtain⟨ei,h2,h⟩:=h;simp[hk,den,CT.tv,TV.av,h2];split at h;rename_i c l;split at h;rename_i hs;rw[ah]at h;obtain⟨y,h3,h⟩:=h;have⟨h4,h5⟩:=LX h3;refine⟨.sA (CT.row X.toSE c y),[],_,⟨.eo (CT.row X.toSE c y) 0,[],[0<=n/\(l.map (CT.row X.toSE c))[n.toNat]? =some (CT.row X.toSE c y)]⟩,?_,?_,rfl,rfl,h⟩;simp only[den,CT.tv,TV.av];rw[aY (by rw[Gz];exact hs)];rfl;exact⟨h4,by simp[h5]⟩;cases h;rename_i kk aa len;rw[ah]at h;obtain⟨o,h3,h⟩:=h;split at h;rename_i c l;split at h;rename_i hs;have⟨h4,h⟩:=dU h;have⟨h5,h6⟩:=U2 h4;refine⟨.none,[kk],_,⟨.ptr kk (aa+n.toNat) 0,[],[0<=n/\n.toNat<len]⟩,?_,⟨h5,h6⟩,?_,rfl,h⟩;simp only[den,fB (List.mem_singleton_self kk) h3,ai,bK];rw[aY hs];rfl;simp[iN];congr 1;have:(0:Int)<=n:=h5;omega;cases h;rename_i sz rows;split at h;rename_i hs;have⟨h4,h⟩:=dU h;have⟨h5,h6⟩:=U2 h4;refine⟨.none,[kk],_,⟨.ptr kk (aa+n.toNat) 0,[],[0<=n/\n.toNat<len]⟩,?_,⟨h5,h6⟩,rfl,rfl,h⟩;simp only[den,fB (List.mem_singleton_self kk) h3,ai,bK];rw[aY hs];rfl;cases h;cases h;cases h;rename_i m e kd n hk;have⟨ei,h2,h⟩:=ah.1 h;simp[hk,den,CT.tv,TV.av,h2];have⟨h4,h⟩:=dU h;have⟨h5,h6⟩:=U2 h4;split at h;exact⟨.none,[],_,_,rfl,⟨h5,h6⟩,rfl,rfl,h⟩;exact⟨.none,[],_,_,rfl,⟨h5,h6⟩,rfl,rfl,h⟩;exact⟨.none,[],_,_,rfl,⟨h5,h6⟩,rfl,rfl,h⟩;cases h;cases h
theorem U3{x:DV X}{j:Nat}(h:UX x j k=some r):∃dv out,Gq (den x) j=some out/\kT out.obs/\out.v=den dv/\out.upd=[]/\k dv [] [] []=some r:=by unfold UX at h;split at h;have⟨v,h2,h⟩:=ah.1 h;refine⟨v,⟨den v,[],[]⟩,?_,trivial,rfl,rfl,h⟩;simp[Gq,den,nW,h2,pv];cases h
end
section
variable {X:SX} {A:Type} {T:ed} {code:TypeId->Option (CT X.ι)} {get:Nat->Option (bu X)} {k:KK X A} {r:A} {i:Nat}
theorem aaL{op:BinOp}{kd:IntKind}{a b:Int}:∃v obs,Ud op kd a b=some (v,obs)/\den (GD (X:=X) op kd a b).1=.t (.sc v)/\(∀ g,(GD (X:=X) op kd a b).2=some g->g=true->kT obs)/\((GD (X:=X) op kd a b).2=none->kT obs):=by
 cases op<;>refine⟨_,_,rfl,rfl,λg hg ht=>?_,λhn=>?_⟩<;>simp[GD]at* <;>try trivial
 all_goals subst hg;simp_all [kT]
theorem acI{n:Nat}{x y:DV X}{b:Bool}(h:aaH n x y=some b):Kw n (den x) (den y)=some b:=by unfold aaH at h;split at h;split at h;cases h;simp only[den,CT.tv,TV.av,Kw];rw[aY ‹_›];cases h;exact h;exact h;cases h
theorem LY:∀{ks:List Nat}{xs ys:List (DV X)}{b:Bool},GH ks xs ys=some b->sI ks (bI xs) (bI ys)=some b
 |[],[],[],b,h=>h
 |k::ks,x::xs,y::ys,b,h=>by simp[GH]at h;rw[ah]at h;obtain⟨p,h1,h⟩:=h;rw[ah]at h;obtain⟨q,h2,h⟩:=h;simp[bI,sI,acI h1,LY h2,h]
 |[],_::_,_,_,h|[],[],_::_,_,h|_::_,[],_,_,h|_::_,_::_,[],_,h=>by simp[GH]at h
theorem acJ{x:DV X}{xs:List (DV X)}(h:QQ x=some xs):den x=.agg (bI xs):=by unfold QQ at h;split at h;cases h;rfl;cases h;rw[oZ];rfl;cases h
theorem aft{op:BinOp}{t:TypeId}{x y:DV X}(h:anl T op t x y k=some r):∃dv out,XV T op t (den x) (den y)=some out/\kT out.obs/\out.v=den dv/\out.upd=[]/\k dv [] [] []=some r:=by
 unfold anl at h;split at h;rename_i kd a yk b;split at h;rename_i hk;have⟨v,obs,h1,h2,h3,h4⟩:=aaL (X:=X) (op:=op) (kd:=kd) (a:=a) (b:=b);have fin:kT obs->k (GD op kd a b).1 [] [] []=some r->∃dv out,XV T op t (den (.c (.int kd) a:DV X)) (den (.c (.int yk) b:DV X))=some out/\kT out.obs/\out.v=den dv/\out.upd=[]/\k dv [] [] []=some r:=by intro ho hkk;refine⟨_,⟨.t (.sc v),[],obs⟩,?_,ho,h2.symm,rfl,hkk⟩;simp only[den,CT.tv,TV.av,XV];rw[aY hk,h1];rfl
 split at h;rename_i hn;exact fin (h4 hn) h;rename_i g hg;have⟨hgt,h⟩:=dU h;exact fin (h3 g hg hgt) h;cases h;split at h;exact⟨_,_,rfl,trivial,rfl,rfl,h⟩;exact⟨_,_,rfl,trivial,rfl,rfl,h⟩;exact⟨_,_,rfl,trivial,rfl,rfl,h⟩;exact⟨_,_,rfl,trivial,rfl,rfl,h⟩;have⟨hc,h⟩:=dU h;exact⟨_,_,rfl,show _<=maxLen from of_decide_eq_true hc,rfl,rfl,h⟩;cases h;rw[ah]at h;obtain⟨ti,h1,h⟩:=h;split at h;rename_i hk;refine⟨_,⟨.t (.sc (.bool _)),[],[]⟩,?_,trivial,rfl,rfl,h⟩;simp[XV,h1,hk];rfl;rename_i hk;refine⟨_,⟨.t (.sc (.bool _)),[],[]⟩,?_,trivial,rfl,rfl,h⟩;simp[XV,h1,hk];rfl;cases h;rw[ah]at h;obtain⟨xs,h1,h⟩:=h;rw[ah]at h;obtain⟨ys,h2,h⟩:=h;rw[ah]at h;obtain⟨ti,h3,h⟩:=h;split at h;cases h;rename_i hc;have⟨b,h4,h⟩:=ah.1 h;have h5:=LY h4;rw[acJ h1,acJ h2];split at h;refine⟨_,⟨.t (.sc (.bool b)),[],[]⟩,?_,trivial,rfl,rfl,h⟩;simp only[XV,h3,ai];rw[aW hc,h5];rfl;refine⟨_,⟨.t (.sc (.bool (!b))),[],[]⟩,?_,trivial,rfl,rfl,h⟩;simp only[XV,h3,ai];rw[aW hc,h5];rfl;cases h
theorem aiv{op:UnOp}{x:DV X}(h:TZ op x k=some r):∃dv out,TC op (den x)=some out/\kT out.obs/\out.v=den dv/\out.upd=[]/\k dv [] [] []=some r:=by unfold TZ at h;split at h;exact⟨_,_,rfl,trivial,rfl,rfl,h⟩;exact⟨_,_,rfl,trivial,rfl,rfl,h⟩;cases h
theorem QX(mx:Bool)(kd:IntKind):∀(l:List (DV X))(a n:Int),I8 mx kd a l=some n->Dm mx kd a (bI l)=some n
 |[],a,n,h=>h
 |x::l,a,n,h=>by
  cases x
  case c t y=>
   cases t
   case int k'=>
    simp only[I8]at h;simp only[bI,den,CT.tv,TV.av,Dm];split at h;rename_i hk;rw[aY hk];exact QX mx kd l _ _ h;cases h
   all_goals simp[I8]at h
  all_goals simp[I8]at h
theorem Zc{mx:Bool}{args:List (DV X)}(h:Pc mx args k=some r):∃dv out,Hs mx (bI args)=some out/\kT out.obs/\out.v=den dv/\out.upd=[]/\k dv [] [] []=some r:=by unfold Pc at h;split at h;rename_i kd a l;rw[ah]at h;obtain⟨n,h1,h⟩:=h;refine⟨_,⟨.t (.sc (.int kd n)),[],[]⟩,?_,trivial,rfl,rfl,h⟩;simp[bI,den,CT.tv,TV.av,Hs];have:=QX mx kd l a n h1;simp[this];rfl;cases h
theorem afu{t:TypeId}{x:DV X}(h:anm T t x k=some r):∃cp dv out,A4 T t (den x) cp=some out/\kT out.obs/\out.v=den dv/\out.upd=[]/\k dv [] [] []=some r:=by unfold anm at h;unfold A4;rw[ah]at h;obtain⟨ti,h1,h⟩:=h;simp[h1];split at h;rename_i e c l hk;simp[hk];exact⟨.num (l.length:Int),_,⟨.t (.sc (.int .i64 (l.length:Int))),[],[(l.length:Int)=((l.map (CT.row X.toSE c)).length:Int)]⟩,rfl,by simp[kT],rfl,rfl,h⟩;rename_i hk;simp[hk];exact⟨.none,_,_,rfl,trivial,rfl,rfl,h⟩;rename_i hk;simp[hk];exact⟨.none,_,_,rfl,trivial,rfl,rfl,h⟩;rename_i hk;simp[hk];exact⟨.none,_,_,rfl,trivial,rfl,rfl,h⟩;rename_i hk;simp[hk];exact⟨.none,_,_,rfl,trivial,rfl,rfl,h⟩;cases h
theorem OX(place:Nat->Option (Nat×Nat)):∀(parts:List (Nat×DV X))(cells out:List (DV X)),Za place cells parts=some out->EU place (bI cells) (parts.map λp=>(p.1,den p.2))=some (bI out)
 |[],cells,out,h=>by simp[Za]at h;subst h;rfl
 |(j,x)::ae,cells,out,h=>by simp[Za]at h;rw[ah]at h;obtain⟨⟨aa,size⟩,h1,h⟩:=h;rw[ah]at h;obtain⟨cs,h2,h⟩:=h;split at h;rename_i hl;simp only[bH,EU,h1,Dy h2,ai,iX];rw[aY hl,<- U0];exact OX place ae _ _ h;cases h
theorem aaM{t:TypeId}{parts:List (Nat×DV X)}(h:afp T t parts k=some r):∃dv out,Ug T t (parts.map λp=>(p.1,den p.2))=some out/\kT out.obs/\out.v=den dv/\out.upd=[]/\k dv [] [] []=some r:=by unfold afp at h;unfold Ug;rw[ah]at h;obtain⟨ti,h1,h⟩:=h;simp[h1];split at h;rename_i fs hk;split at h;rename_i ha;rw[ah]at h;obtain⟨cells,h2,h⟩:=h;have h3:=OX _ _ _ _ h2;rw[BQ]at h3;refine⟨_,⟨.agg (bI cells),[],[]⟩,?_,trivial,rfl,rfl,h⟩;simp only[hk];rw[aY ha,h3];rfl;cases h;rename_i m e hk;rw[ah]at h;obtain⟨ei,h2,h⟩:=h;rw[ah]at h;obtain⟨cells,h3,h⟩:=h;have h4:=OX _ _ _ _ h3;rw[BQ]at h4;refine⟨_,⟨.agg (bI cells),[],[]⟩,?_,trivial,rfl,rfl,h⟩;simp[hk,h2,h4];rfl;cases h
theorem Zd(size:Nat)(c:CT X.ι)(hs:CT.sz X c=size)(z:List AV):∀(parts:List (Nat×DV X))(n:Nat)(l:List (CT.T X.toSE c))(done:List (List AV)),Nm c n parts=some l->done.length=n->
 ∃css:List (List AV),Ls size (done++List.replicate parts.length z) (parts.map λp=>(p.1,den p.2))=some (done++css)/\css.map (λ r=>r.map wk)=aI (l.map (CT.row X.toSE c))
 |[],n,l,done,h,_=>by simp[Nm]at h;subst h;exact⟨[],by simp[Ls],rfl⟩
 |(j,x)::ae,n,l,done,h,hd=>by
  simp only[Nm]at h;split at h;rename_i hj;subst hj;have⟨y,h1,h⟩:=ah.1 h;have⟨l',h2,h⟩:=ah.1 h;cases h;have⟨cs,g1,g2⟩:=ait h1;have hl:cs.length=size:=by have:=congrArg List.length g2;simp[Gz]at this;omega
  obtain⟨css,i1,i2⟩:=Zd size c hs z ae (j+1) l' (done++[cs]) h2 (by simp[hd]);refine⟨cs::css,?_,?_⟩;simp only[bH,Ls,g1,ai];rw[aY ⟨hl,by simp;omega⟩];have:(done++List.replicate (ae.length+1) z).set j cs=done++[cs]++List.replicate ae.length z:=by rw[List.set_append_right _ _ (by omega),hd];simp[List.replicate_succ]
  simp only[fU,this,i1];simp;simp[i2,g2,aI];cases h
theorem LZ{t:TypeId}{len:Nat}{parts:List (Nat×DV X)}(h:GI T code i t len parts k=some r):∃dv u out,vI T i t len (parts.map λp=>(p.1,den p.2))=some out/\kT out.obs/\out.v=den dv/\out.upd=jy [(cC i,u)]/\k dv [(cC i,u)] [] []=some r:=by unfold GI at h;unfold vI;rw[ah]at h;obtain⟨ti,h1,h⟩:=h;simp[h1];split at h;rename_i e hk;rw[ah]at h;obtain⟨ei,h2,h⟩:=h;rw[ah]at h;obtain⟨c,h3,h⟩:=h;simp only[hk,h2,ai];split at h;cases h;rename_i hno;simp only[not_or,Decidable.not_not]at hno;obtain⟨n1,n2,n3,n4⟩:=hno;have⟨l,h4,h⟩:=ah.1 h;have⟨css,g1,g2⟩:=Zd ei.size c n3 (ei.zero.map cv) parts 0 l [] h4 rfl;simp[n4]at g1;refine⟨_,_,⟨.own (cC i) 0 len,[(cC i,some ⟨ei.size,dW css⟩)],[]⟩,?_,trivial,rfl,?_,h⟩;rw[aW (by simp only[not_or];exact⟨n1,n2⟩),g1];rfl;simp[jy,bK,n3];rw[show dW css=aI (l.map (CT.row X.toSE c))from g2];cases h
theorem aaN{e:TypeId}(h:afq T i e k=some r):∃dv u out,Uh T i e=some out/\kT out.obs/\out.v=den dv/\out.upd=jy [(cC i,u)]/\k dv [(cC i,u)] [] []=some r:=by unfold afq at h;unfold Uh;have⟨ti,h1,h⟩:=ah.1 h;exact⟨_,_,⟨_,[(cC i,some ⟨ti.size,[ti.zero.map cv]⟩)],[]⟩,by simp[h1];rfl,trivial,rfl,by simp[jy,bK,BQ],h⟩
theorem afv{x:DV X}(h:ano i x k=some r):∃dv u out,M3 i (den x)=some out/\kT out.obs/\out.v=den dv/\out.upd=jy [(cC i,u)]/\k dv [(cC i,u)] [] []=some r:=by unfold ano at h;unfold M3;rw[ah]at h;obtain⟨cs,h1,h⟩:=h;exact⟨_,_,⟨_,[(cC i,some ⟨(bI cs).length,[bI cs]⟩)],[]⟩,by simp[Dy h1];rfl,trivial,rfl,by simp[jy,bK,iX],h⟩
theorem BU{d n:Int}{x:Option (DV X)}(h:AW d x=some n):bnd d (x.map den)=some n:=by unfold AW at h;split at h;exact h;exact h;cases h
theorem Ze{l h:Int}{len:Nat}(hh:Aw l h len=true):0<=l/\l<=h/\h<=(len:Int):=by simpa[Aw,and_assoc]using hh
theorem aaO{t:TypeId}{x:DV X}{lo hi:Option (DV X)}(h:afr T t x lo hi get k=some r):∃cp rd dv out,Ui T t (den x) (lo.map den) (hi.map den) cp (dN rd (fO get))=some out/\kT out.obs/\out.v=den dv/\out.upd=[]/\k dv [] rd []=some r:=by
 unfold afr at h;unfold Ui;rw[ah]at h;obtain⟨ti,h1,h⟩:=h;simp[h1];split at h;rename_i e hk;rw[ah]at h;obtain⟨ei,h2,h⟩:=h;simp[hk,h2];split at h;rename_i kk aa len;rw[ah]at h;obtain⟨o,h3,h⟩:=h;split at h;rename_i hs;rw[ah]at h;obtain⟨l,h4,h⟩:=h;rw[ah]at h;obtain⟨hh,h5,h⟩:=h;have⟨h6,h⟩:=dU h;refine⟨.none,[kk],_,⟨.own kk (aa+l.toNat) (hh.toNat-l.toNat),[],[0<=l/\l<=hh/\hh<=(len:Int)]⟩,?_,Ze h6,rfl,rfl,h⟩;simp only[den,fB (List.mem_singleton_self kk) h3,ai];rw[aY hs,BU h4,ai,BU h5];rfl;cases h;rename_i c xs;split at h;rename_i hs;have⟨l,h4,h⟩:=ah.1 h;have⟨hh,h5,h⟩:=ah.1 h;have⟨h6,h⟩:=dU h;refine⟨.Bs ((sub xs l.toNat (hh.toNat-l.toNat)).map (CT.row X.toSE c)),[],_,⟨.t (.sl ((sub xs l.toNat (hh.toNat-l.toNat)).map (CT.row X.toSE c))),[],[0<=l/\l<=hh/\hh<=((xs.map (CT.row X.toSE c)).length:Int)/\(sub xs l.toNat (hh.toNat-l.toNat)).map (CT.row X.toSE c)=((xs.map (CT.row X.toSE c)).drop l.toNat).take (hh.toNat-l.toNat)/\(∀ q∈xs.map (CT.row X.toSE c),q.length=ei.size)]⟩,?_,?_,rfl,rfl,h⟩;simp only[den,CT.tv,TV.av,BU h4,ai];have h7:bnd ((xs.map (CT.row X.toSE c)).length:Int) (hi.map den)=some hh:=by have:=BU h5;simpa using this
 rw[h7];rfl;have⟨a1,a2,a3⟩:=Ze h6;refine⟨a1,a2,by simpa using a3,by simp[sub],λq hq=>?_⟩;obtain⟨y,_,rfl⟩:=mem_map.1 hq;rw[Gz];exact hs;cases h;cases h;cases h
end
section
variable {X:SX} {A:Type} {T:ed} {code:TypeId->Option (CT X.ι)} {get:Nat->Option (bu X)} {k:KK X A} {r:A} {i:Nat}
theorem jF{b c:CT X.ι}{l:List (CT.T X.toSE b)}{l':List (CT.T X.toSE c)}(h:lI (.sl b) (.sl c) l=some l'):CT.sz X b=CT.sz X c/\l.map (CT.row X.toSE b)=l'.map (CT.row X.toSE c):=by
 obtain⟨e,h⟩:=rG h
 grind
theorem acK{y:DV X}{c:CT X.ι}{n:Nat}{l:List (CT.T X.toSE c)}{rd:List Nat}(h:anp y c get=some (n,l,rd))(hl:l.length=n)(rd':List Nat)(hrd:∀j∈rd,j∈rd'):
 ∃ob,Uj (CT.sz X c) (den y) (dN rd' (fO get))=some (n,ob,aI (l.map (CT.row X.toSE c)))/\ob:=by unfold anp at h;split at h;rename_i kk aa len;rw[ah]at h;obtain⟨o,h1,h⟩:=h;split at h;rw[ah]at h;obtain⟨l1,h2,h⟩:=h;injection h with h;obtain⟨rfl,rfl,rfl⟩:=h;have⟨h3,h4⟩:=jF h2;refine⟨True,?_,trivial⟩;simp only[den,Uj,fB (hrd kk (by simp)) h1,ai,bK];rw[aY h3];simp[h4];simp[aI,sub];cases h;rename_i b l0;have⟨l1,h2,h⟩:=ah.1 h;injection h with h;simp at h;obtain⟨rfl,rfl,rfl⟩:=h;refine⟨∀ q∈l1.map (CT.row X.toSE c),q.length=CT.sz X c,?_,?_⟩;rw[(oD h2).1];simp[den,CT.tv,TV.av,Uj];intro q hq;obtain⟨z,_,rfl⟩:=mem_map.1 hq;exact Gz c z;cases h
theorem U4{lo len ln n bytes:Nat}(h:bP lo len ln n bytes=true):lo=len/\ln=n/\(len+n)*bytes<=140737488355328/\len+n<=maxLen:=by simpa[bP,and_assoc]using h
theorem pn{α:Type}(n:Nat)(l:List α):UY n l=l.drop n:=by cases n<;>rfl
theorem X9{t:TypeId}{x y:DV X}(h:aaI T code i t x y get k=some r):∃cp rd wr dv upd out,zJ T i t (den x) (den y) cp (dN rd (fO get))=some out/\kT out.obs/\out.v=den dv/\out.upd=jy upd/\(∀ p∈upd,p.1=cC i\/p.1∈wr)/\k dv upd rd wr=some r:=by
 unfold aaI at h;unfold zJ;rw[ah]at h;obtain⟨ti,h1,h⟩:=h;simp only[h1,ai];split at h;rename_i e hk;rw[ah]at h;obtain⟨ei,h2,h⟩:=h;rw[ah]at h;obtain⟨c,h3,h⟩:=h;simp only[hk,h2,ai];split at h;rename_i hs;rw[ah]at h;obtain⟨⟨n,l,rd⟩,h4,h⟩:=h;split at h;rename_i kk aa len;have⟨o,h5,h⟩:=ah.1 h;split at h;have⟨l1,h6,h⟩:=ah.1 h;have⟨h7,h⟩:=dU h;rw[pn]at h7 h;have hd:(aI (l1.map (CT.row X.toSE c))).drop aa=aI ((l1.drop aa).map (CT.row X.toSE c)):=by simp[aI]
 have⟨g1,g2,g3,g4⟩:=U4 h7;have⟨h8,h9⟩:=jF h6;obtain⟨ob,i1,i2⟩:=acK h4 g2 (kk::rd) (λ j hj=>by simp[hj]);have i3:=fB (rd:=kk::rd) (by simp) h5
 refine⟨.rows (aI ((l1.drop aa++l).map (CT.row X.toSE c))),kk::rd,[kk],_,_,⟨.own (cC i) 0 (aI ((l1.drop aa++l).map (CT.row X.toSE c))).length,[(cC i,some ⟨ei.size,aI ((l1.drop aa++l).map (CT.row X.toSE c))⟩),(kk,none)],
  [ob/\(aI ((l1.drop aa).map (CT.row X.toSE c))).length=len/\(aI (l.map (CT.row X.toSE c))).length=n/\aI ((l1.drop aa++l).map (CT.row X.toSE c))=aI ((l1.drop aa).map (CT.row X.toSE c))++aI (l.map (CT.row X.toSE c))/\(len+n)*ei.bytes<=140737488355328/\len+n<=maxLen]⟩,?_,?_,?_,?_,?_,h⟩
 rw[hs]at i1;simp only[i1,ai,den,i3,bK,h9,hd];rw[aY (by rw[h8,hs])];exact⟨i2,by simpa[aI]using g1,by simpa[aI]using g2,by simp[aI],g3,g4⟩;simp[den,aI];simp[jy,bK,hs];intro p hp;simp at hp;rcases hp with rfl|rfl;exact .inl rfl;exact .inr (by simp);cases h;have⟨h7,h⟩:=dU h;have⟨g1,g2,g3,g4⟩:=U4 h7;obtain⟨ob,i1,i2⟩:=acK h4 g2 rd (λ j hj=>hj)
 refine⟨.rows (aI (l.map (CT.row X.toSE c))),rd,[],_,_,⟨.own (cC i) 0 (aI (l.map (CT.row X.toSE c))).length,[(cC i,some ⟨ei.size,aI (l.map (CT.row X.toSE c))⟩)],
  [ob/\(aI (l.map (CT.row X.toSE c))).length=n/\aI (l.map (CT.row X.toSE c))=aI (l.map (CT.row X.toSE c))/\n*ei.bytes<=140737488355328/\n<=maxLen]⟩,?_,?_,?_,?_,?_,h⟩
 rw[hs]at i1;simp[i1,den];exact⟨i2,by simpa[aI]using g2,rfl,by simpa using g3,by simpa using g4⟩;simp[den,aI];simp[jy,bK,hs];intro p hp;simp at hp;rcases hp with rfl;exact .inl rfl;cases h;cases h;cases h
def an2(T:ed)(i:Nat)(o:Oper)(ρ:Operand->DV X)(get:Nat->Option (bu X))(k:KK X A)(r:A):Prop:=
 ∃cp rd wr dv upd out,qm T i o cp (λ x=>den (ρ x)) (dN rd (fO get))=some out/\kT out.obs/\out.v=den dv/\out.upd=jy upd/\(∀ p∈upd,p.1=cC i\/p.1∈wr)/\k dv upd rd wr=some r
theorem U5{b:Builtin}{args:List (DV X)}{cV:List TypeId}(h:UZ T code i b args cV get k=some r):∃cp rd wr dv upd out,BM T i b (bI args) cV cp (dN rd (fO get))=some out/\kT out.obs/\out.v=den dv/\out.upd=jy upd/\(∀ p∈upd,p.1=cC i\/p.1∈wr)/\k dv upd rd wr=some r:=by unfold UZ at h;unfold BM;split at h;have⟨cp,dv,out,h1,h2,h3,h4,h5⟩:=afu h;exact⟨cp,[],[],dv,[],out,h1,h2,h3,h4,by simp,h5⟩;have⟨dv,out,h1,h2,h3,h4,h5⟩:=Zc h;exact⟨.none,[],[],dv,[],out,h1,h2,h3,h4,by simp,h5⟩;have⟨dv,out,h1,h2,h3,h4,h5⟩:=Zc h;exact⟨.none,[],[],dv,[],out,h1,h2,h3,h4,by simp,h5⟩;split at h;rename_i htu;have⟨cp,rd,wr,dv,upd,out,h1,h2⟩:=X9 h;refine⟨cp,rd,wr,dv,upd,out,?_,h2⟩;simp only[bI];rw[aY htu];exact h1;cases h;cases h
theorem TA(ρ:Operand->DV X)(l:List Operand):l.map (λ x=>den (ρ x))=bI (l.map ρ):=by rw[nW,map_map];rfl
theorem Zf{o:Oper}{ρ:Operand->DV X}(h:O2 T code i o.op ρ get k=some r):an2 T i o ρ get k r:=by
 obtain⟨dst,op,ty,am,after,guard⟩:=o;unfold an2 qm;simp at h;unfold O2 at h;split at h;exact⟨.none,[],[],_,[],_,rfl,trivial,rfl,rfl,by simp,h⟩;exact⟨.none,[],[],_,[],_,rfl,trivial,rfl,rfl,by simp,h⟩;rename_i c a b;split at h;rename_i t hc;refine⟨.none,[],[],_,[],⟨Of t (den (ρ a)) (den (ρ b)),[],[]⟩,?_,trivial,(air t _ _).symm,rfl,by simp,h⟩;simp[hc,den,CT.tv,TV.av,pv];cases h;have⟨dv,u,out,h1,h2,h3,h4,h5⟩:=aaN h;exact⟨.none,[],[],dv,_,out,h1,h2,h3,h4,by simp,h5⟩;have⟨dv,u,out,h1,h2,h3,h4,h5⟩:=afv h;exact⟨.none,[],[],dv,_,out,h1,h2,h3,h4,by simp,h5⟩;rename_i t parts;have⟨dv,out,h1,h2,h3,h4,h5⟩:=aaM h;refine⟨.none,[],[],dv,[],out,?_,h2,h3,h4,by simp,h5⟩;rw[map_map]at h1;exact h1;rename_i t len parts;have⟨dv,u,out,h1,h2,h3,h4,h5⟩:=LZ h;refine⟨.none,[],[],dv,_,out,?_,h2,h3,h4,by simp,h5⟩;rw[map_map]at h1;exact h1;have⟨cp,rd,dv,out,h1,h2,h3,h4,h5⟩:=ais h;exact⟨cp,rd,[],dv,[],out,h1,h2,h3,h4,by simp,h5⟩;have⟨cp,kk,u,out,h1,h2,h3,h4,h5⟩:=aiu h;exact⟨cp,[kk],[kk],.undef,_,out,h1,h2,h3,h4,by simp,h5⟩;have⟨dv,out,h1,h2,h3,h4,h5⟩:=aft h;exact⟨.none,[],[],dv,[],out,h1,h2,h3,h4,by simp,h5⟩;have⟨dv,out,h1,h2,h3,h4,h5⟩:=aiv h;exact⟨.none,[],[],dv,[],out,h1,h2,h3,h4,by simp,h5⟩;rename_i f first caps
 refine⟨.none,[],[],_,[],⟨.fn f (first.toList.map λx=>den (ρ x)) (caps.toList.map λx=>den (ρ x)),[],[]⟩,rfl,trivial,?_,rfl,by simp,h⟩;simp[den,TA];rename_i t x lo hi;have⟨cp,rd,dv,out,h1,h2,h3,h4,h5⟩:=aaO h;refine⟨cp,rd,[],dv,[],out,?_,h2,h3,h4,by simp,h5⟩;simp at h1;exact h1;have⟨dv,out,h1,h2,h3,h4,h5⟩:=OV h;exact⟨.none,[],[],dv,[],out,h1,h2,h3,h4,by simp,h5⟩;have⟨dv,out,h1,h2,h3,h4,h5⟩:=aaK h;exact⟨.none,[],[],dv,[],out,h1,h2,h3,h4,by simp,h5⟩;have⟨cp,rd,dv,out,h1,h2,h3,h4,h5⟩:=OW h;exact⟨cp,rd,[],dv,[],out,h1,h2,h3,h4,by simp,h5⟩;have⟨dv,out,h1,h2,h3,h4,h5⟩:=U3 h;exact⟨.none,[],[],dv,[],out,h1,h2,h3,h4,by simp,h5⟩;rename_i b args cV;have⟨cp,rd,wr,dv,upd,out,h1,h2⟩:=U5 h;refine⟨cp,rd,wr,dv,upd,out,?_,h2⟩;simp[TA];exact h1;cases h
end
inductive Pt(ι:Type) where
 |v (c:CT ι)
 |o (k:Nat)
 |p (k:Nat)
 |nil
 |f (F:FuncId) (fs cs:List (Pt ι))
 |od (k:Nat)
 |mp (k:Nat)
 |oz (k:Nat)
 |a (ps:List (Pt ι))
inductive OP(ι:Type) where
 |l (c:CT ι)
 |m (k v:CT ι)
 |c (sz:Nat) (rows:List (List (Pt ι)))
section
variable {ι:Type}
mutual
def Pt.vars:Pt ι->List (CT ι)
 |.v c=>[c]
 |.a ps=>cJ ps
 |.f _ fs cs=>cJ fs++cJ cs
 |.od _=>[.int .i64]
 |_=>[]
def cJ:List (Pt ι)->List (CT ι)
 |[]=>[]
 |p::ps=>p.vars++cJ ps
end
def gO:List (Nat×Pt ι)->List (CT ι)
 |[]=>[]
 |p::ps=>p.2.vars++gO ps
def vK:List (List (Pt ι))->List (CT ι)
 |[]=>[]
 |r::rs=>cJ r++vK rs
def cX:List (Nat×OP ι)->List (CT ι)
 |[]=>[]
 |(_,.l c)::r=>.sl c::cX r
 |(_,.m k v)::r=>.mp k v::cX r
 |(_,.c _ rows)::r=>vK rows++cX r
end
section
variable {X:SX}
structure DC(X:SX) where
 c:CT X.ι
 x:CT.T X.toSE c
@[reducible] def VT:List (CT X.ι)->Type
 |[]=>Unit
 |[c]=>CT.T X.toSE c
 |c::c'::l=>CT.T X.toSE c×VT (c'::l)
def E7:(l:List (CT X.ι))->List (DC X)->Option (VT (X:=X) l)
 |[],[]=>some ()
 |[c],[d]=>lI d.c c d.x
 |c::c'::l,d::ds=>(lI d.c c d.x).bind λx=>(E7 (c'::l) ds).bind λv=>some (x,v)
 |_,_=>none
def vL:(l:List (CT X.ι))->VT (X:=X) l->List (DC X)
 |[],_=>[]
 |[c],x=>[⟨c,x⟩]
 |c::c'::l,v=>⟨c,v.1⟩::vL (c'::l) v.2
theorem acL{d:DC X}{c:CT X.ι}{x:CT.T X.toSE c}(h:lI d.c c d.x=some x):(⟨c,x⟩:DC X)=d:=by obtain⟨a,y⟩:=d;have⟨e,h⟩:=rG h;simp at e;subst e;subst h;rfl
theorem U6:∀{l:List (CT X.ι)}{ds:List (DC X)}{v:VT (X:=X) l},E7 l ds=some v->vL l v=ds
 |[],[],_,_=>rfl
 |[c],[d],v,h=>by simp[E7]at h;simp[vL,acL h]
 |c::c'::l,d::ds,v,h=>by simp[E7]at h;rw[ah]at h;obtain⟨x,h1,h⟩:=h;rw[ah]at h;obtain⟨v',h2,h⟩:=h;cases h;simp[vL,acL h1,U6 h2]
 |[],_::_,_,h|[_],[],_,h|[_],_::_::_,_,h|_::_::_,[],_,h=>by simp[E7]at h
theorem U7{c:CT X.ι}(x:CT.T X.toSE c):lI c c x=some x:=by unfold lI;split;rfl;rename_i h _;exact absurd rfl h
def Zg(d:DC X):Nat:=match lI d.c (.int .i64) d.x with|some x=>Int.toNat x|none=>0
section
variable (dg:Nat->Nat)
mutual
def eP:Pt X.ι->List (DC X)->DV X×List (DC X)
 |.v _,L=>match L with
  |d::r=>(.c d.c d.x,r)
  |[]=>(.undef,[])
 |.o k,L=>(.own k 0 (dg k),L)
 |.p k,L=>(.ptr k 0 0,L)
 |.mp k,L=>(.mp k,L)
 |.oz k,L=>(.oz k (dg k),L)
 |.nil,L=>(.nil,L)
 |.f F fs cs,L=>(.fn F (k8 fs L).1 (k8 cs (k8 fs L).2).1,(k8 cs (k8 fs L).2).2)
 |.od k,L=>match L with
  |d::r=>(.own k (Zg d) (dg k-Zg d),r)
  |[]=>(.undef,[])
 |.a ps,L=>(.agg (k8 ps L).1,(k8 ps L).2)
def k8:List (Pt X.ι)->List (DC X)->List (DV X)×List (DC X)
 |[],L=>([],L)
 |p::ps,L=>((eP p L).1::(k8 ps (eP p L).2).1,(k8 ps (eP p L).2).2)
end
def wB:List (Nat×Pt X.ι)->List (DC X)->List (Nat×DV X)
 |[],_=>[]
 |(t,p)::r,L=>(t,(eP dg p L).1)::wB r (eP dg p L).2
def vM:List (List (Pt X.ι))->List (DC X)->List (List (DV X))×List (DC X)
 |[],L=>([],L)
 |r::rs,L=>((k8 dg r L).1::(vM rs (k8 dg r L).2).1,(vM rs (k8 dg r L).2).2)
def bZ:List (Nat×OP X.ι)->List (DC X)->List (Nat×Option (bu X))
 |[],_=>[]
 |(k,.l _)::r,L=>match L with
  |⟨.sl c',x⟩::L=>(k,some (.ec c' x))::bZ r L
  |_=>[]
 |(k,.m _ _)::r,L=>match L with
  |⟨.mp kc vc,x⟩::L=>(k,some (.map kc vc x))::bZ r L
  |_=>[]
 |(k,.c sz rows)::r,L=>(k,some (.cells sz (vM dg rows L).1))::bZ r (vM dg rows L).2
end
def lens:List (Nat×OP X.ι)->List (DC X)->List (Nat×Nat)
 |[],_=>[]
 |(k,.l _)::r,L=>match L with
  |⟨.sl _,x⟩::L=>(k,List.length x)::lens r L
  |_=>[]
 |(_,.m _ _)::r,L=>lens r (L.drop 1)
 |(_,.c _ rows)::r,L=>lens r (L.drop (vK rows).length)
def lr:Nat->List (Pt X.ι)->List (Nat×Pt X.ι)
 |_,[]=>[]
 |n,p::ps=>(n,p)::lr (n+1) ps
theorem OY:∀(n:Nat)(ps:List (Pt X.ι)),gO (lr n ps)=cJ ps
 |_,[]=>rfl
 |n,p::ps=>by simp[lr,gO,cJ,OY (n+1) ps]
structure cM(X:SX) where
 mj:List (Pt X.ι)
 io:List (Nat×OP X.ι)
 fp:List (Pt X.ι)
 iz:List (Nat×OP X.ι)
 fn:VT (X:=X) (cJ mj++cX io)->Option (VT (X:=X) (gO (lr 0 fp)++cX iz))
def DF(O:List (Nat×OP X.ι))(L:List (DC X))(k:Nat):Nat:=(lk (lens O L) k).getD 0
def U8(ps:List (Pt X.ι))(O:List (Nat×OP X.ι))(L:List (DC X)):List (DV X):=(k8 (DF O (L.drop (cJ ps).length)) ps (L.take (cJ ps).length)).1
def Zh(ps:List (Pt X.ι))(O:List (Nat×OP X.ι))(L:List (DC X)):List (Nat×Option (bu X)):=bZ (DF O (L.drop (cJ ps).length)) O (L.drop (cJ ps).length)
def yA:List (DV X)->DV X
 |[d]=>d
 |ds=>.eR ds
def dI:List (Nat×Option (bu X))->List (Nat×bu X)
 |[]=>[]
 |(k,some o)::r=>(k,o)::dI r
 |(_,none)::r=>dI r
def oL(l:List (Nat×bu X)):List (Nat×aO):=l.map λp=>(p.1,bK p.2)
def cM.args(g:cM X)(v:VT (X:=X) (cJ g.mj++cX g.io)):List (DV X):=U8 g.mj g.io (vL _ v)
def cM.cy(g:cM X)(v:VT (X:=X) (cJ g.mj++cX g.io)):List (Nat×bu X):=dI (Zh g.mj g.io (vL _ v))
def cM.res(g:cM X)(r:VT (X:=X) (gO (lr 0 g.fp)++cX g.iz)):DV X:=yA (U8 g.fp g.iz (vL _ r))
def cM.outs(g:cM X)(r:VT (X:=X) (gO (lr 0 g.fp)++cX g.iz)):List (Nat×bu X):=dI (Zh g.fp g.iz (vL _ r))
def G3(P:Program)(f:FuncId)(g:cM X):Prop:=∀v r,g.fn v=some r->Gk P f (bI (g.args v)) ((g.cy v).map λp=>bK p.2) (oL (g.outs r)) (den (g.res r))
end
inductive AT(ι:Type) where
 |d (c:CT ι)
 |ref (c:CT ι)
 |dt (as:List (CT ι)) (r:CT ι)
 |mut (c:CT ι)
 |jz (c:CT ι)
 |nil
 deriving DecidableEq
def AT.im{ι:Type}:AT ι->Bool
 |.mut _|.jz _=>true
 |_=>false
def AT.pl{ι:Type}:AT ι->Bool
 |.mut _|.jz _|.nil=>false
 |_=>true
inductive RT(ι:Type) where
 |d (c:CT ι)
 |fresh (e:CT ι)
 |whole (j:Nat)
 |mu (c:CT ι)
 |mr (c:CT ι)
 |mv
def RT.out{ι:Type}:RT ι->Bool
 |.mu _|.mr _|.mv=>true
 |_=>false
section
variable (X:SX)
@[reducible] def AT.T:AT X.ι->Type
 |.d c=>CT.T X.toSE c
 |.ref c=>CT.T X.toSE c
 |.dt as r=>HL X.toSE as->Option (CT.T X.toSE r)
 |.mut c=>List (CT.T X.toSE c)
 |.jz c=>CT.T X.toSE c
 |.nil=>Unit
@[reducible] def RT.T:RT X.ι->Type
 |.d c=>CT.T X.toSE c
 |.fresh e=>List (CT.T X.toSE e)
 |.whole _=>Unit
 |.mu c=>List (CT.T X.toSE c)
 |.mr c=>CT.T X.toSE c
 |.mv=>Unit
@[reducible] def jo:List (AT X.ι)->Type
 |[]=>Unit
 |a::l=>AT.T X a×jo l
@[reducible] def sG:List (RT X.ι)->Type
 |[]=>Unit
 |[r]=>RT.T X r
 |r::r'::l=>RT.T X r×sG (r'::l)
structure b8 where
 args:List (AT X.ι)
 res:List (RT X.ι)
 fn:jo X args->Option (sG X res)
 gen:Option (cM X):=none
variable {X}
def eX:Nat->(l:List (AT X.ι))->jo X l->List AV
 |_,[],_=>[]
 |n,.d c::l,a=>(CT.tv X.toSE c a.1).av::eX n l a.2
 |n,.ref c::l,a=>.eo (CT.row X.toSE c a.1) 0::eX n l a.2
 |n,.dt as r::l,a=>den (.dt as r a.1:DV X)::eX n l a.2
 |n,.mut _::l,a=>.own n 0 (List.length a.1)::eX (n+1) l a.2
 |n,.jz _::l,a=>.ptr n 0 0::eX (n+1) l a.2
 |n,.nil::l,a=>.cN::eX n l a.2
abbrev yB(l:List (AT X.ι))(a:jo X l):List AV:=eX 0 l a
def uD(c:CT X.ι)(l:List (CT.T X.toSE c)):fw:=(CT.sz X c,l.map (CT.row X.toSE c))
def uE:(l:List (AT X.ι))->jo X l->List fw
 |[],_=>[]
 |.mut c::l,a=>uD c a.1::uE l a.2
 |.jz c::l,a=>uD c [a.1]::uE l a.2
 |.d _::l,a=>uE l a.2
 |.ref _::l,a=>uE l a.2
 |.dt _ _::l,a=>uE l a.2
 |.nil::l,a=>uE l a.2
def qI:(r:RT X.ι)->RT.T X r->List (Option fw)
 |.mu c,x=>[some (uD c x)]
 |.mr c,x=>[some (uD c [x])]
 |.mv,_=>[none]
 |_,_=>[]
def o6:(l:List (RT X.ι))->sG X l->List (Option fw)
 |[],_=>[]
 |[r],x=>qI r x
 |r::r'::l,x=>qI r x.1++o6 (r'::l) x.2
def Ya:(r:RT X.ι)->RT.T X r->List Nat
 |.mu _,x=>[List.length x]
 |.mr _,_=>[1]
 |.mv,_=>[0]
 |_,_=>[]
def yp:(l:List (RT X.ι))->sG X l->List Nat
 |[],_=>[]
 |[r],x=>Ya r x
 |r::r'::l,x=>Ya r x.1++yp (r'::l) x.2
def U9(ns:List Nat):(r:RT X.ι)->RT.T X r->List RC
 |.d c,x=>[.d (CT.tv X.toSE c x)]
 |.fresh e,l=>[.fresh (CT.sz X e) (l.map (CT.row X.toSE e))]
 |.whole j,_=>[.whole j (ns.getD j 0)]
 |_,_=>[]
def DI(ns:List Nat):(l:List (RT X.ι))->sG X l->List RC
 |[],_=>[]
 |[r],x=>U9 ns r x
 |r::r'::l,x=>U9 ns r x.1++DI ns (r'::l) x.2
def sM(l:List (RT X.ι))(x:sG X l):RV:=
 match DI (yp l x) l x with
 |[c]=>.one c
 |cs=>.eR cs
def pL(P:Program)(Γ:FuncId->Option (b8 X)):Prop:=
 ∀f s,Γ f=some s->eU P f/\(∀ a r,s.fn a=some r->p5 P f (yB s.args a) (uE s.args a) (o6 s.res r) (sM s.res r))/\∀g,s.gen=some g->G3 P f g
theorem an3:∀{l:List (AT X.ι)},(l.all λq=>q.pl)=true->(l.all λq=>!q.im)=true:=λ{l} h=>by rw[all_eq_true]at h ⊢;intro q hq;have:=h q hq;cases q<;>simp_all [AT.pl,AT.im]
theorem GJ:∀{l:List (AT X.ι)}{a:jo X l},(l.all λq=>!q.im)=true->uE l a=[]
 |[],_,_=>rfl
 |.d _::l,a,h|.ref _::l,a,h|.dt _ _::l,a,h=>GJ (l:=l) (by grind)
 |.mut _::l,a,h|.jz _::l,a,h=>by trivial
 |.nil::l,a,h=>GJ (l:=l) (by grind)
theorem acM{r:RT X.ι}{x:RT.T X r}(h:(!r.out)=true):qI r x=[]:=by cases r<;>first|rfl|trivial
theorem acN:∀{l:List (RT X.ι)}{x:sG X l},(l.all λq=>!q.out)=true->o6 l x=[]
 |[],_,_=>rfl
 |[r],x,h=>acM (by grind)
 |r::r'::l,x,h=>by simp only[all_cons,bC]at h;simp[o6,acM h.1];exact acN (l:=r'::l) (by grind)
mutual
def br:DV X->List Nat
 |.own k _ _=>[k]
 |.ptr k _ _=>[k]
 |.qt k _ _=>[k]
 |.tw k _ _ _ _=>[k]
 |.mp k=>[k]
 |.oz k _=>[k]
 |.agg cs=>aL cs
 |.eR cs=>aL cs
 |.fn _ first caps=>aL first++aL caps
 |_=>[]
def aL:List (DV X)->List Nat
 |[]=>[]
 |x::xs=>br x++aL xs
end
theorem zP(c:CT X.ι)(x:CT.T X.toSE c):refs (CT.tv X.toSE c x).av=[]:=by
 cases c<;>try rfl
 rename_i i;show fq ((X.row i x).map AV.t)=[];generalize X.row i x=l
 induction l with
 |nil=>rfl
 |cons y ys ih=>trivial
mutual
theorem iU:∀x:DV X,refs (den x)=br x
 |.c t x=>zP t x
 |.agg cs|.eR cs=>by simp[den,refs,br,jh cs]
 |.own _ _ _|.ptr _ _ _|.qt _ _ _|.mp _|.oz _ _|.tw _ _ _ _ _|.rp _ _ _|.xi _ _ _ _ _=>rfl
 |.fn f first caps=>by simp[den,refs,br,jh first,jh caps]
 |.dt _ _ _=>rfl
 |.raw v=>by simp[den,cv];split;rfl;split<;>rfl
 |.nil|.ub|.skip|.undef=>rfl
theorem jh:∀l:List (DV X),fq (bI l)=aL l
 |[]=>rfl
 |x::xs=>by simp[bI,fq,aL,iU x,jh xs]
end
def Va(get:Nat->Option (bu X))(d:DV X)(c:CT X.ι):Option (CT.T X.toSE c×List Bool):=
 match d,c with
 |.own kk aa len,.sl e=>(get kk).bind λo=>match o with
  |.ec b l=>(lI (.sl b) (.sl e) l).bind λ(l:List (CT.T X.toSE e))=>some (sub l aa len,[aE (sub l aa len).length len])
  |_=>none
 |.own kk aa len,.any=>(get kk).bind λo=>match o with
  |.ec b l=>some (.sl (List.map (CT.row X.toSE b) (sub l aa len)),[aE (sub l aa len).length len])
  |_=>none
 |.oz kk len,.sl e=>(get kk).bind λo=>match o with
  |.ec b l=>(lI (.sl b) (.sl e) l).bind λ(l:List (CT.T X.toSE e))=>some (sub l 0 len,[aE (sub l 0 len).length len])
  |_=>none
 |d,c=>(Kz d c).bind λx=>some (x,[])
def GK(get:Nat->Option (bu X)):List (DV X)->(l:List (CT X.ι))->Option (HL X.toSE l×List Bool)
 |[],[]=>some ((),[])
 |d::ds,c::l=>(Va get d c).bind λx=>(GK get ds l).bind λh=>some ((x.1,h.1),x.2++h.2)
 |_,_=>none
def Zi(get:Nat->Option (bu X))(d:DV X)(i:X.ι):Option (CT.T X.toSE (.st i)×List Bool):=
 match d with
 |.agg cs=>(GK get cs (X.cV i)).bind λh=>some (X.make i h.1,h.2)
 |.c a x=>(lI a (.st i) x).bind λx=>some (x,[])
 |_=>none
def EZ(get:Nat->Option (bu X))(d:DV X)(c:CT X.ι):Option (CT.T X.toSE c×List Bool):=
 match c with
 |.st i=>Zi get d i
 |c=>Va get d c
def aj4(get:Nat->Option (bu X))(d:DV X)(c:CT X.ι):Option (CT.T X.toSE c):=
 match d with
 |.ptr kk row 0=>(get kk).bind λo=>match o with
  |.cells _ rows=>(rows[row]?).bind λq=>if q.all (λ x=>match x with|.c _ _=>true|_=>false)then LW c q else none
  |_=>none
 |.rp a x 0=>lI a c x
 |_=>none
def ye:(l l':List (AT X.ι))->jo X l->jo X l'->jo X (l++l')
 |[],_,_,b=>b
 |_::l,l',a,b=>(a.1,ye l l' a.2 b)
def hlA:(as:List (CT X.ι))->HL X.toSE as->jo X (as.map AT.d)
 |[],_=>()
 |_::l,h=>(h.1,hlA l h.2)
def vN:List (AT X.ι)->Nat
 |[]=>0
 |q::l=>(if q.im then 1 else 0)+vN l
theorem sN:∀(n:Nat)(l l':List (AT X.ι))(a:jo X l)(b:jo X l'),eX n (l++l') (ye l l' a b)=eX n l a++eX (n+vN l) l' b
 |n,[],_,_,_=>rfl
 |n,.d c::l,l',a,b|n,.ref c::l,l',a,b|n,.dt as r::l,l',a,b=>by simp[eX,ye,sN n l l' a.2 b,vN,AT.im]
 |n,.mut c::l,l',a,b|n,.jz c::l,l',a,b=>by simp[eX,ye,sN (n+1) l l' a.2 b,vN,AT.im,Nat.add_assoc]
 |n,.nil::l,l',a,b=>by simp[eX,ye,sN n l l' a.2 b,vN,AT.im]
theorem OZ:∀(n:Nat)(as:List (CT X.ι))(h:HL X.toSE as),eX n (as.map AT.d) (hlA as h)=(HL.oE X.toSE as h).map TV.av
 |_,[],_=>rfl
 |n,c::l,h=>congrArg ((CT.tv X.toSE c h.1).av:: ·) (OZ n l h.2)
def am3{a b:CT X.ι}(h:a=b)(o:Option (CT.T X.toSE a)):Option (CT.T X.toSE b):=h ▸ o
def sO(get:Nat->Option (bu X))(pr:FuncId->List (DV X)->List (DV X)->(as:List (CT X.ι))->(r:CT X.ι)->Option ((HL X.toSE as->Option (CT.T X.toSE r))×List Bool)):List (DV X)->(l:List (AT X.ι))->Option (jo X l×List Bool)
 |[],[]=>some ((),[])
 |d::ds,.d c::l=>(EZ get d c).bind λx=>(sO get pr ds l).bind λh=>some ((x.1,h.1),x.2++h.2)
 |d::ds,.ref c::l=>(aj4 get d c).bind λx=>(sO get pr ds l).bind λh=>some ((x,h.1),h.2)
 |d::ds,.dt as r::l=>(match d with
  |.dt as' r' φ=>if h:as'=as/\r'=r then some (λ x=>am3 h.2 (φ (h.1 ▸ x)),[])else none
  |.fn f first caps=>pr f first caps as r
  |_=>none).bind λφ=>(sO get pr ds l).bind λq=>some ((φ.1,q.1),φ.2++q.2)
 |_,_=>none
def QY(Γ:FuncId->Option (b8 X))(get:Nat->Option (bu X)):Nat->List (DV X)->(l:List (AT X.ι))->Option (jo X l×List Bool)
 | 0,ds,l=>sO get (λ _ _ _ _ _=>none) ds l
 |n+1,ds,l=>sO get (λ f first caps as r=>(Γ f).bind λs=>match s with
   |⟨sa,[.d r'],fn,_⟩=>
    if h:r'=r/\sa=sa.take first.length++(as.map AT.d++sa.drop (first.length+as.length))/\first.length=0 then
     (QY Γ get n first (sa.take first.length)).bind λhf=>(QY Γ get n caps (sa.drop (first.length+as.length))).bind λhc=>
      some (λ x=>am3 h.1 (fn (h.2.1 ▸ ye _ _ hf.1 (ye _ _ (hlA as x) hc.1))),hf.2++hc.2)
    else none
   |_=>none) ds l
section
variable {P:Program} {Γ:FuncId->Option (b8 X)} {get:Nat->Option (bu X)} {rd:List Nat}
theorem iD{a b:List Prop}(h:∀p∈a,p)(h':∀p∈b,p):∀p∈a++b,p:=by grind
theorem GL{d:DV X}{c:CT X.ι}{x:CT.T X.toSE c×List Bool}(h:Va get d c=some x)(hc:∀b∈x.2,b=true)(hrd:∀j∈br d,j∈rd):∃hs obs,(∀ p∈obs,p)/\∀ae,oV P (dN rd (fO get)) (den d) (hs++ae)=some ((CT.tv X.toSE c x.1).av,ae,obs):=by
 have base:∀{d:DV X}{c:CT X.ι}{x:CT.T X.toSE c},Kz d c=some x->∃hs obs,(∀ p∈obs,p)/\∀ae,oV P (dN rd (fO get)) (den d) (hs++ae)=some ((CT.tv X.toSE c x).av,ae,obs):=by
  intro d c x h;unfold Kz at h;split at h;rw[(oD h).1];refine⟨[],[],by simp,λae=>?_⟩;simp;cases c<;>try rfl
  rename_i j;show oV P _ (.agg ((X.row j x).map AV.t)) ae=_;have:∀(l:List Tree)(hs:List LH),mU P (dN rd (fO get)) (l.map AV.t) hs=some (l.map AV.t,hs,[]):=by
   intro l
   induction l with
   |nil=>intro hs;rfl
   |cons y ys ih=>simp_all [mU,oV,ih]
  simp[oV,this];rfl;cases h;exact⟨[.emp],[],by simp,λae=>rfl⟩;cases h;exact⟨[.emp],[],by simp,λae=>rfl⟩;cases h
 unfold Va at h;split at h;rename_i kk aa len e;rw[ah]at h;obtain⟨o,h1,h⟩:=h;split at h;rename_i b l0;rw[ah]at h;obtain⟨l,h2,h⟩:=h;cases h;have h3:(sub l aa len).length=len:=by simpa[aE]using hc (aE (sub l aa len).length len) (by simp)
 have⟨h4,h5⟩:=jF h2;refine⟨[.rows ((sub l aa len).map (CT.row X.toSE e))],[(((bK (.ec b l0):aO).rows.drop aa).take len=aI ((sub l aa len).map (CT.row X.toSE e))/\((sub l aa len).map (CT.row X.toSE e)).length=len)],?_,λae=>?_⟩;intro p hp;simp only[bq]at hp;subst hp;refine⟨?_,by simpa using h3⟩;simp[bK,h5];simp[aI,sub];simp[den,oV,fB (hrd kk (by simp[br])) h1];rfl;cases h;rename_i kk aa len;rw[ah]at h;obtain⟨o,h1,h⟩:=h;split at h;rename_i b l0;cases h;have h3:(sub l0 aa len).length=len:=by simpa[aE]using hc (aE (sub l0 aa len).length len) (by simp)
 refine⟨[.rows ((sub l0 aa len).map (CT.row X.toSE b))],[(((bK (.ec b l0):aO).rows.drop aa).take len=aI ((sub l0 aa len).map (CT.row X.toSE b))/\((sub l0 aa len).map (CT.row X.toSE b)).length=len)],?_,λae=>?_⟩;intro p hp;simp only[bq]at hp;subst hp;refine⟨?_,by simpa using h3⟩;simp[bK];simp[aI,sub];simp[den,oV,fB (hrd kk (by simp[br])) h1];rfl;cases h;rename_i kk len e;rw[ah]at h;obtain⟨o,h1,h⟩:=h;split at h;rename_i b l0;have⟨l,h2,h⟩:=ah.1 h;cases h;have h3:(sub l 0 len).length=len:=by simpa[aE]using hc (aE (sub l 0 len).length len) (by simp)
 have⟨h4,h5⟩:=jF h2;refine⟨[.rows ((sub l 0 len).map (CT.row X.toSE e))],[(((bK (.ec b l0):aO).rows.drop 0).take len=aI ((sub l 0 len).map (CT.row X.toSE e))/\((sub l 0 len).map (CT.row X.toSE e)).length=len)],?_,λae=>?_⟩;intro p hp;simp only[bq]at hp;subst hp;refine⟨?_,by simpa using h3⟩;simp[bK,h5];simp[aI,sub];simp[den,oV,fB (hrd kk (by simp[br])) h1];rfl;cases h;have⟨y,h1,h⟩:=ah.1 h;cases h
 simp_all
theorem L6:∀{ds:List (DV X)}{l:List (CT X.ι)}{h:HL X.toSE l×List Bool},GK get ds l=some h->(∀ b∈h.2,b=true)->l.all CT.one=true->(∀ j∈aL ds,j∈rd)->
 ∃hs obs,(∀ p∈obs,p)/\∀ae,mU P (dN rd (fO get)) (bI ds) (hs++ae)=some ((HL.row X.toSE l h.1).map AV.t,ae,obs)
 |[],[],h,_,_,_,_=>⟨[],[],by simp,λae=>rfl⟩
 |d::ds,c::l,h,hr,hc,ha,hrd=>by simp[GK]at hr;have⟨x,h1,hr⟩:=ah.1 hr;have⟨g,h2,hr⟩:=ah.1 hr;cases hr;simp only[all_cons,bC]at ha;obtain⟨hs1,o1,p1,q1⟩:=GL (P:=P) (rd:=rd) h1 (λ b hb=>hc b (by grind)) (λ j hj=>hrd j (by simp[aL,hj]));obtain⟨hs2,o2,p2,q2⟩:=L6 h2 (λ b hb=>hc b (by grind)) ha.2 (λ j hj=>hrd j (by simp[aL,hj]));refine⟨hs1++hs2,o1++o2,iD p1 p2,λae=>?_⟩;simp only[bI,mU,aT,q1,ai,q2];show _=some ((CT.row X.toSE c x.1++HL.row X.toSE l g.1).map AV.t,ae,o1++o2);rw[List.map_append,<- Th ha.1 x.1];rfl
 |[],_::_,_,hr,_,_,_|_::_,[],_,hr,_,_,_=>by trivial
theorem zQ{d:DV X}{c:CT X.ι}{x:CT.T X.toSE c×List Bool}(h:EZ get d c=some x)(hc:∀b∈x.2,b=true)(hrd:∀j∈br d,j∈rd):∃hs obs,(∀ p∈obs,p)/\∀ae,oV P (dN rd (fO get)) (den d) (hs++ae)=some ((CT.tv X.toSE c x.1).av,ae,obs):=by
 cases c
 case st i=>
  replace h:Zi get d i=some x:=h
  cases d
  case agg cs=>
   simp[Zi]at h;rw[ah]at h;obtain⟨g,h1,h⟩:=h;cases h;obtain⟨hs,obs,p1,q1⟩:=L6 (P:=P) (rd:=rd) h1 hc (X.flat i) (λ j hj=>hrd j (by trivial));refine⟨hs,obs,p1,λae=>?_⟩;simp[den,oV,q1,CT.tv,TV.av];rw[X.gb]
  case c a y=>exact GL (c:=.st i) (x:=x) (by trivial) hc hrd
  all_goals cases h
 all_goals exact GL h hc hrd
theorem acO{d:DV X}{c:CT X.ι}{x:CT.T X.toSE c}(h:aj4 get d c=some x)(hrd:∀j∈br d,j∈rd):∃hs obs,(∀ p∈obs,p)/\∀ae,oV P (dN rd (fO get)) (den d) (hs++ae)=some (.eo (CT.row X.toSE c x) 0,ae,obs):=by
 unfold aj4 at h;split at h;rename_i kk row;rw[ah]at h;obtain⟨o,h1,h⟩:=h;split at h;rename_i sz rows;rw[ah]at h;obtain⟨q,h2,h⟩:=h;split at h;rename_i hq;refine⟨[.row (CT.row X.toSE c x)],[(bK (.cells sz rows):aO).rows[row]? =some ((CT.row X.toSE c x).map AV.t)],?_,λae=>?_⟩;intro p hp;simp only[bq]at hp;subst hp;simp only[bK,List.getElem?_map,h2,Option.map_some];rw[<- xS h,nW,map_map];congr 1;refine map_congr_left λy hy=>?_;have:=all_eq_true.1 hq y hy;cases y<;>first|exact(am2 _).symm|grind
 simp[den,oV,fB (hrd kk (by simp[br])) h1];cases h;cases h;rename_i a y;refine⟨[],[],by simp,λae=>?_⟩;simp[den,(oD h).2];rfl;cases h
theorem afx{n:Nat}{l l':List (AT X.ι)}(e:l=l')(b:jo X l):eX n l' (e ▸ b)=eX n l b:=by grind
theorem I9{pr:FuncId->List (DV X)->List (DV X)->(as:List (CT X.ι))->(r:CT X.ι)->Option ((HL X.toSE as->Option (CT.T X.toSE r))×List Bool)}:∀{ds:List (DV X)}{l:List (AT X.ι)}{a:jo X l×List Bool},sO get pr ds l=some a->(l.all λq=>!q.im)=true
 |[],[],_,_=>rfl
 |d::ds,.d c::l,a,h=>by simp[sO]at h;have⟨x,h1,h⟩:=ah.1 h;have⟨q,h2,h⟩:=ah.1 h;simpa[AT.im]using I9 h2
 |d::ds,.ref c::l,a,h=>by simp[sO]at h;have⟨x,h1,h⟩:=ah.1 h;have⟨q,h2,h⟩:=ah.1 h;simpa[AT.im]using I9 h2
 |d::ds,.dt as r::l,a,h=>by simp[sO]at h;have⟨x,h1,h⟩:=ah.1 h;have⟨q,h2,h⟩:=ah.1 h;simpa[AT.im]using I9 h2
 |_::_,.mut _::_,_,h|_::_,.jz _::_,_,h|_::_,.nil::_,_,h|[],_::_,_,h|_::_,[],_,h=>by trivial
theorem acP:∀{n:Nat}{ds:List (DV X)}{l:List (AT X.ι)}{a:jo X l×List Bool},QY Γ get n ds l=some a->(l.all λq=>!q.im)=true
 | 0,_,_,_,h|_+1,_,_,_,h=>I9 h
theorem aaQ:∀as:List (CT X.ι),((as.map AT.d).all λq=>!q.im)=true
 |[]=>rfl
 |_::l=>aaQ l
def an4(P:Program)(get:Nat->Option (bu X))(pr:FuncId->List (DV X)->List (DV X)->(as:List (CT X.ι))->(r:CT X.ι)->Option ((HL X.toSE as->Option (CT.T X.toSE r))×List Bool)):Prop:=
 ∀f first caps as r φ rd,pr f first caps as r=some φ->(∀ b∈φ.2,b=true)->(∀ j∈aL first++aL caps,j∈rd)->∃hs obs,(∀ p∈obs,p)/\∀ae,oV P (dN rd (fO get)) (.fn f (bI first) (bI caps)) (hs++ae)=some (den (.dt as r φ.1:DV X),ae,obs)
theorem sP{n:Nat}{pr:FuncId->List (DV X)->List (DV X)->(as:List (CT X.ι))->(r:CT X.ι)->Option ((HL X.toSE as->Option (CT.T X.toSE r))×List Bool)}(uc:an4 P get pr):∀{ds:List (DV X)}{l:List (AT X.ι)}{a:jo X l×List Bool},sO get pr ds l=some a->(∀ b∈a.2,b=true)->(∀ j∈aL ds,j∈rd)->
 ∃hs obs,(∀ p∈obs,p)/\∀ae,mU P (dN rd (fO get)) (bI ds) (hs++ae)=some (eX n l a.1,ae,obs)
 |[],[],_,_,_,_=>⟨[],[],by simp,λae=>rfl⟩
 |d::ds,.d c::l,a,h,hc,hrd=>by simp[sO]at h;have⟨x,h1,h⟩:=ah.1 h;have⟨q,h2,h⟩:=ah.1 h;cases h;obtain⟨hs1,o1,p1,q1⟩:=zQ (P:=P) (rd:=rd) h1 (λ b hb=>hc b (by grind)) (λ j hj=>hrd j (by simp[aL,hj]));obtain⟨hs2,o2,p2,q2⟩:=sP (n:=n) uc h2 (λ b hb=>hc b (by simp[hb])) (λ j hj=>hrd j (by simp[aL,hj]));refine⟨hs1++hs2,o1++o2,iD p1 p2,λae=>?_⟩;simp[bI,mU,q1,q2,eX]
 |d::ds,.ref c::l,a,h,hc,hrd=>by simp[sO]at h;rw[ah]at h;obtain⟨x,h1,h⟩:=h;rw[ah]at h;obtain⟨q,h2,h⟩:=h;cases h;obtain⟨hs1,o1,p1,q1⟩:=acO (P:=P) (rd:=rd) h1 (λ j hj=>hrd j (by simp[aL,hj]));obtain⟨hs2,o2,p2,q2⟩:=sP (n:=n) uc h2 hc (λ j hj=>hrd j (by simp[aL,hj]));refine⟨hs1++hs2,o1++o2,iD p1 p2,λae=>?_⟩;simp[bI,mU,q1,q2,eX]
 |d::ds,.dt as r::l,a,h,hc,hrd=>by
  simp[sO]at h;rw[ah]at h;obtain⟨φ,h1,h⟩:=h;rw[ah]at h;obtain⟨q,h2,h⟩:=h;cases h;have hd:∃hs obs,(∀ p∈obs,p)/\∀ae,oV P (dN rd (fO get)) (den d) (hs++ae)=some (den (.dt as r φ.1:DV X),ae,obs):=by
   cases d
   case dt as' r' ψ=>
    simp only at h1;split at h1;rename_i e;obtain⟨rfl,rfl⟩:=e;cases h1;exact⟨[],[],by simp,λae=>rfl⟩;cases h1
   case fn f first caps=>
    obtain⟨hs,obs,g1,g2⟩:=uc f first caps as r φ rd h1 (λ b hb=>hc b (by simp[hb])) (λ j hj=>hrd j (by simp only[aL,br,bL]at hj ⊢;exact .inl hj))
    exact⟨hs,obs,g1,λae=>by simp[den];exact g2 ae⟩
   all_goals simp at h1
  obtain⟨hs1,o1,p1,q1⟩:=hd;obtain⟨hs2,o2,p2,q2⟩:=sP (n:=n) uc h2 (λ b hb=>hc b (by simp[hb])) (λ j hj=>hrd j (by simp[aL,hj]));refine⟨hs1++hs2,o1++o2,iD p1 p2,λae=>?_⟩;simp[bI,mU,q1,q2,eX]
 |_::_,.mut _::_,_,h,_,_|_::_,.jz _::_,_,h,_,_|_::_,.nil::_,_,h,_,_|[],_::_,_,h,_,_|_::_,[],_,h,_,_=>by simp[sO]at h
theorem afy{n:Nat}:∀{l:List (AT X.ι)}(a:jo X l),l=[]->eX n l a=[]
 |_,_,rfl=>rfl
theorem rR(hΓ:pL P Γ):∀(m:Nat){n:Nat}{ds:List (DV X)}{l:List (AT X.ι)}{a:jo X l×List Bool}{rd:List Nat},QY Γ get m ds l=some a->(∀ b∈a.2,b=true)->(∀ j∈aL ds,j∈rd)->
 ∃hs obs,(∀ p∈obs,p)/\∀ae,mU P (dN rd (fO get)) (bI ds) (hs++ae)=some (eX n l a.1,ae,obs)
 | 0,n,ds,l,a,rd,h,hcs,hrd=>sP (λ _ _ _ _ _ _ _ h=>by cases h) h hcs hrd
 |m+1,n,ds,l,a,rd,h,hcs,hrd=>by
  refine sP (λ f first caps as r φ rd' hc hb IR=>?_) h hcs hrd;rw[ah]at hc;obtain⟨s,h1,hc⟩:=hc;split at hc;rename_i sa r' fn _;split at hc;rename_i e;obtain⟨rfl,e2,e3⟩:=e;have⟨hf,h2,hc⟩:=ah.1 hc;have⟨hcap,h3,hc⟩:=ah.1 hc;injection hc with hc;rw[<- hc]at hb;obtain⟨g1,g2,_⟩:=hΓ f _ h1;obtain⟨hs1,o1,p1,q1⟩:=rR hΓ m h2 (n:=0) (rd:=rd') (λ b hb'=>hb b (by simp[hb'])) (λ j hj=>IR j (by simp[hj]));obtain⟨hs2,o2,p2,q2⟩:=rR hΓ m h3 (n:=0+vN (sa.take first.length)+vN (as.map AT.d)) (rd:=rd') (λ b hb'=>hb b (by simp[hb'])) (λ j hj=>IR j (by simp[hj]));refine⟨.dt (λ ts u=>∃h x,φ.1 h=some x/\ts=HL.oE X.toSE as h/\u=CT.tv X.toSE r' x)::(hs1++hs2),o1++(o2++[eX 0 _ hf.1=[]/\eU P f/\∀args r,(∃ h x,φ.1 h=some x/\args=HL.oE X.toSE as h/\r=CT.tv X.toSE r' x)->tc P f (eX 0 _ hf.1++args.map TV.av++eX (0+vN (sa.take first.length)+vN (as.map AT.d)) _ hcap.1) (.one (.d r))]),?_,λae=>?_⟩;intro p hp;simp only[bL,bq]at hp;rcases hp with hp|hp|hp;exact p1 p hp;exact p2 p hp;subst hp;refine⟨afy _ (by rw[e3];rfl),g1,?_⟩;rintro args r ⟨x,y,hxy,rfl,rfl⟩;rw[<- hc]at hxy;have hxy':fn (e2 ▸ ye _ _ hf.1 (ye _ _ (hlA as x) hcap.1))=some y:=hxy;have:=g2 _ _ hxy';have hnm:(sa.all λq=>!q.im)=true:=by rw[e2,List.all_append,List.all_append,acP h2,acP h3,aaQ];rfl
  rw[GJ hnm,yB,afx e2.symm,sN,sN,OZ,<- aT]at this;exact UL this;simp[oV,q1,q2];rfl;cases hc;cases hc
end
end
def QZ(s:ByteArray)(n:Int):Option Int:=bif decide (0<=n)then(s[n.toNat]?).map λb=>(b.toNat:Int)else none
def wC(m:Int)(bytes:Nat):Bool:=decide (0<=m)&&decide (m.toNat*bytes<=140737488355328)&&decide (m.toNat<=maxLen)
def iq{K V:Type}(eq:K->K->Bool)(k:K):List (K×V)->Option V
 |[]=>none
 |p::r=>bif eq k p.1 then some p.2 else iq eq k r
def Fh{K V:Type}(eq:K->K->Bool)(k:K)(v:V):List (K×V)->List (K×V)
 |[]=>[(k,v)]
 |p::r=>bif eq k p.1 then(k,v)::r else p::Fh eq k v r
def iEq(a b:Int):Bool:=a==b
def fY(a b:ByteArray):Bool:=a.toList==b.toList
def bEq(a b:Bool):Bool:=a==b
section
variable {X:SX} {A:Type}
def L8:(c:CT X.ι)->Option (CT.T X.toSE c->CT.T X.toSE c->Bool)
 |.int _=>some iEq
 |.str=>some fY
 |.bool=>some bEq
 |_=>none
def E6{ι:Type}:A5->CT ι->Bool
 |.int a,.int b=>decide (a=b)
 |.str,.str=>true
 |.bool,.bool=>true
 |_,_=>false
def an5{ι:Type}:CT ι->Bool
 |.st _=>true
 |_=>false
theorem jA(a b:List (DV X)):bI (a++b)=bI a++bI b:=by simp[nW]
theorem rT(a b:List (Nat×Option (bu X))):jy (a++b)=jy a++jy b:=by simp[jy]
def L9(ab:List Nat):List (Nat×Option (bu X)):=ab.map λj=>(j,none)
theorem BV(ab:List Nat):jy (L9 (X:=X) ab)=ab.map λk=>(k,none):=by simp[jy,L9]
theorem Ja{ab:List Nat}{p:Nat×Option (bu X)}(h:p∈L9 ab):p.1∈ab:=by
 grind [L9]
variable (T:ed) (code:TypeId->Option (CT X.ι))
def afA:DV X->Bool
 |.nil=>true
 |_=>false
def G2(op:BinOp)(b:DV X)(yes:Bool)(k:KK X A):Option A:=
 match op with
 |.eql=>bif yes then k b [] [] []else k (.c .bool false) [] [] []
 |.neq=>bif yes then k b [] [] []else k (.c .bool true) [] [] []
 |_=>none
def anq(op:BinOp)(t:TypeId)(x:DV X)(k:KK X A):Option A:=
 (T t).bind λti=>match ti.k,x with
 |.slice _,.c (.sl _) l=>G2 op .ub (List.isEmpty l) k
 |.slice _,.own _ _ len=>G2 op .ub (len==0) k
 |.slice _,.oz _ len=>G2 op (.c .bool (op==.eql)) (len==0) k
 |.slice _,.nil=>G2 op (.c .bool (op==.eql)) true k
 |_,_=>none
def am4(s d:TypeId)(x:DV X)(k:KK X A):Option A:=
 (T s).bind λ_=>(T d).bind λdi=>match di.k,x with
 |.int kd,.c (.int _) n=>k (.c (.int kd) (kd.wrap (iN n))) [] [] []
 |_,_=>none
def aj5(t:TypeId)(x j:DV X)(k:KK X A):Option A:=
 (T t).bind λti=>match ti.k,x,j with
 |.str,.c .str s,.c (.int _) n=>(QZ s n).bind λb=>k (.c (.int .u8) b) [] [] []
 |.arr m e,.agg cs,.c (.int _) q=>(T e).bind λei=>bif ct q m then(GA ei.agg ei.size ((cs.drop (q.toNat*ei.size)).take ei.size)).bind λv=>k v [] [] []else none
 |_,_,_=>none
def Zj(t:TypeId)(x:DV X)(lo hi:Option (DV X))(k:KK X A):Option A:=
 (T t).bind λti=>match ti.k,x with
 |.slice e,.nil=>(T e).bind λ_=>(AW 0 lo).bind λl=>(AW 0 hi).bind λh=>bif decide (l=0)&&decide (h=0)then k .nil [] [] []else none
 |_,_=>none
def O3(i:Nat)(b:Builtin)(args:List (DV X))(cV:List TypeId)(get:Nat->Option (bu X))(k:KK X A):Option A:=
 match b,args,cV with
 |.cap,[.nil],[t]=>(T t).bind λti=>match ti.k with
  |.slice _=>k (.c (.int .i64) (0:Int)) [] [] []
  |_=>none
 |.clear,[.own kk aa _],[t]=>(T t).bind λti=>match ti.k with
  |.slice e=>(T e).bind λei=>(get kk).bind λo=>match o with
   |.ec c l=>if CT.sz X c=ei.size then k (.eR []) [(kk,some (.ec c (l.take aa)))] [kk] [kk]else none
   |_=>none
  |_=>none
 |.append,[.nil,.c (.int _) m],[t,u]=>(T t).bind λti=>(T u).bind λui=>match ti.k,ui.k with
  |.slice e,.int _=>(T e).bind λei=>(code e).bind λc=>if CT.sz X c=ei.size/\0<ei.size then(LW c (ei.zero.map wd)).bind λz=>
   bif wC (iN m) ei.bytes then k (.own (cC i) 0 m.toNat) [(cC i,some (.ec c (List.replicate m.toNat z)))] [] []else none else none
  |_,_=>none
 |_,_,_=>none
def O4(x:DV X)(k:KK X A):Option A:=
 match x with
 |.ptr kk r f=>k (.ptr kk r f) [] [] []
 |.qt kk n f=>k (.qt kk n f) [] [] []
 |.tw kk r f m n=>k (.tw kk r f m n) [] [] []
 |.rp c y f=>k (.rp c y f) [] [] []
 |_=>none
def aj6(i:Nat)(t:TypeId)(l c:DV X)(k:KK X A):Option A:=
 (T t).bind λti=>match ti.k,l,c with
 |.slice e,.c (.int _) n,.c (.int _) m=>(T e).bind λei=>(code e).bind λc=>if CT.sz X c=ei.size/\0<ei.size then(LW c (ei.zero.map wd)).bind λz=>
  bif decide (iN n<=iN m)&&(decide (0<=iN n)&&wC (iN m) ei.bytes)then k (.own (cC i) 0 n.toNat) [(cC i,some (.ec c (List.replicate n.toNat z)))] [] []else none else none
 |_,_,_=>none
def Vb(i:Nat)(t:TypeId)(k:KK X A):Option A:=
 (T t).bind λti=>match ti.k with
 |.map kt et=>(code kt).bind λkc=>(code et).bind λvc=>k (.mp (cC i)) [(cC i,some (.map kc vc []))] [] []
 |_=>none
def aaR(t:TypeId)(x key:DV X)(ok:Bool)(get:Nat->Option (bu X))(k:KK X A):Option A:=
 (T t).bind λti=>match ti.k,x with
 |.map kt et,.mp kk=>(T kt).bind λki=>(T et).bind λei=>(get kk).bind λo=>match o with
  |.map kc vc l=>(L8 kc).bind λeq=>(Kz key kc).bind λkv=>if E6 ki.k kc=true/\ei.agg=an5 vc/\ei.size=CT.sz X vc then(LW vc (ei.zero.map wd)).bind λz=>
   bif ok then k (.eR [.c vc ((iq eq kv l).getD z),.c .bool (iq eq kv l).isSome]) [] [kk] []else k (.c vc ((iq eq kv l).getD z)) [] [kk] []else none
  |_=>none
 |_,_=>none
def aaS(t:TypeId)(x key y:DV X)(get:Nat->Option (bu X))(k:KK X A):Option A:=
 (T t).bind λti=>match ti.k,x with
 |.map kt _,.mp kk=>(T kt).bind λki=>(get kk).bind λo=>match o with
  |.map kc vc l=>(L8 kc).bind λeq=>(Kz key kc).bind λkv=>(dat y vc).bind λv=>if E6 ki.k kc=true then k .undef [(kk,some (.map kc vc (Fh eq kv v l)))] [kk] [kk]else none
  |_=>none
 |_,_=>none
def an6(o:Op)(ρ:Operand->DV X):Bool:=
 match o with
 |.binOp _ _ _ y _=>afA (ρ y)
 |.convert _ _ _=>true
 |.index _ _ _=>true
 |.nilCheck _=>true
 |.makeSlice _ _ _=>true
 |.makeMap _ none=>true
 |.lookup _ _ _ _=>true
 |.mapUpdate _ _ _ _=>true
 |.slice _ x _ _ none=>afA (ρ x)
 |.call { callee:=.builtin b,args:=args,argTypes:=_ }=>match b,args.toList.map ρ with
  |.cap,_=>true
  |.clear,_=>true
  |.append,[_,.c (.int _) _]=>true
  |_,_=>false
 |_=>false
def anr(i:Nat)(o:Op)(ρ:Operand->DV X)(get:Nat->Option (bu X))(k:KK X A):Option A:=
 match o with
 |.binOp op t x y _=>if afA (ρ y)then anq T op t (ρ x) k else none
 |.convert s d x=>am4 T s d (ρ x) k
 |.index t x j=>aj5 T t (ρ x) (ρ j) k
 |.slice t x lo hi none=>Zj T t (ρ x) (lo.map ρ) (hi.map ρ) k
 |.nilCheck x=>O4 (ρ x) k
 |.makeSlice t l c=>aj6 T code i t (ρ l) (ρ c) k
 |.makeMap t none=>Vb T code i t k
 |.lookup t m x ok=>aaR T t (ρ m) (ρ x) ok get k
 |.mapUpdate t m x v=>aaS T t (ρ m) (ρ x) (ρ v) get k
 |.call { callee:=.builtin b,args:=args,argTypes:=cV }=>O3 T code i b (args.toList.map ρ) cV.toList get k
 |_=>none
def Nd(get:Nat->Option (bu X))(c:CT X.ι)(ρ:Operand->DV X)(x:Operand):DV X:=
 match EZ get (ρ x) c with
 |some y=>.c c y.1
 |none=>ρ x
def RE(get:Nat->Option (bu X))(c:CT X.ι)(ρ:Operand->DV X):List Operand->List Bool
 |[]=>[]
 |x::xs=>(match EZ get (ρ x) c with|some y=>y.2|none=>[])++RE get c ρ xs
def AS(get:Nat->Option (bu X))(c:CT X.ι)(ρ:Operand->DV X):List Operand->List Nat
 |[]=>[]
 |x::xs=>(match EZ get (ρ x) c with|some _=>br (ρ x)|none=>[])++AS get c ρ xs
def al1(o:Op)(ρ:Operand->DV X)(get:Nat->Option (bu X)):Option (CT X.ι):=
 match o with
 |.box t _=>code t
 |.assign x|.move x=>match ρ x with
  |.own kk _ _=>(get kk).bind λo=>match o with
   |.ec c _=>some (.sl c)
   |_=>none
  |_=>none
 |.buildSlice t _ _=>(T t).bind λti=>match ti.k with
  |.slice e=>code e
  |_=>none
 |.store t _ _=>code t
 |_=>none
def an7(o:Op)(ρ:Operand->DV X):Bool:=
 match o with
 |.buildSlice _ _ parts=>!(aL (parts.toList.map λp=>ρ p.2)).isEmpty
 |.store _ a x=>match ρ a with
  |.qt _ _ _=>!(br (ρ x)).isEmpty
  |_=>false
 |_=>false
def ant(i:Nat)(o:Op)(ρ:Operand->DV X)(get:Nat->Option (bu X))(k:KK X A):Option A:=
 if afd o then none else(al1 T code o ρ get).bind λc=>UW (RE get c ρ o.operands.toList)
  (O2 T code i o (Nd get c ρ) (λ j=>if j∈AS get c ρ o.operands.toList then none else get j) λdv upd rd wr=>
   k dv (upd++L9 (AS get c ρ o.operands.toList)) (rd++AS get c ρ o.operands.toList) (wr++AS get c ρ o.operands.toList))
def an8(o:Op)(ρ:Operand->DV X):Bool:=
 match o with
 |.indexAddr t x (.tmp _)=>match ρ x,T t with
  |.ptr _ _ _,some ti|.rp _ _ _,some ti=>match ti.k with
   |.arr _ e=>match T e with
    |some ei=>ei.size==1
    |none=>false
   |_=>false
  |_,_=>false
 |.load _ a=>match ρ a with
  |.tw _ _ _ _ _|.xi _ _ _ _ _=>true
  |_=>false
 |_=>false
def G1(c:CT X.ι):List (DV X)->Option (List (CT.T X.toSE c))
 |[]=>some []
 |.c a x::r=>(lI a c x).bind λy=>(G1 c r).bind λl=>some (y::l)
 |_=>none
def anu(o:Op)(ρ:Operand->DV X)(get:Nat->Option (bu X))(k:KK X A):Option A:=
 match o with
 |.indexAddr t x j=>(T t).bind λti=>match ti.k,ρ x,ρ j with
  |.arr m e,.ptr kk row aa,.c (.int _) n=>(T e).bind λei=>if ei.size=1 then bif ct n m then k (.tw kk row aa m n) [] [] []else none else none
  |.arr m e,.rp c y aa,.c (.int _) n=>(T e).bind λei=>if ei.size=1 then bif ct n m then k (.xi c y aa m n) [] [] []else none else none
  |_,_,_=>none
 |.load t a=>(T t).bind λti=>match ρ a with
  |.tw kk row aa m n=>if ti.size=1/\ti.agg=false then(code t).bind λc=>if c.one=true then(get kk).bind λo=>match o with
   |.cells _ rows=>(rows[row]?).bind λq=>(G1 c ((q.drop aa).take m)).bind λ(xs:List (CT.T X.toSE c))=>(bz xs n).bind λy=>k (.c c y) [] [kk] []
   |.ec _ _=>none
   |_=>none
   else none else none
  |.xi b y aa m n=>if ti.size=1/\ti.agg=false then(code t).bind λc=>if c.one=true then(G1 c (((uP b y).drop aa).take m)).bind λ(xs:List (CT.T X.toSE c))=>(bz xs n).bind λy=>k (.c c y) [] [] []
   else none else none
  |_=>none
 |_=>none
variable {T code}
def d8(P:Program)(T:ed)(i:Nat)(o:Oper)(ρ:Operand->DV X)(get:Nat->Option (bu X))(k:KK X A)(r:A):Prop:=
 ∃cp rd wr dv upd out,jZ P T i o cp (λ x=>den (ρ x)) (dN rd (fO get))=some out/\kT out.obs/\out.v=den dv/\out.upd=jy upd/\(∀ p∈upd,p.1=cC i\/p.1∈wr)/\k dv upd rd wr=some r
section
variable {P:Program} {get:Nat->Option (bu X)} {k:KK X A} {r:A} {i:Nat} {o:Oper} {ρ:Operand->DV X}
theorem aj8{t:TypeId}{x:AV}{cp:i8}(h:(∃ n,cp=.ext n)\/∃ab fr q,cp=.vA ab fr q):A4 T t x .none=A4 T t x cp:=by grind [A4]
theorem Vd{t:TypeId}{x j:AV}{cp:i8}{get:Nat->Option aO}(h:(∃ n,cp=.ext n)\/∃ab fr q,cp=.vA ab fr q):mE T t x j .none get=mE T t x j cp get:=by
 unfold mE;rcases T t with _|ti;rfl;simp;generalize ti.k=kk;cases kk<;>try rfl
 case arr m e=>
  grind
 cases j<;>try rfl
 rename_i e y;cases y<;>try rfl
 rename_i y;cases y<;>try rfl
 simp;rcases T e with _|ei;rfl;rcases h with ⟨n,rfl⟩|⟨ab,fr,q,rfl⟩<;>cases x<;>try rfl
 all_goals grind
theorem acR{t:TypeId}{x y:AV}{cp:i8}{get:Nat->Option aO}(h:(∃ n,cp=.ext n)\/∃ab fr q,cp=.vA ab fr q):zJ T i t x y .none get=zJ T i t x y cp get:=by grind [zJ]
theorem aiz{cp:i8}{ρ:Operand->AV}{get:Nat->Option aO}(h:(∃ n,cp=.ext n)\/∃ab fr q,cp=.vA ab fr q):qm T i o .none ρ get=qm T i o cp ρ get:=by
 obtain⟨dst,op,ty,am,after,guard⟩:=o;cases op
 case call c=>
  obtain⟨callee,args,cV⟩:=c;cases callee<;>try rfl
  simp[qm,BM];split;exact aj8 h;rfl;rfl;rw[acR h];rfl
 case slice t x lo hi mx=>cases mx<;>rcases h with ⟨n,rfl⟩|⟨ab,fr,q,rfl⟩<;>rfl
 case makeFunc fn a b=>cases fn<;>rfl
 case indexAddr t x j=>exact Vd h
 all_goals (rcases h with ⟨n,rfl⟩|⟨ab,fr,q,rfl⟩<;>rfl)
theorem d8.ext{n:Int}{rd wr:List Nat}{dv:DV X}{upd:List (Nat×Option (bu X))}{out:Out}(h:sJ T i o n (λ x=>den (ρ x)) (dN rd (fO get))=some out)(h1:kT out.obs)(h2:out.v=den dv)(h3:out.upd=jy upd)(h4:∀p∈upd,p.1=cC i\/p.1∈wr)(h5:k dv upd rd wr=some r)(hx:MY o.op=false:=by rfl):d8 P T i o ρ get k r:=
 ⟨.ext n,rd,wr,dv,upd,out,by show sK T i o n _ _=some out;unfold sK;grind,h1,h2,h3,h4,h5⟩
theorem d8.wc{n:Int}{rd wr:List Nat}{dv:DV X}{upd:List (Nat×Option (bu X))}{out:Out}(h:Dr T i o n (λ x=>den (ρ x)) (dN rd (fO get))=some out)(h1:kT out.obs)(h2:out.v=den dv)(h3:out.upd=jy upd)(h4:∀p∈upd,p.1=cC i\/p.1∈wr)(h5:k dv upd rd wr=some r)(hx:MY o.op=true:=by rfl):d8 P T i o ρ get k r:=
 ⟨.ext n,rd,wr,dv,upd,out,by show sK T i o n _ _=some out;unfold sK;grind,h1,h2,h3,h4,h5⟩
theorem RJ{x:DV X}(h:O4 x k=some r):∃dv,OH (den x)=some ⟨den dv,[],[]⟩/\k dv [] [] []=some r:=by cases x<;>simp[O4]at h<;>first|cases h|exact⟨_,rfl,h⟩
theorem Zk{cp:i8}{ρ:Operand->AV}{get:Nat->Option aO}(hne:∀f args cV,o.op≠.call { callee:=.value f,args:=args,argTypes:=cV })(ho:∀n,cp≠.ext n)(hf:∀ab fr q,cp≠.vA ab fr q):jZ P T i o cp ρ get=qm T i o cp ρ get:=by
 have e:∀(α:Type) (a:Operand->Array Operand->Array TypeId->α) (b:α),(match o.op with|.call { callee:=.value f,args:=args,argTypes:=cV }=>a f args cV|_=>b)=b:=by grind
 cases cp<;>first|grind|omega|exact e _ _ _
theorem d8.op{cp:i8}{rd wr:List Nat}{dv:DV X}{upd:List (Nat×Option (bu X))}{out:Out}(hne:∀f args cV,o.op≠.call { callee:=.value f,args:=args,argTypes:=cV })
 (h:qm T i o cp (λ x=>den (ρ x)) (dN rd (fO get))=some out) (h1:kT out.obs/\out.v=den dv/\out.upd=jy upd/\(∀ p∈upd,p.1=cC i\/p.1∈wr)/\k dv upd rd wr=some r):d8 P T i o ρ get k r:=by
 obtain⟨vl,h'⟩:∃vl,jZ P T i o vl (λ x=>den (ρ x)) (dN rd (fO get))=some out:=by by_cases hx:(∃ n,cp=.ext n)\/∃ab fr q,cp=.vA ab fr q;refine⟨.none,?_⟩;rw[Zk hne (by simp) (by simp),aiz hx,h];simp at hx;exact⟨cp,by rw[Zk hne hx.1 (λ ab fr q=>hx.2 ab fr q),h]⟩
 exact⟨vl,rd,wr,dv,upd,out,h',h1⟩
theorem d8.call{dst:Option Tmp}{f:Operand}{args:Array Operand}{cV:Array TypeId}{ty:TypeId}{am:String}{after:Array Edge}{guard:Option (Nat×Bool)}{cp:i8}{rd wr:List Nat}{dv:DV X}{upd:List (Nat×Option (bu X))}{out:Out}
 (h:lU P i (den (ρ f)) (args.toList.map λx=>den (ρ x)) cp (dN rd (fO get))=some out) (h1:kT out.obs/\out.v=den dv/\out.upd=jy upd/\(∀ p∈upd,p.1=cC i\/p.1∈wr)/\k dv upd rd wr=some r):
 d8 P T i ⟨dst,.call { callee:=.value f,args:=args,argTypes:=cV },ty,am,after,guard⟩ ρ get k r:=by
 refine⟨cp,rd,wr,dv,upd,out,?_,h1⟩;unfold jZ
 all_goals grind [lU,qH,zL]
theorem Jb{op:BinOp}{b:DV X}{yes:Bool}(h:G2 op b yes k=some r):∃dv out,Fm op (den b) yes=some out/\kT out.obs/\out.v=den dv/\out.upd=[]/\k dv [] [] []=some r:=by
 unfold G2 at h;split at h;cases yes with
 |true=>exact⟨b,_,rfl,trivial,rfl,rfl,h⟩
 |false=>exact⟨.c .bool false,_,rfl,trivial,rfl,rfl,h⟩
 cases yes with
 |true=>exact⟨b,_,rfl,trivial,rfl,rfl,h⟩
 |false=>exact⟨.c .bool true,_,rfl,trivial,rfl,rfl,h⟩
 cases h
theorem afB{op:BinOp}{t:TypeId}{x:DV X}(h:anq T op t x k=some r):∃dv out,AM T op t (den x) .cN=some out/\kT out.obs/\out.v=den dv/\out.upd=[]/\k dv [] [] []=some r:=by unfold anq at h;rw[ah]at h;obtain⟨ti,h1,h⟩:=h;split at h;rename_i e c l hk;have⟨dv,out,g1,g2⟩:=Jb h;refine⟨dv,out,?_,g2⟩;simp[AM,h1,hk];rw[<- g1];cases l<;>rfl;rename_i e kk aa len hk;have⟨dv,out,g1,g2⟩:=Jb h;exact⟨dv,out,by simp[AM,h1,hk];exact g1,g2⟩;rename_i e kk len hk;have⟨dv,out,g1,g2⟩:=Jb h;exact⟨dv,out,by simp[AM,h1,hk];exact g1,g2⟩;rename_i e hk;have⟨dv,out,g1,g2⟩:=Jb h;exact⟨dv,out,by simp[AM,h1,hk];exact g1,g2⟩;cases h
theorem afC{s:ByteArray}{n b:Int}(h:QZ s n=some b):0<=n/\∃c,s[n.toNat]? =some c/\b=c.toNat:=by
 unfold QZ at h
 grind
theorem Zl{m:Int}{bytes:Nat}(h:wC m bytes=true):0<=m/\m.toNat*bytes<=140737488355328/\m.toNat<=maxLen:=by
 simp_all [wC,and_assoc]
theorem RL{b:Builtin}{args:List (DV X)}{cV:List TypeId}(h:O3 T code i b args cV get k=some r):
 ∃rd wr dv upd out,uM T i b (bI args) cV (dN rd (fO get))=some out/\kT out.obs/\out.v=den dv/\out.upd=jy upd/\(∀ p∈upd,p.1=cC i\/p.1∈wr)/\k dv upd rd wr=some r:=by unfold O3 at h;split at h;rw[ah]at h;obtain⟨ti,h1,h⟩:=h;split at h;rename_i e hk;refine⟨[],[],_,[],⟨.t (.sc (.int .i64 0)),[],[]⟩,?_,trivial,rfl,rfl,by simp,h⟩;simp[uM,bI,den,h1,hk];rfl;cases h;rename_i kk aa len t;rw[ah]at h;obtain⟨ti,h1,h⟩:=h;split at h;rename_i e hk;rw[ah]at h;obtain⟨ei,h2,h⟩:=h;rw[ah]at h;obtain⟨o,h3,h⟩:=h;split at h;rename_i c l;split at h;rename_i hs;refine⟨[kk],[kk],_,_,⟨.eR [],[(kk,some ⟨CT.sz X c,(aI (l.map (CT.row X.toSE c))).take aa⟩)],[]⟩,?_,trivial,rfl,?_,by simp,h⟩;simp only[uM,bI,den,h1,ai,hk,h2,fB (List.mem_singleton_self kk) h3,bK];rw[aY hs];simp[jy,bK,aI];cases h;cases h;cases h;rename_i kd m t u;rw[ah]at h;obtain⟨ti,h1,h⟩:=h;rw[ah]at h;obtain⟨ui,h2,h⟩:=h;split at h;rename_i e kn hk hk';rw[ah]at h;obtain⟨ei,h3,h⟩:=h;rw[ah]at h;obtain⟨c,h4,h⟩:=h;split at h;rename_i hs;have⟨z,h5,h⟩:=ah.1 h;have⟨h6,h⟩:=dU h;have⟨m1,m2,m3⟩:=Zl h6;have hz:=xS h5;rw[BQ]at hz;refine⟨[],[],_,_,⟨.own (cC i) 0 m.toNat,[(cC i,some ⟨ei.size,dW (List.replicate m.toNat (ei.zero.map cv))⟩)],[0<=m/\m.toNat*ei.bytes<=140737488355328/\m.toNat<=maxLen/\0<ei.size]⟩,?_,?_,rfl,?_,by simp,h⟩;simp[uM,bI,den,CT.tv,TV.av,h1,h2,h3,hk,hk'];exact⟨m1,m2,m3,hs.2⟩;simp only[jy,bH,map_nil,Option.map_some,bK,hs.1,aI,dW,List.map_replicate];rw[hz];cases h;cases h;cases h
theorem acS{t:TypeId}{l c:DV X}(h:aj6 T code i t l c k=some r):∃dv upd out,N6 T i t (den l) (den c)=some out/\kT out.obs/\out.v=den dv/\out.upd=jy upd/\(∀ p∈upd,p.1=cC i)/\k dv upd [] []=some r:=by unfold aj6 at h;rw[ah]at h;obtain⟨ti,h1,h⟩:=h;split at h;rename_i e kl n kc m hk;rw[ah]at h;obtain⟨ei,h3,h⟩:=h;rw[ah]at h;obtain⟨c,h4,h⟩:=h;split at h;rename_i hs;rw[ah]at h;obtain⟨z,h5,h⟩:=h;have⟨h6,h⟩:=dU h;simp at h6;obtain⟨h7,h8,h9⟩:=h6;have⟨m1,m2,m3⟩:=Zl h9;have hz:=xS h5;rw[BQ]at hz;refine⟨_,_,⟨.own (cC i) 0 n.toNat,[(cC i,some ⟨ei.size,dW (List.replicate n.toNat (ei.zero.map cv))⟩)],[0<=n/\n<=m/\m.toNat*ei.bytes<=140737488355328/\m.toNat<=maxLen/\0<ei.size]⟩,?_,?_,rfl,?_,by simp,h⟩;simp[N6,den,CT.tv,TV.av,h1,h3,hk];exact⟨h8,h7,m2,m3,hs.2⟩;simp only[jy,bH,map_nil,Option.map_some,bK,hs.1,aI,dW,List.map_replicate];rw[hz];cases h;cases h
theorem Ve{t:TypeId}(h:Vb T code i t k=some r):∃dv upd out,Gw T i t=some out/\kT out.obs/\out.v=den dv/\out.upd=jy upd/\(∀ p∈upd,p.1=cC i)/\k dv upd [] []=some r:=by unfold Vb at h;rw[ah]at h;obtain⟨ti,h1,h⟩:=h;split at h;rename_i kt et hk;have⟨kc,h2,h⟩:=ah.1 h;have⟨vc,h3,h⟩:=ah.1 h;exact⟨_,_,⟨.mp (cC i),[(cC i,some ⟨0,[]⟩)],[]⟩,by simp[Gw,h1,hk],trivial,rfl,rfl,by simp,h⟩;cases h
theorem aj9{ki:px}{kc:CT X.ι}(h:E6 ki.k kc=true)(x:CT.T X.toSE kc):∃v,(CT.tv X.toSE kc x).av=.t (.sc v)/\LD ki.k v=true:=by
 cases kc
 case int b=>
  refine⟨.int b x,rfl,?_⟩;cases hk:ki.k<;>rw[hk]at h<;>simp[E6]at h
  grind [LD]
 case str=>
  refine⟨.string x,rfl,?_⟩;cases hk:ki.k<;>rw[hk]at h<;>simp[E6]at h;rfl
 case bool=>
  refine⟨.bool x,rfl,?_⟩;cases hk:ki.k<;>rw[hk]at h<;>simp[E6]at h;rfl
 all_goals (cases hk:ki.k<;>rw[hk]at h<;>simp[E6]at h)
theorem acT{kc:CT X.ι}{eq:CT.T X.toSE kc->CT.T X.toSE kc->Bool}(h:L8 kc=some eq){a b:CT.T X.toSE kc}{va:Value}(ha:(CT.tv X.toSE kc a).av=.t (.sc va)):∃vb,(CT.tv X.toSE kc b).av=.t (.sc vb)/\QJ va vb=some (eq a b):=by
 cases kc
 case int q=>
  simp[L8]at h;subst h
  grind [CT.tv,TV.av,QJ,iEq]
 case str=>
  simp[L8]at h;subst h
  grind [CT.tv,TV.av,QJ,fY]
 case bool=>
  simp[L8]at h;subst h
  grind [CT.tv,TV.av,QJ,bEq]
 all_goals simp[L8]at h
theorem Zm{kc vc:CT X.ι}{eq:CT.T X.toSE kc->CT.T X.toSE kc->Bool}(h:L8 kc=some eq){a:CT.T X.toSE kc}{va:Value}(ha:(CT.tv X.toSE kc a).av=.t (.sc va)):∀l:List (CT.T X.toSE kc×CT.T X.toSE vc),
 ∃r,QK va (bK (.map kc vc l:bu X)).rows=some r/\r.map (·.2)=(iq eq a l).map λv=>(CT.tv X.toSE vc v).av
 |[]=>⟨none,rfl,rfl⟩
 |p::l=>by
  have⟨vb,h1,h2⟩:=acT h (b:=p.1) ha;have⟨r,g1,g2⟩:=Zm h ha l;have g1':QK va (l.map λp=>[(CT.tv X.toSE kc p.1).av,(CT.tv X.toSE vc p.2).av])=some r:=g1;simp[bK,h1,QK,h2,iq];cases eq a p.1 with
  |true=>grind
  |false=>
   simp only[Bool.false_eq_true,if_false,g1',Option.map_some,au];exact⟨_,rfl,by rw[<- g2,Option.map_map];rfl⟩
theorem acU{kc vc:CT X.ι}{eq:CT.T X.toSE kc->CT.T X.toSE kc->Bool}(h:L8 kc=some eq){a:CT.T X.toSE kc}{va:Value}(ha:(CT.tv X.toSE kc a).av=.t (.sc va))(y:CT.T X.toSE vc):∀l:List (CT.T X.toSE kc×CT.T X.toSE vc),
 ym va (CT.tv X.toSE vc y).av (bK (.map kc vc l:bu X)).rows=some (bK (.map kc vc (Fh eq a y l):bu X)).rows
 |[]=>by simp[bK,ym,Fh,ha]
 |p::l=>by
  have⟨vb,h1,h2⟩:=acT h (b:=p.1) ha;have g:=acU h ha y l;have g':ym va (CT.tv X.toSE vc y).av (l.map λp=>[(CT.tv X.toSE kc p.1).av,(CT.tv X.toSE vc p.2).av])=some ((Fh eq a y l).map λp=>[(CT.tv X.toSE kc p.1).av,(CT.tv X.toSE vc p.2).av]):=g;simp[bK,h1,ym,Fh]
  grind
theorem zero_den{vc:CT X.ι}{ei:px}{z:CT.T X.toSE vc}(h:LW vc (ei.zero.map wd)=some z)(ha:ei.agg=an5 vc)(hs:ei.size=CT.sz X vc):part' ei.agg ei.size ((ei.zero.map cv).map wk)=some (CT.tv X.toSE vc z).av:=by
 have hz:=xS h;rw[BQ]at hz;rw[hz,ha,hs];have hl:((CT.row X.toSE vc z).map AV.t).length=CT.sz X vc:=by rw[length_map,Gz]
 unfold part';rw[aY hl];cases vc<;>rfl
theorem al2{d:DV X}{c:CT X.ι}{x:CT.T X.toSE c}(h:dat d c=some x):GB (den d)=(CT.tv X.toSE c x).av:=by
 cases c
 case st j=>
  replace h:Fi d j=some x:=h
  cases d
  case agg cs=>
   simp[Fi]at h;rw[ah]at h;obtain⟨g,h1,h⟩:=h;cases h;simp[den,GB,(yw h1 (X.flat j)).1];rw[<- U1];rfl
  case c a y=>
   rw[(oD h).1];simp only[den,CT.tv,TV.av,GB,map_map];congr 1
  all_goals cases h
 all_goals
  (have h':=h
   have hd:=vJ h';cases d
   case c a y=>
    obtain⟨e,_⟩:=rG (show lI a _ y=some x from h);subst e;exact hd
   all_goals first|exact hd|(cases h))
theorem Yb{t:TypeId}{x key:DV X}{ok:Bool}(h:aaR T t x key ok get k=some r):∃rd dv out,I6 T t (den x) (den key) ok (dN rd (fO get))=some out/\kT out.obs/\out.v=den dv/\out.upd=[]/\k dv [] rd []=some r:=by
 unfold aaR at h;rw[ah]at h;obtain⟨ti,h1,h⟩:=h;split at h
 ·rename_i kt et kk hk;rw[ah]at h;obtain⟨ki,h2,h⟩:=h;rw[ah]at h;obtain⟨ei,h3,h⟩:=h;rw[ah]at h;obtain⟨o,h4,h⟩:=h;split at h
  ·rename_i kc vc l;rw[ah]at h;obtain⟨eq,h5,h⟩:=h;rw[ah]at h;obtain⟨kv,h6,h⟩:=h;split at h
   ·rename_i hc;have⟨z,h7,h⟩:=ah.1 h;have⟨va,g1,g2⟩:=aj9 hc.1 kv;have⟨q,g3,g4⟩:=Zm (vc:=vc) h5 g1 l;have hkey:den key=.t (.sc va):=(by have:=vJ h6;rw[g1]at this;cases hd:den key<;>rw[hd]at this<;>simp only[wk,AV.t.injEq,reduceCtorEq]at this;subst this;rfl);have hv:∀q:Option (Nat×AV),q.map (·.2)=(iq eq kv l).map (λ v=>(CT.tv X.toSE vc v).av)->HK q (part' ei.agg ei.size ((ei.zero.map cv).map wk))=some (CT.tv X.toSE vc ((iq eq kv l).getD z)).av:=by
     intro q g;cases hm:iq eq kv l with
     |none=>
      rw[hm]at g;cases q with
      |none=>exact zero_den h7 hc.2.1 hc.2.2
      |some p=>simp at g
     |some v=>
      rw[hm]at g;cases q with
      |none=>simp at g
      |some p=>simp only[Option.map_some,bM]at g;simp only[HK,g,Option.getD_some]
    have hi:q.isSome=(iq eq kv l).isSome:=(by have:=congrArg Option.isSome g4;simpa using this);have hb:I6 T t (den (.mp kk:DV X)) (den key) ok (dN [kk] (fO get))=pv (if ok then .eR [den (.c vc ((iq eq kv l).getD z):DV X),.t (.sc (.bool q.isSome))]else den (.c vc ((iq eq kv l).getD z):DV X)):=(by simp only[I6,h1,ai,hk,den,hkey,h2,h3,fB (List.mem_singleton_self kk) h4];rw[aY ⟨g2,by simp[bK]⟩,g3,ai,hv q g4,ai]);cases ok with
    |true=>exact⟨[kk],_,_,hb,trivial,by simp only[if_true,den,bI,hi];rfl,rfl,h⟩
    |false=>exact⟨[kk],_,_,hb,trivial,rfl,rfl,h⟩
   ·cases h
  ·cases h
 ·cases h
theorem Yc{t:TypeId}{x key y:DV X}(h:aaS T t x key y get k=some r):∃rd wr dv upd out,I7 T t (den x) (den key) (den y) (dN rd (fO get))=some out/\kT out.obs/\out.v=den dv/\out.upd=jy upd/\(∀ p∈upd,p.1∈wr)/\k dv upd rd wr=some r:=by
 unfold aaS at h;rw[ah]at h;obtain⟨ti,h1,h⟩:=h;split at h
 ·rename_i kt et kk hk;rw[ah]at h;obtain⟨ki,h2,h⟩:=h;rw[ah]at h;obtain⟨o,h4,h⟩:=h;split at h
  ·rename_i kc vc l;rw[ah]at h;obtain⟨eq,h5,h⟩:=h;rw[ah]at h;obtain⟨kv,h6,h⟩:=h;rw[ah]at h;obtain⟨v,h7,h⟩:=h;split at h
   ·rename_i hc;have⟨va,g1,g2⟩:=aj9 hc kv;have g3:=acU (vc:=vc) h5 g1 v l;have hkey:den key=.t (.sc va):=(by have:=vJ h6;rw[g1]at this;cases hd:den key<;>rw[hd]at this<;>simp only[wk,AV.t.injEq,reduceCtorEq]at this;subst this;rfl);refine⟨[kk],[kk],_,_,⟨.undef,[(kk,some ⟨(bK (.map kc vc (Fh eq kv v l):bu X)).rows.length,(bK (.map kc vc (Fh eq kv v l):bu X)).rows⟩)],[]⟩,?_,trivial,rfl,?_,by simp,h⟩
    ·simp only[I7,h1,ai,hk,den,hkey,h2,fB (List.mem_singleton_self kk) h4];rw[aY ⟨g2,by simp[bK]⟩,al2 h7,g3];rfl
    ·simp[jy,bK]
   ·cases h
  ·cases h
 ·cases h
theorem afD(h:anr T code i o.op ρ get k=some r):d8 P T i o ρ get k r:=by
 obtain⟨dst,op,ty,am,after,guard⟩:=o;unfold anr at h;simp only at h;split at h
 ·rename_i op t x y q;split at h
  ·rename_i hn;have⟨dv,out,g1,g2,g3,g4,g5⟩:=afB h;have hy:den (ρ y)=.cN:=(by cases hρ:ρ y<;>rw[hρ]at hn<;>first|rfl|cases hn);exact d8.ext (n:=0) (rd:=[]) (wr:=[]) (upd:=[]) (by simp only[sJ,hy];exact g1) g2 g3 g4 (by simp) g5
  ·cases h
 ·rename_i s d x;unfold am4 at h;rw[ah]at h;obtain⟨si,h1,h⟩:=h;rw[ah]at h;obtain⟨di,h2,h⟩:=h;split at h
  ·rename_i kd k' n hk hx;refine d8.ext (n:=0) (rd:=[]) (wr:=[]) (upd:=[]) (out:=⟨.t (.sc (.int kd (kd.wrap n))),[],[]⟩) ?_ trivial rfl rfl (by simp) h;simp only[sJ,Sp,h1,h2,ai,hk,hx];rfl
  ·cases h
 ·rename_i t x j;unfold aj5 at h;rw[ah]at h;obtain⟨ti,h1,h⟩:=h;split at h
  ·rename_i s kk n hk hx hj;rw[ah]at h;obtain⟨b,h2,h⟩:=h;refine d8.ext (n:=b) (rd:=[]) (wr:=[]) (upd:=[]) (out:=⟨.t (.sc (.int .u8 b)),[],[0<=n/\∃c,s[n.toNat]? =some c/\b=c.toNat]⟩) ?_ (afC h2) rfl rfl (by simp) h;simp only[sJ,Uw,h1,ai,hk,hx,hj];rfl
  ·rename_i m e cs kd q hk hx hj;rw[ah]at h;obtain⟨ei,h2,h⟩:=h;have⟨h3,h⟩:=dU h;rw[ah]at h;obtain⟨v,h4,h⟩:=h;simp only[ct,bC,bF]at h3;refine d8.ext (n:=0) (rd:=[]) (wr:=[]) (upd:=[]) (out:=⟨den v,[],[0<=q/\q<(m:Int)]⟩) ?_ h3 rfl rfl (by simp) h;have h5:=BR h4;rw[kU]at h5;simp only[sJ,Uw,h1,ai,hk,hx,hj,h2,den,CT.tv,TV.av,h5];rfl
  ·cases h
 ·rename_i t x lo hi;unfold Zj at h;rw[ah]at h;obtain⟨ti,h1,h⟩:=h;split at h
  ·rename_i e hk hx;rw[ah]at h;obtain⟨ei,h2,h⟩:=h;rw[ah]at h;obtain⟨l,h3,h⟩:=h;rw[ah]at h;obtain⟨hh,h4,h⟩:=h;have⟨h5,h⟩:=dU h;refine d8.ext (n:=0) (rd:=[]) (wr:=[]) (upd:=[]) (out:=⟨.cN,[],[l=0/\hh=0]⟩) ?_ (show l=0/\hh=0 by simpa using h5) rfl rfl (by simp) h;have e1:=BU h3;have e2:=BU h4;rw[Option.map_map]at e1 e2;simp only[sJ,IZ,h1,ai,hk,hx,h2,den];have PM:bnd 0 (lo.map λx=>den (ρ x))=some l:=e1;have e2':bnd 0 (hi.map λx=>den (ρ x))=some hh:=e2;rw[PM,ai,e2'];rfl
  ·cases h
 ·rename_i x;have⟨dv,g1,g2⟩:=RJ h;exact d8.wc (n:=0) (rd:=[]) (wr:=[]) (upd:=[]) g1 trivial rfl rfl (by simp) g2
 ·rename_i t l c;have⟨dv,upd,out,g1,g2,g3,g4,g5,g6⟩:=acS h;exact d8.wc (n:=0) (rd:=[]) (wr:=[]) (upd:=upd) g1 g2 g3 g4 (λ p hp=>.inl (g5 p hp)) g6
 ·rename_i t;have⟨dv,upd,out,g1,g2,g3,g4,g5,g6⟩:=Ve h;exact d8.wc (n:=0) (rd:=[]) (wr:=[]) (upd:=upd) g1 g2 g3 g4 (λ p hp=>.inl (g5 p hp)) g6
 ·rename_i t m x ok;have⟨rd,dv,out,g1,g2,g3,g4,g6⟩:=Yb h;exact d8.wc (n:=0) (rd:=rd) (wr:=[]) (upd:=[]) g1 g2 g3 g4 (by simp) g6
 ·rename_i t m x v;have⟨rd,wr,dv,upd,out,g1,g2,g3,g4,g5,g6⟩:=Yc h;exact d8.wc (n:=0) (rd:=rd) (wr:=wr) (upd:=upd) g1 g2 g3 g4 (λ p hp=>.inr (g5 p hp)) g6
 ·rename_i b args cV;have⟨rd,wr,dv,upd,out,g1,g2,g3,g4,g5,g6⟩:=RL h;refine d8.ext (n:=0) (rd:=rd) (wr:=wr) (upd:=upd) ?_ g2 g3 g4 g5 g6;simp only[sJ,TA];exact g1
 ·cases h
theorem acV{c:CT X.ι}:∀{xs:List Operand}{x:Operand}{y:CT.T X.toSE c×List Bool},x∈xs->EZ get (ρ x) c=some y->∀j∈br (ρ x),j∈AS get c ρ xs
 |z::xs,x,y,hx,h,j,hj=>by simp[AS];rcases aQ.1 hx with rfl|hx;left;rw[h];exact hj;exact .inr (acV hx h j hj)
 |[],_,_,hx,_,_,_=>by grind
theorem acW{c:CT X.ι}:∀{xs:List Operand}{x:Operand}{y:CT.T X.toSE c×List Bool},x∈xs->EZ get (ρ x) c=some y->∀b∈y.2,b∈RE get c ρ xs
 |z::xs,x,y,hx,h,b,hb=>by simp[RE];rcases aQ.1 hx with rfl|hx;left;rw[h];exact hb;exact .inr (acW hx h b hb)
 |[],_,_,hx,_,_,_=>by grind
theorem afE(h:ant T code i o.op ρ get k=some r):d8 P T i o ρ get k r:=by
 unfold ant at h;split at h;cases h;rename_i hpick;have⟨c,h1,h⟩:=ah.1 h;have⟨hcs,h⟩:=pX h;have⟨cp,rd,wr,dv,upd,out,g1,g2,g3,g4,g5,g6⟩:=Zf h;generalize km:AS get c ρ o.op.operands.toList=ab at*;refine⟨.vA ab (λ x=>den (Nd get c ρ x)) cp,rd++ab,wr++ab,dv,upd++L9 ab,⟨out.v,out.upd++ab.map (λ k=>(k,none)),out.obs++[∀ x∈o.op.operands,(fx P (dN (rd++ab) (fO get)) (den (ρ x)) (den (Nd get c ρ x))/\∀k∈refs (den (ρ x)),k∈ab)\/den (Nd get c ρ x)=den (ρ x)]⟩,?_,?_,g3,?_,?_,g6⟩;unfold jZ Gv;simp only;rw[aW hpick];have e:(λ k=>if k∈ab then none else dN (rd++ab) (fO get) k)=dN rd (fO λj=>if j∈ab then none else get j):=by
  grind [dN,fO]
 rw[e,g1];rfl;refine qX _ λp hp=>?_;rcases bL.1 hp with hp|hp;exact qG _ g2 p hp;rw[bq]at hp;subst hp;intro x hx;unfold Nd;rcases hl:EZ get (ρ x) c with _|y;exact .inr rfl;left;have hx':x∈o.op.operands.toList:=by grind
 have hin:=λj hj=>km ▸ acV hx' hl j hj;obtain⟨hs,obs,p1,p2⟩:=zQ (P:=P) (rd:=rd++ab) hl (λ b hb=>hcs b (acW hx' hl b hb)) (λ j hj=>mem_append_right _ (hin j hj));refine⟨?_,λj hj=>hin j (by rwa [iU]at hj)⟩;have:=p2 [];exact Dn _ _ _ this p1;simp[rT,BV,g4];intro p hp;rcases bL.1 hp with hp|hp;exact(g5 p hp).imp id (λ h=>mem_append_left _ h);exact .inr (mem_append_right _ (Ja hp))
theorem Vf{c:CT X.ι}:∀{ds:List (DV X)}{xs:List (CT.T X.toSE c)},G1 c ds=some xs->bI ds=xs.map λy=>den (.c c y:DV X)
 |[],xs,h=>by simp[G1]at h;subst h;rfl
 |.c a x::ds,xs,h=>by simp[G1]at h;rw[ah]at h;obtain⟨y,h1,h⟩:=h;rw[ah]at h;obtain⟨l,h2,h⟩:=h;cases h;simp[bI,Vf h2,(oD h1).1]
 |.agg _::_,_,h|.eR _::_,_,h|.own _ _ _::_,_,h|.ptr _ _ _::_,_,h|.qt _ _ _::_,_,h|.mp _::_,_,h|.tw _ _ _ _ _::_,_,h|.rp _ _ _::_,_,h|.xi _ _ _ _ _::_,_,h|.fn _ _ _::_,_,h|.dt _ _ _::_,_,h|.raw _::_,_,h|.nil::_,_,h|.ub::_,_,h|.skip::_,_,h|.undef::_,_,h=>by trivial
theorem afF(h:anu T code o.op ρ get k=some r):d8 P T i o ρ get k r:=by
 obtain⟨dst,op,ty,am,after,guard⟩:=o;unfold anu at h;simp only at h;split at h
 ·rename_i t x j;rw[ah]at h;obtain⟨ti,h1,h⟩:=h;split at h
  ·rename_i m e kk row aa kd n hk hx hj;rw[ah]at h;obtain⟨ei,h2,h⟩:=h;split at h
   ·rename_i hs;have⟨h3,h⟩:=dU h;refine d8.op (cp:=.none) (rd:=[]) (wr:=[]) (upd:=[]) (λ _ _ _ e=>by cases e) (out:=⟨.ptr kk row (aa+n.toNat*1),[],[0<=n/\n.toNat<m]⟩) ?_ ⟨?_,?_,rfl,by simp,h⟩
    ·simp only[qm,mE,h1,ai,hk,hx,hj,den,CT.tv,TV.av,h2,hs];rfl
    ·simp only[ct,bC,bF]at h3;exact⟨h3.1,by omega⟩
    ·simp only[den,Nat.mul_one]
   ·cases h
  ·rename_i m e c y aa kd n hk hx hj;rw[ah]at h;obtain⟨ei,h2,h⟩:=h;split at h
   ·rename_i hs;have⟨h3,h⟩:=dU h;refine d8.op (cp:=.none) (rd:=[]) (wr:=[]) (upd:=[]) (λ _ _ _ e=>by cases e) (out:=⟨.eo (CT.row X.toSE c y) (aa+n.toNat*1),[],[0<=n/\n.toNat<m]⟩) ?_ ⟨?_,?_,rfl,by simp,h⟩
    ·simp only[qm,mE,h1,ai,hk,hx,hj,den,CT.tv,TV.av,h2,hs];rfl
    ·simp only[ct,bC,bF]at h3;exact⟨h3.1,by omega⟩
    ·simp only[den,Nat.mul_one]
   ·cases h
  ·cases h
 ·rename_i t a;rw[ah]at h;obtain⟨ti,h1,h⟩:=h;split at h
  ·rename_i kk row aa m n hx;split at h
   ·rename_i hs;rw[ah]at h;obtain⟨c,h2,h⟩:=h;split at h
    ·rename_i hc;rw[ah]at h;obtain⟨ob,h3,h⟩:=h;split at h
     ·rename_i sz rows;have⟨q,h4,h⟩:=ah.1 h;have⟨xs,h5,h⟩:=ah.1 h;have⟨y,h6,h⟩:=ah.1 h;have⟨_,h7⟩:=LX h6;have h8:=Vf h5;have h9:((bI q).drop (aa+n.toNat)).take 1=[den (.c c y:DV X)]:=by
       have e1:(bI ((q.drop aa).take m))[n.toNat]? =some (den (.c c y:DV X)):=(by rw[h8,List.getElem?_map,h7];rfl);rw[kU,List.getElem?_take]at e1;split at e1
       ·rw[List.getElem?_drop]at e1;have⟨g1,g2⟩:=dn.1 e1;rw[List.drop_eq_getElem_cons g1,List.take_succ_cons,List.take_zero,g2]
       ·cases e1
      refine d8.op (cp:=.none) (rd:=[kk]) (wr:=[]) (upd:=[]) (λ _ _ _ e=>by cases e) (out:=⟨den (.c c y:DV X),[],[]⟩) ?_ ⟨trivial,rfl,rfl,by simp,h⟩;simp only[qm,J3,h1,ai,hx,den,fB (List.mem_singleton_self kk) h3,bK,List.getElem?_map,h4,Option.map_some,hs.1,hs.2];rw[h9];obtain⟨t',g1,g2⟩:=row_one hc y;simp only[den,g2,TV.av];rfl
     ·cases h
     ·cases h
    ·cases h
   ·cases h
  ·rename_i b y0 aa m n hx;split at h
   ·rename_i hs;rw[ah]at h;obtain⟨c,h2,h⟩:=h;split at h
    ·rename_i hc;have⟨xs,h5,h⟩:=ah.1 h;have⟨y,h6,h⟩:=ah.1 h;have⟨_,h7⟩:=LX h6;have h8:=Vf h5;have h9:(((CT.row X.toSE b y0).drop (aa+n.toNat)).take 1).map AV.t=[den (.c c y:DV X)]:=by
      have e1:(bI (((uP b y0).drop aa).take m))[n.toNat]? =some (den (.c c y:DV X)):=(by rw[h8,List.getElem?_map,h7];rfl);rw[kU,oZ,List.getElem?_take]at e1;split at e1
      ·rw[List.getElem?_drop]at e1;have⟨g1,g2⟩:=dn.1 e1;rw[map_take,map_drop,List.drop_eq_getElem_cons g1,List.take_succ_cons,List.take_zero,g2]
      ·cases e1
     refine d8.op (cp:=.none) (rd:=[]) (wr:=[]) (upd:=[]) (λ _ _ _ e=>by cases e) (out:=⟨den (.c c y:DV X),[],[]⟩) ?_ ⟨trivial,rfl,rfl,by simp,h⟩;simp only[qm,J3,h1,ai,hx,den,hs.1,hs.2];rw[h9];obtain⟨t',g1,g2⟩:=row_one hc y;simp only[den,g2,TV.av];rfl
    ·cases h
   ·cases h
  ·cases h
 ·cases h
end
end
section
variable {X:SX}
structure MA(X:SX) where
 nm:List (Nat×Nat)
 er:List (DC X)
 iS:List Bool
def addN(m:MA X)(k' k:Nat):MA X:=if m.nm.contains (k',k)then m else⟨m.nm++[(k',k)],m.er,m.iS⟩
section
variable (get:Nat->Option (bu X))
mutual
def mP:Pt X.ι->DV X->MA X->Option (MA X)
 |.v c,d,m=>(dat d c).bind λx=>some ⟨m.nm,m.er++[⟨c,x⟩],m.iS⟩
 |.o k,d,m=>match d with
  |.own k' 0 len=>(get k').bind λo=>match o with
   |.ec _ l=>some (addN ⟨m.nm,m.er,m.iS++[aE len l.length]⟩ k' k)
   |_=>none
  |_=>none
 |.oz k,d,m=>match d with
  |.own k' 0 len=>(get k').bind λo=>match o with
   |.ec _ l=>some (addN ⟨m.nm,m.er,m.iS++[!(len==0)&&aE len l.length]⟩ k' k)
   |_=>none
  |.oz k' len=>(get k').bind λo=>match o with
   |.ec _ l=>some (addN ⟨m.nm,m.er,m.iS++[aE len l.length]⟩ k' k)
   |_=>none
  |_=>none
 |.p k,d,m=>match d with
  |.ptr k' 0 0=>some (addN m k' k)
  |_=>none
 |.mp k,d,m=>match d with
  |.mp k'=>some (addN m k' k)
  |_=>none
 |.nil,d,m=>match d with
  |.nil=>some m
  |_=>none
 |.f F fs cs,d,m=>match d with
  |.fn F' first caps=>if F=F' then(tz fs first m).bind λm=>tz cs caps m else none
  |_=>none
 |.od k,d,m=>match d with
  |.own k' aa len=>(get k').bind λo=>match o with
   |.ec _ l=>some (addN ⟨m.nm,m.er++[⟨.int .i64,(aa:Int)⟩],m.iS++[aE (aa+len) l.length]⟩ k' k)
   |_=>none
  |_=>none
 |.a ps,d,m=>match d with
  |.agg ds=>tz ps ds m
  |_=>none
def tz:List (Pt X.ι)->List (DV X)->MA X->Option (MA X)
 |[],[],m=>some m
 |p::ps,d::ds,m=>(mP p d m).bind λm=>tz ps ds m
 |_,_,_=>none
end
def GN(env:Nat->DV X):List (Nat×Pt X.ι)->MA X->Option (MA X)
 |[],m=>some m
 |(t,p)::r,m=>(mP get p (env t) m).bind λm=>GN env r m
def Ke:List (List (Pt X.ι))->List (List (DV X))->MA X->Option (MA X)
 |[],[],m=>some m
 |r::rs,q::qs,m=>(tz get r q m).bind λm=>Ke rs qs m
 |_,_,_=>none
def nameOf(m:MA X)(k:Nat):Nat:=match m.nm.find? (λ q=>q.2==k)with|some q=>q.1|none=>k
def BX:List (Nat×OP X.ι)->MA X->Option (MA X)
 |[],m=>some m
 |(k,op)::r,m=>(get (nameOf m k)).bind λo=>match op,o with
  |.l c,.ec c' l=>(lI (.sl c') (.sl c) l).bind λl'=>BX r (addN ⟨m.nm,m.er++[⟨.sl c,l'⟩],m.iS⟩ (nameOf m k) k)
  |.m kc vc,.map ua tU l=>(lI (.mp ua tU) (.mp kc vc) l).bind λl'=>BX r (addN ⟨m.nm,m.er++[⟨.mp kc vc,l'⟩],m.iS⟩ (nameOf m k) k)
  |.c sz rows,.cells sz' rows'=>if sz=sz' then(Ke get rows rows' (addN m (nameOf m k) k)).bind λm=>BX r m else none
  |_,_=>none
end
end
section
variable {X:SX} {A:Type}
mutual
def ry(f:Nat->Nat):DV X->DV X
 |.own k aa len=>.own (f k) aa len
 |.ptr k row aa=>.ptr (f k) row aa
 |.qt k n aa=>.qt (f k) n aa
 |.tw k row aa m n=>.tw (f k) row aa m n
 |.mp k=>.mp (f k)
 |.oz k len=>.oz (f k) len
 |.agg cs=>.agg (KD f cs)
 |.eR cs=>.eR (KD f cs)
 |.fn F first caps=>.fn F (KD f first) (KD f caps)
 |x=>x
def KD(f:Nat->Nat):List (DV X)->List (DV X)
 |[]=>[]
 |x::xs=>ry f x::KD f xs
end
theorem afG(f:Nat->Nat):∀l:List Tree,BP f (l.map AV.t)=l.map AV.t
 |[]=>rfl
 |x::xs=>by simp[BP,ju,afG f xs]
mutual
theorem zR(f:Nat->Nat):∀x:DV X,den (ry f x)=ju f (den x)
 |.own _ _ _|.ptr _ _ _|.qt _ _ _|.mp _|.oz _ _|.tw _ _ _ _ _=>rfl
 |.agg cs|.eR cs=>by simp[ry,den,ju,GQ f cs]
 |.fn F first caps=>by simp[ry,den,ju,GQ f first,GQ f caps]
 |.c t x=>by
  simp[ry,den];cases t<;>try rfl
  simp[CT.tv,TV.av,ju,afG]
 |.rp _ _ _|.xi _ _ _ _ _|.dt _ _ _=>rfl
 |.raw v=>by simp[ry,den,cv];split;rfl;split<;>rfl
 |.nil|.ub|.skip|.undef=>rfl
theorem GQ(f:Nat->Nat):∀l:List (DV X),bI (KD f l)=BP f (bI l)
 |[]=>rfl
 |x::xs=>by simp[KD,bI,BP,zR f x,GQ f xs]
end
def pP(f:Nat->Nat):bu X->bu X
 |.cells sz rows=>.cells sz (rows.map (KD f))
 |o=>o
def d7:bu X->List Nat
 |.cells _ rows=>(rows.map aL).flatten
 |.ec _ _=>[]
 |.map _ _ _=>[]
def RW:CT X.ι->Bool
 |.int _|.bool|.str=>true
 |_=>false
def wT:CT X.ι->Bool
 |.st i=>(X.cV i).all RW
 |c=>RW c
theorem DJ{c:CT X.ι}(h:RW c=true)(x:CT.T X.toSE c):∀t∈CT.row X.toSE c x,t.flat:=by cases c<;>first|(intro t ht;simp[CT.row]at ht;subst ht;trivial)|cases h
theorem ahp:∀(l:List (CT X.ι))(h:HL X.toSE l),l.all RW=true->∀t∈HL.row X.toSE l h,t.flat
 |[],_,_,t,ht=>by trivial
 |c::l,h,ha,t,ht=>by simp only[all_cons,bC]at ha;rcases bL.1 (show t∈CT.row X.toSE c h.1++HL.row X.toSE l h.2 from ht)with ht|ht;exact DJ ha.1 h.1 t ht;exact ahp l h.2 ha.2 t ht
theorem uQ{c:CT X.ι}(h:wT c=true)(x:CT.T X.toSE c):∀t∈CT.row X.toSE c x,t.flat:=by
 cases c
 case st i=>intro t ht;exact ahp (X.cV i) (X.get i x) h t ((X.oR i x) ▸ ht)
 case int k=>exact DJ (c:=.int k) h x
 case bool=>exact DJ (c:=.bool) h x
 case str=>exact DJ (c:=.str) h x
 case sl e=>cases h
 case any=>cases h
 trivial
structure MG(X:SX) where
 nm:List (Nat×Nat)
 er:List (DC X)
 iS:List Bool
 vr:List Nat
section
variable (get:Nat->Option (bu X))
mutual
def pZ:Pt X.ι->DV X->MG X->Option (MG X)
 |.v c,d,m=>(EZ get d c).bind λx=>some ⟨m.nm,m.er++[⟨c,x.1⟩],m.iS++x.2,m.vr++br d⟩
 |.o k,d,m=>match d with
  |.own k' 0 len=>(get k').bind λo=>match o with
   |.ec _ l=>some ⟨m.nm++[(k',k)],m.er,m.iS++[aE len l.length],m.vr⟩
   |_=>none
  |_=>none
 |.od k,d,m=>match d with
  |.own k' aa len=>(get k').bind λo=>match o with
   |.ec _ l=>some ⟨m.nm++[(k',k)],m.er++[⟨.int .i64,(aa:Int)⟩],m.iS++[aE (aa+len) l.length],m.vr⟩
   |_=>none
  |_=>none
 |.p k,d,m=>match d with
  |.ptr k' 0 0=>some ⟨m.nm++[(k',k)],m.er,m.iS,m.vr⟩
  |_=>none
 |.nil,d,m=>match d with
  |.nil=>some m
  |_=>none
 |.f F fs cs,d,m=>match d with
  |.fn F' first caps=>if F=F' then(sq fs first m).bind λm=>sq cs caps m else none
  |_=>none
 |.mp k,d,m=>match d with
  |.mp k'=>some ⟨m.nm++[(k',k)],m.er,m.iS,m.vr⟩
  |_=>none
 |.oz _,_,_=>none
 |.a ps,d,m=>match d with
  |.agg ds=>sq ps ds m
  |_=>none
def sq:List (Pt X.ι)->List (DV X)->MG X->Option (MG X)
 |[],[],m=>some m
 |p::ps,d::ds,m=>(pZ p d m).bind λm=>sq ps ds m
 |_,_,_=>none
end
def Ma:List (List (Pt X.ι))->List (List (DV X))->MG X->Option (MG X)
 |[],[],m=>some m
 |r::rs,q::qs,m=>(sq get r q m).bind λm=>Ma rs qs m
 |_,_,_=>none
def qu(m:MG X)(k:Nat):Nat:=match m.nm.find? (λ q=>q.2==k)with|some q=>q.1|none=>k
def stC:CT X.ι->Bool
 |.st _=>true
 |_=>false
def BZ:List (Nat×OP X.ι)->MG X->Option (MG X)
 |[],m=>some m
 |(k,op)::r,m=>(get (qu m k)).bind λo=>match op,o with
  |.l c,.ec c' l=>(lI (.sl c') (.sl c) l).bind λl'=>BZ r ⟨m.nm++[(qu m k,k)],m.er++[⟨.sl c,l'⟩],m.iS,m.vr⟩
  |.m kc vc,.map ua tU l=>if (kc.one=true/\vc.one=true)\/stC kc=true then(lI (.mp ua tU) (.mp kc vc) l).bind λl'=>BZ r ⟨m.nm++[(qu m k,k)],m.er++[⟨.mp kc vc,l'⟩],m.iS,m.vr⟩else none
  |.c sz rows,.cells sz' rows'=>if sz=sz' then(Ma get rows rows' ⟨m.nm++[(qu m k,k)],m.er,m.iS,m.vr⟩).bind λm=>BZ r m else none
  |_,_=>none
end
mutual
def Pt.refs:Pt X.ι->List Nat
 |.o k|.od k|.p k|.mp k|.oz k=>[k]
 |.f _ fs cs=>wD fs++wD cs
 |.a ps=>wD ps
 |_=>[]
def wD:List (Pt X.ι)->List Nat
 |[]=>[]
 |p::ps=>p.refs++wD ps
end
def OP.refs:OP X.ι->List Nat
 |.l _=>[]
 |.m _ _=>[]
 |.c _ rows=>rows.flatMap wD
def HP(n k:Nat):Bool:=Nat.blt k n || (Nat.ble 1000 k&&Nat.blt k 1064)
def cM.ok(g:cM X):Bool:=
 decide (g.io.map (·.1)=List.range g.io.length)&&decide (g.io.length<=1000)&&(g.iz.all λq=>HP g.io.length q.1&&q.2.refs.all λk=>HP g.io.length k)&&decide (g.iz.map (·.1)).Nodup&&(wD g.fp).all λk=>HP g.io.length k
def okG(m:MG X)(ab:List Nat):Bool:=
 decide ab.Nodup&&(m.nm.all λq=>match ab[q.2]? with|some k=>Nat.beq k q.1|none=>false)&&m.vr.all λk=>!ab.contains k
def cM.flat(g:cM X):Bool:=(cJ g.fp).all wT&&g.iz.all λq=>match q.2 with
 |.l c=>wT c
 |.m _ _=>false
 |.c _ rows=>(vK rows).all wT
def tG:List (Nat×bu X)->Nat->Option (bu X)
 |[],_=>none
 |(j,o)::r,k=>if j=k then some o else tG r k
def RR(i:Nat)(ab:List Nat)(os':List (Nat×bu X)):List (Nat×Option (bu X)):=
 (ab.zipIdx.map λp=>(p.1,(tG os' p.2).map (pP (cn i ab))))++(os'.filter λq=>decide (1000<=q.1)).map λq=>(cn i ab q.1,some (pP (cn i ab) q.2))
def afH(g:cM X)(i:Nat)(ds:List (DV X))(get:Nat->Option (bu X))(k:KK X A):Option A:=
 (sq get g.mj ds ⟨[],[],[],[]⟩).bind λm=>(BZ get g.io m).bind λm=>
  bif g.ok&&okG m ((List.range g.io.length).map (qu m))then(E7 (cJ g.mj++cX g.io) m.er).bind λv=>UW m.iS ((g.fn v).bind λr=>
   let ab:=(List.range g.io.length).map (qu m)
   k (ry (cn i ab) (g.res r)) (RR i ab (g.outs r)++(if g.flat then []else m.vr.map λk=>(k,none))) (ab++m.vr) ((ab++(RR i ab (g.outs r)).map (·.1))++m.vr))
  else none
section
variable {P:Program} {get:Nat->Option (bu X)} {rd ab:List Nat} {dg:Nat->Nat}
def fy(m m':MG X):Prop:=(∀ q∈m.nm,q∈m'.nm)/\(∀ c∈m.iS,c∈m'.iS)/\∀k∈m.vr,k∈m'.vr
theorem fy.refl(m:MG X):fy m m:=⟨λ _ h=>h,λ_ h=>h,λ_ h=>h⟩
theorem fy.trans{a b c:MG X}(h:fy a b)(h':fy b c):fy a c:=⟨λ q hq=>h'.1 q (h.1 q hq),λq hq=>h'.2.1 q (h.2.1 q hq),λq hq=>h'.2.2 q (h.2.2 q hq)⟩
mutual
theorem akb:∀(p:Pt X.ι)(d:DV X)(m m':MG X),pZ get p d m=some m'->fy m m'/\∃al,m'.er=m.er++al/\al.length=p.vars.length
 |.v c,d,m,m',h=>by simp[pZ]at h;rw[ah]at h;obtain⟨x,h1,h⟩:=h;cases h;exact⟨⟨λ _ h=>h,λ_ h=>by simp[h],λ_ h=>by simp[h]⟩,[⟨c,x.1⟩],rfl,rfl⟩
 |.o k,d,m,m',h=>by simp[pZ]at h;split at h;rw[ah]at h;obtain⟨o,h1,h⟩:=h;split at h;cases h;exact⟨⟨λ _ h=>by simp[h],λ_ h=>by simp[h],λ_ h=>h⟩,[],by simp,rfl⟩;cases h;cases h
 |.od k,d,m,m',h=>by simp[pZ]at h;split at h;rename_i k' aa len;have⟨o,h1,h⟩:=ah.1 h;split at h;cases h;exact⟨⟨λ _ h=>by simp[h],λ_ h=>by simp[h],λ_ h=>h⟩,[⟨.int .i64,(aa:Int)⟩],rfl,rfl⟩;cases h;cases h
 |.p k,d,m,m',h=>by simp[pZ]at h;split at h;cases h;exact⟨⟨λ _ h=>by simp[h],λ_ h=>h,λ_ h=>h⟩,[],by simp,rfl⟩;cases h
 |.nil,d,m,m',h=>by simp[pZ]at h;split at h;cases h;exact⟨fy.refl _,[],by simp,rfl⟩;cases h
 |.f F fs cs,d,m,m',h=>by simp[pZ]at h;split at h;split at h;have⟨m1,h1,h⟩:=ah.1 h;obtain⟨a1,n1,b1,c1⟩:=vO fs _ m m1 h1;obtain⟨a2,n2,b2,c2⟩:=vO cs _ m1 m' h;exact⟨a1.trans a2,n1++n2,by rw[b2,b1,aT],by simp[Pt.vars,c1,c2]⟩;cases h;cases h
 |.mp k,d,m,m',h=>by simp[pZ]at h;split at h;cases h;exact⟨⟨λ _ h=>by simp[h],λ_ h=>h,λ_ h=>h⟩,[],by simp,rfl⟩;cases h
 |.oz _,_,_,_,h=>by simp[pZ]at h
 |.a ps,d,m,m',h=>by simp[pZ]at h;split at h;exact vO ps _ m m' h;cases h
theorem vO:∀(ps:List (Pt X.ι))(ds:List (DV X))(m m':MG X),sq get ps ds m=some m'->fy m m'/\∃al,m'.er=m.er++al/\al.length=(cJ ps).length
 |[],[],m,m',h=>by simp[sq]at h;subst h;exact⟨fy.refl _,[],by simp,rfl⟩
 |p::ps,d::ds,m,m',h=>by simp[sq]at h;have⟨m1,h1,h⟩:=ah.1 h;have⟨a1,n1,b1,c1⟩:=akb p d m m1 h1;have⟨a2,n2,b2,c2⟩:=vO ps ds m1 m' h;exact⟨a1.trans a2,n1++n2,by rw[b2,b1,aT],by simp[cJ,c1,c2]⟩
 |[],_::_,m,m',h|_::_,[],m,m',h=>by simp[sq]at h
end
def yn:AV->List LH->List LH
 |.agg _,hs=>.agd::hs
 |_,hs=>hs
theorem Mc(x:AV)(a b:List LH):yn x (a++b)=yn x a++b:=by cases x<;>rfl
theorem xU{get':Nat->Option aO}{x:AV}{hs:List LH}{p:AV×List LH×List Prop}(h:oV P get' x hs=some p)(hr:∀k∈refs x,k∉ab):qp P get' ab x (yn x hs)=some p:=by
 have hd:((refs x).all λk=>!ab.contains k)=true:=by
  grind
 cases x
 all_goals
  simp[yn];unfold qp;split<;>first|trivial|grind|exact h|grind|(done)
variable {NM:List (Nat×Nat)} {p0:List Nat}
mutual
theorem aiA(hi:∀q∈NM,ab[q.2]? =some q.1)(hv:∀k∈p0,k∉ab)(hrd:∀k,(∃ q,(k,q)∈NM)\/k∈p0->k∈rd)(ho:∀q∈NM,∀c l,get q.1=some (.ec c l)->dg q.2=l.length):
 ∀(p:Pt X.ι)(d:DV X)(m m':MG X),pZ get p d m=some m'->(∀ q∈m'.nm,q∈NM)->(∀ c∈m'.iS,c=true)->(∀ k∈m'.vr,k∈p0)->
 ∃al,m'.er=m.er++al/\∃d',(∀ ae,eP dg p (al++ae)=(d',ae))/\(∃ hs obs,(∀ p∈obs,p)/\∀ae,qp P (dN rd (fO get)) ab (den d) (hs++ae)=some (den d',ae,obs))/\∀j∈br d,(∃ q,(j,q)∈NM)\/j∈p0
 |.v c,d,m,m',h,hn,hc,hr=>by simp[pZ]at h;rw[ah]at h;obtain⟨x,h1,h⟩:=h;cases h;have B8:∀j∈br d,j∈p0:=λj hj=>hr j (by simp[hj]);obtain⟨hs,obs,p1,q1⟩:=zQ (P:=P) (rd:=rd) h1 (λ b hb=>hc b (by simp[hb])) (λ j hj=>hrd j (.inr (B8 j hj)));refine⟨[⟨c,x.1⟩],rfl,.c c x.1,λae=>rfl,⟨yn (den d) hs,obs,p1,λae=>?_⟩,λj hj=>.inr (B8 j hj)⟩;rw[<- Mc];exact xU (q1 ae) (λ k hk=>hv k (B8 k (by rwa [iU]at hk)))
 |.o k,d,m,m',h,hn,hc,hr=>by
  simp[pZ]at h;split at h;rename_i k' len;rw[ah]at h;obtain⟨o,h1,h⟩:=h;split at h;rename_i c l;cases h;have hq:(k',k)∈NM:=hn _ (by simp);have he:len=l.length:=by have:=hc (aE len l.length) (by simp);simpa[aE]using this
  refine⟨[],by simp,.own k 0 (dg k),λae=>rfl,⟨[.mut k],[],by simp,λae=>?_⟩,λj hj=>?_⟩;simp[den,qp,hi _ hq,ho _ hq c l h1,he];simp[br]at hj;subst hj;exact .inl ⟨k,hq⟩;cases h;cases h
 |.od k,d,m,m',h,hn,hc,hr=>by
  simp[pZ]at h;split at h;rename_i k' aa len;rw[ah]at h;obtain⟨o,h1,h⟩:=h;split at h;rename_i c l;cases h;have hq:(k',k)∈NM:=hn _ (by simp);have he:aa+len=l.length:=by have:=hc (aE (aa+len) l.length) (by simp);simpa[aE]using this
  refine⟨[⟨.int .i64,(aa:Int)⟩],rfl,.own k aa (dg k-aa),λae=>?_,⟨[.mut k],[],by simp,λae=>?_⟩,λj hj=>?_⟩;have:Zg (X:=X) ⟨.int .i64,(aa:Int)⟩=aa:=by simp[Zg];rw[U7];simp
  simp[eP,this];simp[den,qp,hi _ hq,ho _ hq c l h1,show l.length-aa=len by omega];simp[br,bq]at hj;subst hj;exact .inl ⟨k,hq⟩;cases h;cases h
 |.p k,d,m,m',h,hn,hc,hr=>by simp[pZ]at h;split at h;rename_i k';cases h;have hq:(k',k)∈NM:=hn _ (by simp);refine⟨[],by simp,.ptr k 0 0,λae=>rfl,⟨[.mut k],[],by simp,λae=>?_⟩,λj hj=>?_⟩;simp[den,cons_append,fT,qp,hi _ hq,if_true];simp[br,bq]at hj;subst hj;exact .inl ⟨k,hq⟩;cases h
 |.nil,d,m,m',h,hn,hc,hr=>by simp[pZ]at h;split at h;cases h;refine⟨[],by simp,.nil,λae=>rfl,⟨[.nil],[],by simp,λae=>?_⟩,by simp[br]⟩;exact xU (by simp[den,cons_append,fT,oV]) (by simp[den,refs]);cases h
 |.f F fs cs,d,m,m',h,hn,hc,hr=>by
  simp[pZ]at h;split at h;rename_i F' first caps
  split at h;rename_i e;subst e;rw[ah]at h;obtain⟨m1,h1,h⟩:=h;have hm:=(vO cs _ m1 m' h).1;obtain⟨n1,a1,f',b1,⟨hs1,o1,p1,q1⟩,r1⟩:=xV hi hv hrd ho fs _ m m1 h1 (λ q hq=>hn q (hm.1 q hq)) (λ q hq=>hc q (hm.2.1 q hq)) (λ q hq=>hr q (hm.2.2 q hq));obtain⟨n2,a2,c',b2,⟨hs2,o2,p2,q2⟩,r2⟩:=xV hi hv hrd ho cs _ m1 m' h hn hc hr;refine⟨n1++n2,by rw[a2,a1,aT],.fn F f' c',λae=>by simp[eP,aT,b1,b2],⟨.fnw::(hs1++hs2),o1++o2,iD p1 p2,λae=>?_⟩,λj hj=>?_⟩;simp[den,cons_append,aT,qp,q1,ai,q2];simp[br,bL]at hj;exact hj.elim (r1 j) (r2 j);cases h;cases h
 |.mp k,d,m,m',h,hn,hc,hr=>by simp[pZ]at h;split at h;rename_i k';cases h;have hq:(k',k)∈NM:=hn _ (by simp);refine⟨[],by simp,.mp k,λae=>rfl,⟨[.mut k],[],by simp,λae=>?_⟩,λj hj=>?_⟩;simp[den,cons_append,fT,qp,hi _ hq,if_true];simp[br,bq]at hj;subst hj;exact .inl ⟨k,hq⟩;cases h
 |.oz _,_,_,_,h,_,_,_=>by simp[pZ]at h
 |.a ps,d,m,m',h,hn,hc,hr=>by simp[pZ]at h;split at h;rename_i ds;have⟨n1,a1,f',b1,⟨hs1,o1,p1,q1⟩,r1⟩:=xV hi hv hrd ho ps ds m m' h hn hc hr;refine⟨n1,a1,.agg f',λae=>by simp[eP,b1],⟨.agw::hs1,o1,p1,λae=>?_⟩,λj hj=>r1 j (by simpa[br]using hj)⟩;simp[den,cons_append,qp,q1,ai];cases h
theorem xV(hi:∀q∈NM,ab[q.2]? =some q.1)(hv:∀k∈p0,k∉ab)(hrd:∀k,(∃ q,(k,q)∈NM)\/k∈p0->k∈rd)(ho:∀q∈NM,∀c l,get q.1=some (.ec c l)->dg q.2=l.length):
 ∀(ps:List (Pt X.ι))(ds:List (DV X))(m m':MG X),sq get ps ds m=some m'->(∀ q∈m'.nm,q∈NM)->(∀ c∈m'.iS,c=true)->(∀ k∈m'.vr,k∈p0)->
 ∃al,m'.er=m.er++al/\∃ds',(∀ ae,k8 dg ps (al++ae)=(ds',ae))/\(∃ hs obs,(∀ p∈obs,p)/\∀ae,mF P (dN rd (fO get)) ab (bI ds) (hs++ae)=some (bI ds',ae,obs))/\∀j∈aL ds,(∃ q,(j,q)∈NM)\/j∈p0
 |[],[],m,m',h,_,_,_=>by simp[sq,bM]at h;subst h;exact⟨[],by simp,[],λae=>rfl,⟨[],[],by simp,λae=>rfl⟩,by simp[aL]⟩
 |p::ps,d::ds,m,m',h,hn,hc,hr=>by simp[sq]at h;have⟨m1,h1,h⟩:=ah.1 h;have hm:=(vO ps ds m1 m' h).1;obtain⟨n1,a1,d',b1,⟨hs1,o1,p1,q1⟩,r1⟩:=aiA hi hv hrd ho p d m m1 h1 (λ q hq=>hn q (hm.1 q hq)) (λ q hq=>hc q (hm.2.1 q hq)) (λ q hq=>hr q (hm.2.2 q hq));have⟨n2,a2,ds',b2,⟨hs2,o2,p2,q2⟩,r2⟩:=xV hi hv hrd ho ps ds m1 m' h hn hc hr;refine⟨n1++n2,by rw[a2,a1,aT],d'::ds',λae=>by simp[k8,aT,b1,b2],⟨hs1++hs2,o1++o2,iD p1 p2,λae=>?_⟩,λj hj=>?_⟩;simp[bI,aT,mF,q1,ai,q2];simp[aL,bL]at hj;exact hj.elim (r1 j) (r2 j)
 |[],_::_,m,m',h,_,_,_=>by simp[sq]at h
 |_::_,[],m,m',h,_,_,_=>by simp[sq]at h
end
theorem yC:∀(rs:List (List (Pt X.ι)))(qs:List (List (DV X)))(m m':MG X),Ma get rs qs m=some m'->fy m m'/\∃al,m'.er=m.er++al/\al.length=(vK rs).length
 |[],[],m,m',h=>by simp[Ma]at h;subst h;exact⟨fy.refl _,[],by simp,rfl⟩
 |r::rs,q::qs,m,m',h=>by simp[Ma]at h;have⟨m1,h1,h⟩:=ah.1 h;have⟨a1,n1,b1,c1⟩:=vO r q m m1 h1;have⟨a2,n2,b2,c2⟩:=yC rs qs m1 m' h;exact⟨a1.trans a2,n1++n2,by grind,by simp[vK,c1,c2]⟩
 |[],_::_,m,m',h|_::_,[],m,m',h=>by trivial
theorem Q0(hi:∀q∈NM,ab[q.2]? =some q.1)(hv:∀k∈p0,k∉ab)(hrd:∀k,(∃ q,(k,q)∈NM)\/k∈p0->k∈rd)(ho:∀q∈NM,∀c l,get q.1=some (.ec c l)->dg q.2=l.length):
 ∀(rs:List (List (Pt X.ι)))(qs:List (List (DV X)))(m m':MG X),Ma get rs qs m=some m'->(∀ q∈m'.nm,q∈NM)->(∀ c∈m'.iS,c=true)->(∀ k∈m'.vr,k∈p0)->
 ∃al,m'.er=m.er++al/\∃GC,(∀ ae,vM dg rs (al++ae)=(GC,ae))/\(∃ hs obs,(∀ p∈obs,p)/\Dq P (dN rd (fO get)) ab (qs.map bI) hs=some (GC.map bI,obs))/\∀j∈(qs.map aL).flatten,(∃ q,(j,q)∈NM)\/j∈p0
 |[],[],m,m',h,_,_,_=>by simp[Ma]at h;subst h;exact⟨[],by simp,[],λae=>rfl,⟨[],[],by simp,rfl⟩,by simp⟩
 |r::rs,q::qs,m,m',h,hn,hc,hr=>by
  simp[Ma]at h;have⟨m1,h1,h⟩:=ah.1 h;have hm:=(yC rs qs m1 m' h).1;obtain⟨n1,a1,d',b1,⟨hs1,o1,p1,q1⟩,r1⟩:=xV (P:=P) hi hv hrd ho r q m m1 h1 (λ q hq=>hn q (hm.1 q hq)) (λ q hq=>hc q (hm.2.1 q hq)) (λ q hq=>hr q (hm.2.2 q hq));have⟨n2,a2,ds',b2,⟨hs2,o2,p2,q2⟩,r2⟩:=Q0 hi hv hrd ho rs qs m1 m' h hn hc hr;refine⟨n1++n2,by rw[a2,a1,aT],d'::ds',λae=>by simp[vM,b1,b2],⟨hs1::hs2,o1++o2,iD p1 p2,?_⟩,λj hj=>?_⟩;have:=q1 [];rw[append_nil]at this;simp[Dq,this,q2]
  grind
 |[],_::_,m,m',h,_,_,_|_::_,[],m,m',h,_,_,_=>by simp[Ma]at h
theorem mG:∀(os:List (Nat×OP X.ι))(m m':MG X),BZ get os m=some m'->fy m m'/\∃al,m'.er=m.er++al/\al.length=(cX os).length
 |[],m,m',h=>by simp[BZ]at h;subst h;exact⟨fy.refl _,[],by simp,rfl⟩
 |(k,op)::r,m,m',h=>by simp[BZ]at h;rw[ah]at h;obtain⟨o,h1,h⟩:=h;split at h;rename_i c c' l;rw[ah]at h;obtain⟨l',h2,h⟩:=h;obtain⟨a2,n2,b2,c2⟩:=mG r _ m' h;refine⟨fy.trans (b:=⟨m.nm++[(qu m k,k)],m.er++[⟨.sl c,l'⟩],m.iS,m.vr⟩) ⟨λ _ h=>by simp[h],λ_ h=>h,λ_ h=>h⟩ a2,[⟨.sl c,l'⟩]++n2,?_,by simp[cX,c2]⟩;rw[b2,aT];rename_i kc vc ua tU l;split at h;rw[ah]at h;obtain⟨l',h2,h⟩:=h;obtain⟨a2,n2,b2,c2⟩:=mG r _ m' h;refine⟨fy.trans (b:=⟨m.nm++[(qu m k,k)],m.er++[⟨.mp kc vc,l'⟩],m.iS,m.vr⟩) ⟨λ _ h=>by simp[h],λ_ h=>h,λ_ h=>h⟩ a2,[⟨.mp kc vc,l'⟩]++n2,?_,by simp[cX,c2]⟩;rw[b2,aT];cases h;rename_i sz rows sz' rows';split at h;rw[ah]at h;obtain⟨m1,h2,h⟩:=h;obtain⟨a1,n1,b1,c1⟩:=yC rows _ _ m1 h2;have⟨a2,n2,b2,c2⟩:=mG r m1 m' h;refine⟨fy.trans (fy.trans (b:=⟨m.nm++[(qu m k,k)],m.er,m.iS,m.vr⟩) ⟨λ _ h=>by simp[h],λ_ h=>h,λ_ h=>h⟩ a1) a2,n1++n2,?_,by simp[cX,c1,c2]⟩;rw[b2,b1,aT];cases h;cases h
theorem DK:∀(os:List (Nat×OP X.ι))(m m':MG X),BZ get os m=some m'->(∀ q∈m'.nm,q∈NM)->∃al,m'.er=m.er++al/\∀ae,∀k∈os.map (·.1),∃k' o,(k',k)∈NM/\get k'=some o/\∀c l,o=.ec c l->(k,List.length l)∈lens os (al++ae)
 |[],m,m',h,_=>by
  simp_all [BZ]
 |(k,op)::r,m,m',h,hn=>by
  simp[BZ]at h;rw[ah]at h;obtain⟨o,h1,h⟩:=h;split at h;rename_i c c' l;rw[ah]at h;obtain⟨l',h2,h⟩:=h;have hm:=(mG r _ m' h).1;obtain⟨n2,b2,c2⟩:=DK r _ m' h hn;refine⟨[⟨.sl c,l'⟩]++n2,by grind,λae j hj=>?_⟩;simp only[bH,aQ]at hj;by_cases hjk:j=k;subst hjk;refine⟨_,_,hn _ (hm.1 _ (by simp)),h1,λc2 l2 he=>?_⟩;injection he with e1 e2;subst e1;subst e2;have:=congrArg List.length (jF h2).2;simp at this;rw[this];exact List.mem_cons_self;rcases hj with rfl|hj;exact(hjk rfl).elim;have⟨k',o',g1,g2,g3⟩:=c2 ae j hj;exact⟨k',o',g1,g2,λc l he=>cZ _ (g3 c l he)⟩;rename_i kc vc ua tU l;split at h;rw[ah]at h;obtain⟨l',h2,h⟩:=h;have hm:=(mG r _ m' h).1;obtain⟨n2,b2,c2⟩:=DK r _ m' h hn;refine⟨[⟨.mp kc vc,l'⟩]++n2,by rw[b2,aT],λae j hj=>?_⟩;simp only[bH,aQ]at hj;by_cases hjk:j=k;subst hjk;exact⟨_,_,hn _ (hm.1 _ (by simp)),h1,λc2 l2 he=>by cases he⟩;rcases hj with rfl|hj;exact(hjk rfl).elim;exact c2 ae j hj;cases h;rename_i sz rows sz' rows';split at h;have⟨m1,h2,h⟩:=ah.1 h;obtain⟨a1,n1,b1,c1⟩:=yC rows _ _ m1 h2;have hm:=(mG r _ m' h).1;obtain⟨n2,b2,c2⟩:=DK r _ m' h hn;refine⟨n1++n2,by rw[b2,b1,aT],λae j hj=>?_⟩;simp only[bH,aQ]at hj;have hd:(n1++n2++ae).drop (vK rows).length=n2++ae:=by rw[<- c1,aT,List.drop_left]
  simp only[lens,hd];by_cases hjk:j=k;subst hjk;exact⟨_,_,hn _ (hm.1 _ (a1.1 _ (by simp))),h1,λc2 l2 he=>by cases he⟩;rcases hj with rfl|hj;exact(hjk rfl).elim;exact c2 ae j hj;cases h;cases h
theorem KE:∀(os:List (Nat×OP X.ι))(L:List (DC X)),((lens os L).map (·.1)).Sublist (os.map (·.1))
 |[],_=>by simp[lens]
 |(k,.l c)::r,L=>by
  simp[lens];split;exact(KE r _).cons_cons _
  grind
 |(k,.m kc vc)::r,L|(k,.c sz rows)::r,L=>(KE r _).cons _
def aiB(get':Nat->Option aO)(NM:List (Nat×Nat))(p0:List Nat)(bs:List OB)(ks:List Nat):Prop:=
 ∀(j:Nat) hs q o,bs[j]? =some (.GT hs)->ks[j]? =some q->get' q=some o->∀k∈OI o,(∃ z,(k,z)∈NM)\/k∈p0
theorem Md{sz:Nat}{rows:List (List (DV X))}{k:Nat}(h:k∈OI (bK (.cells sz rows))):k∈(rows.map aL).flatten:=by
 grind [OI,bK,jh]
theorem aaU:∀ts:List Tree,fq (ts.map AV.t)=[]
 |[]=>rfl
 |t::ts=>by simp[fq,refs,aaU ts]
theorem ahr{P:Program}{get:Nat->Option aO}:∀(ts:List Tree)(hs:List LH),mU P get (ts.map AV.t) hs=some (ts.map AV.t,hs,[])
 |[],hs=>rfl
 |t::ts,hs=>by simp[mU,oV,ahr ts hs]
theorem aiC{P:Program}{get:Nat->Option aO}{ab:List Nat}(v:TV):qp P get ab v.av []=some (v.av,[],[]):=by rcases v with x|cs;rfl;have h:refs (.agg (cs.map AV.t))=[]:=aaU cs;simp[TV.av,qp,h,oV,ahr]
theorem Zn{P:Program}{get:Nat->Option aO}{ab:List Nat}:∀rows:List (TV×TV),Dq P get ab (rows.map λq=>[q.1.av,q.2.av]) (rows.map λ_=>[])=some (rows.map λq=>[q.1.av,q.2.av],[])
 |[]=>rfl
 |q::rows=>by simp[Dq,mF,aiC,Zn rows]
theorem zS(hi:∀q∈NM,ab[q.2]? =some q.1)(hv:∀k∈p0,k∉ab)(hrd:∀k,(∃ q,(k,q)∈NM)\/k∈p0->k∈rd)(ho:∀q∈NM,∀c l,get q.1=some (.ec c l)->dg q.2=l.length):
 ∀(os:List (Nat×OP X.ι))(m m':MG X),BZ get os m=some m'->(∀ q∈m'.nm,q∈NM)->(∀ c∈m'.iS,c=true)->(∀ k∈m'.vr,k∈p0)->
 ∃al,m'.er=m.er++al/\∃xs:List (Nat×bu X),(∀ ae,bZ dg os (al++ae)=xs.map λp=>(p.1,some p.2))/\
  ∃bs mo,(∀ p∈mo,p)/\J8 P (dN rd (fO get)) ab (os.map λp=>(ab[p.1]?).getD 0) bs=some (xs.map λp=>bK p.2,mo)/\aiB (dN rd (fO get)) NM p0 bs (os.map λp=>(ab[p.1]?).getD 0)
 |[],m,m',h,_,_,_=>by simp[BZ]at h;subst h;exact⟨[],by simp,[],λae=>rfl,[],[],by simp,rfl,λj hs q o h=>by simp at h⟩
 |(k,op)::r,m,m',h,hn,hc,hr=>by
  simp[BZ]at h;rw[ah]at h;obtain⟨o,h1,h⟩:=h;split at h;rename_i c c' l;have⟨l',h2,h⟩:=ah.1 h;have hm:=(mG r _ m' h).1;have hq:(qu m k,k)∈NM:=hn _ (hm.1 _ (by simp));have hid:(ab[k]?).getD 0=qu m k:=by grind
  have hget:=fB (hrd (qu m k) (.inl ⟨k,hq⟩)) h1;have⟨h3,h4⟩:=jF h2;obtain⟨n2,a2,xs,b2,bs,mo,p2,q2,r2⟩:=zS hi hv hrd ho r _ m' h hn hc hr;refine⟨[⟨.sl c,l'⟩]++n2,by rw[a2,aT],(k,.ec c l')::xs,λae=>by simp[bZ,b2],.dat (CT.sz X c,l'.map (CT.row X.toSE c))::bs,((bK (.ec c' l)).sz=CT.sz X c/\dW ((bK (.ec c' l)).rows.take (l'.map (CT.row X.toSE c)).length)=aI (l'.map (CT.row X.toSE c)))::mo,?_,?_,?_⟩;intro p hp;rcases aQ.1 hp with rfl|hp;refine⟨h3,?_⟩;simp[bK,h4];rw[take_of_length_le (by simp[aI])];simp[dW,aI,wk];exact p2 p hp;simp[bH,J8,UA,hid,hget,ai,q2,cons_append,fT];rfl;intro j hs q o' hj hq' ho';cases j with
  |zero=>simp at hj
  |succ j=>exact r2 j hs q o' (by simpa using hj) (by simpa using hq') ho'
  rename_i kc vc ua tU l;split at h;rename_i hone;have⟨l',h2,h⟩:=ah.1 h;have hm:=(mG r _ m' h).1;have hq:(qu m k,k)∈NM:=hn _ (hm.1 _ (by simp));have hid:(ab[k]?).getD 0=qu m k:=by rw[hi _ hq];rfl
  have hget:=fB (hrd (qu m k) (.inl ⟨k,hq⟩)) h1;have hden:bK (.map ua tU l)=bK (.map kc vc l'):=by have⟨e,h2⟩:=rG h2;injection e with e1 e2;subst e1;subst e2;subst h2;rfl
  obtain⟨n2,a2,xs,b2,bs,mo,p2,q2,r2⟩:=zS hi hv hrd ho r _ m' h hn hc hr;rcases hone with hone|_;have hab:bK (.map kc vc l')=gz (List.length l',l'.map λq=>CT.row X.toSE kc q.1++CT.row X.toSE vc q.2):=by simp only[bK,gz,aI,map_map];congr 1;refine map_congr_left λq _=>?_;obtain⟨t1,g1,g2⟩:=row_one hone.1 q.1;obtain⟨t2,g3,g4⟩:=row_one hone.2 q.2;simp[g1,g2,g3,g4,TV.av]
  refine⟨[⟨.mp kc vc,l'⟩]++n2,by rw[a2,aT],(k,.map kc vc l')::xs,λae=>by simp[cons_append,fT,bZ,b2,bH],.dat (List.length l',l'.map λq=>CT.row X.toSE kc q.1++CT.row X.toSE vc q.2)::bs,((bK (.map ua tU l)).sz=List.length l'/\dW ((bK (.map ua tU l)).rows.take (l'.map λq=>CT.row X.toSE kc q.1++CT.row X.toSE vc q.2).length)=aI (l'.map λq=>CT.row X.toSE kc q.1++CT.row X.toSE vc q.2))::mo,?_,?_,?_⟩;intro p hp;rcases aQ.1 hp with rfl|hp;rw[hden,hab];refine⟨rfl,?_⟩;simp[gz];rw[take_of_length_le (by simp[aI])];simp[dW,aI,Function.comp_def,wk];exact p2 p hp;simp[bH,J8,UA,hid,hget,ai,q2,cons_append,fT,hab];intro j hs q o' hj hq' ho';cases j with
  |zero=>simp at hj
  |succ j=>exact r2 j hs q o' (by simpa using hj) (by simpa using hq') ho'
  refine⟨[⟨.mp kc vc,l'⟩]++n2,by rw[a2,aT],(k,.map kc vc l')::xs,λae=>by simp[cons_append,fT,bZ,b2,bH],.GT ((l'.map λq=>(CT.tv X.toSE kc q.1,CT.tv X.toSE vc q.2)).map λ_=>[])::bs,mo,p2,?_,?_⟩;have hlr:=Zn (P:=P) (get:=dN rd (fO get)) (ab:=ab) (l'.map λq=>(CT.tv X.toSE kc q.1,CT.tv X.toSE vc q.2));have hdr:(bK (.map kc vc l')).rows=(l'.map λq=>(CT.tv X.toSE kc q.1,CT.tv X.toSE vc q.2)).map λq=>[q.1.av,q.2.av]:=by simp only[bK,map_map];rfl
  simp only[bH,J8,UA,hid,hget,ai,q2,hden,hdr,hlr,fT];rw[<- hdr];intro j hs q o' hj hq' ho';cases j with
  |zero=>
   simp[bH,List.getElem?_cons_zero,bM]at hq';subst hq';rw[hid,hget]at ho';injection ho' with ho';subst ho';intro k hk;rw[hden]at hk;simp only[OI,bK,mem_flatMap,mem_map]at hk;obtain⟨_,⟨q,_,rfl⟩,hk⟩:=hk;simp[fq,zP,append_nil,nI]at hk
  |succ j=>exact r2 j hs q o' (by simpa using hj) (by simpa using hq') ho'
  cases h;rename_i sz rows sz' rows';split at h;rename_i hsz;have⟨m1,h2,h⟩:=ah.1 h;have hm1:=(yC rows _ _ m1 h2).1;have hm:=(mG r _ m' h).1;have hq:(qu m k,k)∈NM:=hn _ (hm.1 _ (hm1.1 _ (by simp)));have hid:(ab[k]?).getD 0=qu m k:=by rw[hi _ hq];rfl
  have hget:=fB (hrd (qu m k) (.inl ⟨k,hq⟩)) h1;obtain⟨n1,a1,qs,b1,⟨hs1,o1,p1,q1⟩,r1⟩:=Q0 (P:=P) hi hv hrd ho rows _ _ m1 h2 (λ q hq=>hn q (hm.1 q hq)) (λ q hq=>hc q (hm.2.1 q hq)) (λ q hq=>hr q (hm.2.2 q hq));obtain⟨n2,a2,xs,b2,bs,mo,p2,q2,r2⟩:=zS hi hv hrd ho r _ m' h hn hc hr;subst hsz;refine⟨n1++n2,by rw[a2,a1,aT],(k,.cells sz qs)::xs,λae=>by simp[aT,bZ,b1,b2,bH],.GT hs1::bs,o1++mo,iD p1 p2,?_,?_⟩;simp[bH,J8,UA,hid,hget,ai,bK,q1,q2];intro j hs q o' hj hq' ho';cases j with
  |zero=>
   simp[bH,List.getElem?_cons_zero,bM]at hq';rw[<- hq',hid,hget]at ho';injection ho' with ho';subst ho';exact λz hz=>r1 z (Md hz)
  |succ j=>exact r2 j hs q o' (by simpa using hj) (by simpa using hq') ho'
  cases h;cases h
end
end
end Go.Gb
namespace Go.Gb
open Go.RowKit
section
variable {X:SX} {A:Type}
theorem afI:∀(l:List (CT X.ι))(v:VT (X:=X) l),(vL l v).map (·.c)=l
 |[],_|[_],_=>rfl
 |c::c'::l,v=>by simp[vL,afI (c'::l) v.2]
theorem O5:∀{l:List Tree},(∀ t∈l,t.flat)->pW (l.map AV.t)
 |[],_=>trivial
 |t::l,h=>⟨h t (by simp),O5 (λ u hu=>h u (by grind))⟩
theorem aaV{c:CT X.ι}(h:wT c=true)(x:CT.T X.toSE c):Dt (CT.tv X.toSE c x).av:=by
 have hf:=uQ h x;cases c
 case st i=>exact O5 hf
 all_goals trivial
section
variable {ol:Nat->Nat}
mutual
theorem al3:∀(p:Pt X.ι)(L:List (DC X))(cs:List (CT X.ι)),L.map (·.c)=p.vars++cs->p.vars.all wT=true->Dt (den (eP ol p L).1)/\(eP ol p L).2.map (·.c)=cs
 |.v c,L,cs,h,hs=>by
  match L,h with
  |d::r,h=>
   simp[Pt.vars]at h;simp[Pt.vars]at hs;exact⟨aaV (h.1 ▸ hs) d.x,h.2⟩
  |[],h=>trivial
 |.o k,L,cs,h,_|.p k,L,cs,h,_|.mp k,L,cs,h,_|.oz k,L,cs,h,_|.nil,L,cs,h,_=>⟨trivial,by trivial⟩
 |.od k,L,cs,h,_=>by
  match L,h with
  |d::r,h=>
   simp[Pt.vars]at h;exact⟨trivial,h.2⟩
  |[],h=>simp[Pt.vars]at h
 |.f F fs ps,L,cs,h,hs=>by simp only[Pt.vars,List.all_append,bC]at hs;simp[Pt.vars]at h;obtain⟨a1,a2⟩:=Ca fs L _ h hs.1;obtain⟨b1,b2⟩:=Ca ps _ _ a2 hs.2;exact⟨⟨a1,b1⟩,b2⟩
 |.a ps,L,cs,h,hs=>by simp only[Pt.vars]at h hs;exact Ca ps L cs h hs
theorem Ca:∀(ps:List (Pt X.ι))(L:List (DC X))(cs:List (CT X.ι)),L.map (·.c)=cJ ps++cs->(cJ ps).all wT=true->pW (bI (k8 ol ps L).1)/\(k8 ol ps L).2.map (·.c)=cs
 |[],L,cs,h,_=>⟨trivial,by simpa[cJ,k8]using h⟩
 |p::ps,L,cs,h,hs=>by simp only[cJ,List.all_append,bC]at hs;simp[cJ]at h;obtain⟨a1,a2⟩:=al3 p L _ h hs.1;obtain⟨b1,b2⟩:=Ca ps _ _ a2 hs.2;exact⟨⟨a1,b1⟩,b2⟩
end
mutual
theorem al4:∀(p:Pt X.ι)(L:List (DC X)),∀j∈br (eP ol p L).1,j∈p.refs
 |.v c,L,j,h=>by cases L<;>simp[eP,br]at h
 |.o k,L,j,h|.p k,L,j,h|.mp k,L,j,h|.oz k,L,j,h=>by simpa[eP,br,Pt.refs]using h
 |.nil,L,j,h=>by simp[eP,br]at h
 |.od k,L,j,h=>by cases L<;>simp[eP,br]at h<;>simp[Pt.refs,h]
 |.f F fs ps,L,j,h=>by simp[eP,br]at h;simp[Pt.refs];exact h.imp (vP fs _ j) (vP ps _ j)
 |.a ps,L,j,h=>by simp[eP]at h;simp[Pt.refs];exact vP ps _ j h
theorem vP:∀(ps:List (Pt X.ι))(L:List (DC X)),∀j∈aL (k8 ol ps L).1,j∈wD ps
 |[],L,j,h=>by simp[k8,aL]at h
 |p::ps,L,j,h=>by simp[k8,aL]at h;simp[wD];exact h.imp (al4 p _ j) (vP ps _ j)
end
theorem KF:∀(rs:List (List (Pt X.ι)))(L:List (DC X))(cs:List (CT X.ι)),L.map (·.c)=vK rs++cs->(vM ol rs L).2.map (·.c)=cs/\((vK rs).all wT=true->∀r∈(vM ol rs L).1,pW (bI r))
 |[],L,cs,h=>⟨by simpa[vK,vM]using h,by simp[vM]⟩
 |r::rs,L,cs,h=>by simp[vK]at h;have step:(k8 ol r L).2.map (·.c)=vK rs++cs:=ue r L _ h;obtain⟨b1,b2⟩:=KF rs _ _ step;refine⟨b1,λhs q hq=>?_⟩;simp only[vK,List.all_append,bC]at hs;simp[vM]at hq;rcases hq with rfl|hq;exact(Ca r L _ h hs.1).1;exact b2 hs.2 q hq
where
 ue (ps:List (Pt X.ι)) (L:List (DC X)) (cs:List (CT X.ι)) (h:L.map (·.c)=cJ ps++cs):(k8 ol ps L).2.map (·.c)=cs:=pp ps L cs h
 Ek:∀(p:Pt X.ι)(L:List (DC X))(cs:List (CT X.ι)),L.map (·.c)=p.vars++cs->(eP ol p L).2.map (·.c)=cs
  |.v c,L,cs,h=>by
   match L,h with
   |d::r,h=>simp[Pt.vars]at h;exact h.2
   |[],h=>simp[Pt.vars]at h
  |.o k,L,cs,h|.p k,L,cs,h|.mp k,L,cs,h|.oz k,L,cs,h|.nil,L,cs,h=>by simpa[Pt.vars,eP]using h
  |.od k,L,cs,h=>by
   match L,h with
   |d::r,h=>simp[Pt.vars]at h;exact h.2
   |[],h=>simp[Pt.vars]at h
  |.f F fs ps,L,cs,h=>by simp[Pt.vars]at h;exact pp ps _ _ (pp fs L _ h)
  |.a ps,L,cs,h=>by simp[Pt.vars]at h;exact pp ps L cs h
 pp:∀(ps:List (Pt X.ι))(L:List (DC X))(cs:List (CT X.ι)),L.map (·.c)=cJ ps++cs->(k8 ol ps L).2.map (·.c)=cs
  |[],L,cs,h=>by simpa[cJ,k8]using h
  |p::ps,L,cs,h=>by simp[cJ]at h;exact pp ps _ _ (Ek p L _ h)
theorem Vg:∀(rs:List (List (Pt X.ι)))(L:List (DC X)),∀j∈((vM ol rs L).1.map aL).flatten,j∈rs.flatMap wD
 |[],L,j,h=>by simp[vM]at h
 |r::rs,L,j,h=>by simp only[vM,bH,List.flatten_cons,bL]at h;simp only[List.flatMap_cons,bL];exact h.imp (vP r _ j) (Vg rs _ j)
theorem yD:∀(O:List (Nat×OP X.ι))(L:List (DC X)),((dI (bZ ol O L)).map (·.1)).Sublist (O.map (·.1))/\(∀ p∈dI (bZ ol O L),∃op,(p.1,op)∈O/\∀j∈d7 p.2,j∈op.refs)/\
 (L.map (·.c)=cX O->(O.all λq=>match q.2 with|.l c=>wT c|.m _ _=>false|.c _ rows=>(vK rows).all wT)=true->∀p∈dI (bZ ol O L),∀r∈(bK p.2).rows,pW r)
 |[],L=>⟨by simp[bZ,dI],by simp[bZ,dI],by simp[bZ,dI]⟩
 |(k,.l c)::O,L=>by
  match L with
  |[]=>exact⟨by simp[bZ,dI],by simp[bZ,dI],by simp[bZ,dI]⟩
  |⟨.sl c',x⟩::L=>
   have⟨h1,h2,h3⟩:=yD O L;refine⟨?_,?_,?_⟩;simp only[bZ,dI,bH];exact h1.cons_cons _;intro p hp;simp[bZ,dI]at hp;rcases hp with rfl|hp;exact⟨.l c,by simp,by simp[d7]⟩;have⟨op,g1,g2⟩:=h2 p hp;exact⟨op,cZ _ g1,g2⟩;intro hL hs p hp r hr;simp only[bH,cX,List.cons.injEq]at hL;simp only[all_cons,bC]at hs;simp[bZ,dI]at hp;rcases hp with rfl|hp;obtain⟨e,_⟩:=hL;injection e with e;simp only[bK,aI,mem_map]at hr;obtain⟨q,⟨y,hy,rfl⟩,rfl⟩:=hr;exact O5 (uQ (e ▸ hs.1) y);exact h3 hL.2 hs.2 p hp r hr
  |⟨.int _,x⟩::L=>exact⟨by simp[bZ,dI],by simp[bZ,dI],by simp[bZ,dI]⟩
  |⟨.bool,x⟩::L=>exact⟨by simp[bZ,dI],by simp[bZ,dI],by simp[bZ,dI]⟩
  |⟨.str,x⟩::L=>exact⟨by simp[bZ,dI],by simp[bZ,dI],by simp[bZ,dI]⟩
  |⟨.any,x⟩::L=>exact⟨by simp[bZ,dI],by simp[bZ,dI],by simp[bZ,dI]⟩
  |⟨.mp _ _,x⟩::L=>exact⟨by simp[bZ,dI],by simp[bZ,dI],by simp[bZ,dI]⟩
  |⟨.st _,x⟩::L=>exact⟨by simp[bZ,dI],by simp[bZ,dI],by simp[bZ,dI]⟩
 |(k,.m kc vc)::O,L=>by
  match L with
  |[]=>exact⟨by simp[bZ,dI],by simp[bZ,dI],by simp[bZ,dI]⟩
  |⟨.mp ua tU,x⟩::L=>
   have⟨h1,h2,h3⟩:=yD O L;refine⟨?_,?_,?_⟩;simp only[bZ,dI,bH];exact h1.cons_cons _;intro p hp;simp[bZ,dI,aQ]at hp;rcases hp with rfl|hp;exact⟨.m kc vc,by simp,by simp[d7]⟩;have⟨op,g1,g2⟩:=h2 p hp;exact⟨op,cZ _ g1,g2⟩;intro hL hs;simp at hs
  |⟨.sl _,x⟩::L=>exact⟨by simp[bZ,dI],by simp[bZ,dI],by simp[bZ,dI]⟩
  |⟨.int _,x⟩::L=>exact⟨by simp[bZ,dI],by simp[bZ,dI],by simp[bZ,dI]⟩
  |⟨.bool,x⟩::L=>exact⟨by simp[bZ,dI],by simp[bZ,dI],by simp[bZ,dI]⟩
  |⟨.str,x⟩::L=>exact⟨by simp[bZ,dI],by simp[bZ,dI],by simp[bZ,dI]⟩
  |⟨.any,x⟩::L=>exact⟨by simp[bZ,dI],by simp[bZ,dI],by simp[bZ,dI]⟩
  |⟨.st _,x⟩::L=>exact⟨by simp[bZ,dI],by simp[bZ,dI],by simp[bZ,dI]⟩
 |(k,.c sz rows)::O,L=>by have⟨h1,h2,h3⟩:=yD O (vM ol rows L).2;refine⟨?_,?_,?_⟩;simp only[bZ,dI,bH];exact h1.cons_cons _;intro p hp;simp[bZ,dI,aQ]at hp;rcases hp with rfl|hp;exact⟨.c sz rows,by simp,λj hj=>Vg rows L j hj⟩;have⟨op,g1,g2⟩:=h2 p hp;exact⟨op,cZ _ g1,g2⟩;intro hL hs p hp r hr;simp[cX]at hL;simp only[all_cons,bC]at hs;obtain⟨e1,e2⟩:=KF (ol:=ol) rows L _ hL;simp[bZ,dI,aQ]at hp;rcases hp with rfl|hp;simp[bK,mem_map]at hr;obtain⟨q,hq,rfl⟩:=hr;exact e2 hs.1 q hq;exact h3 e1 hs.2 p hp r hr
end
theorem O6(k:Nat):∀os:List (Nat×bu X),pD (oL os) k=(tG os k).map bK
 |[]=>rfl
 |(j,o)::r=>by simp[oL,pD,tG];split;rfl;exact O6 k r
theorem Vh(f:Nat->Nat)(c:CT X.ι)(x:CT.T X.toSE c):ju f (CT.tv X.toSE c x).av=(CT.tv X.toSE c x).av:=(zR f (.c c x)).symm
theorem acX(f:Nat->Nat)(o:bu X):bK (pP f o)=Jz f (bK o):=by
 cases o with
 |cells sz rows=>simp only[pP,bK,Jz,map_map];congr 1;exact map_congr_left λr _=>GQ f r
 |ec c l=>simp only[pP,bK,Jz,aI,map_map];congr 1;exact map_congr_left λr _=>(afG f _).symm
 |map kc vc l=>simp only[pP,bK,Jz,map_map];congr 1;exact map_congr_left λr _=>by simp[BP,Vh]
theorem aiD(i:Nat)(ab:List Nat)(os:List (Nat×bu X)):jy (RR i ab os)=AK i ab (oL os):=by simp[RR,rT];congr 1;simp only[jy,map_map];refine map_congr_left λp _=>?_;simp[O6];cases tG os p.2<;>simp[acX];simp[jy,oL,List.filter_map];refine map_congr_left λq _=>?_;simp[acX]
theorem Vi{ds:List (DV X)}:(∀ j∈refs (den (yA ds)),j∈aL ds)/\(pW (bI ds)->Dt (den (yA ds))):=by
 match ds with
 |[]=>exact⟨λ j hj=>by simp[yA,den,bI,refs,fq]at hj,λ_=>by simp[yA];exact trivial⟩
 |[d]=>exact⟨λ j hj=>by simp[yA,iU]at hj;simpa[aL]using hj,λh=>h.1⟩
 |d::e::r=>exact⟨λ j hj=>by simp[yA,den,refs,jh]at hj;exact hj,λh=>h⟩
theorem Zo:∀xs:List (Nat×bu X),dI (xs.map λp=>(p.1,some p.2))=xs
 |[]=>rfl
 |p::xs=>by simp[dI,Zo xs]
theorem aaW{P:Program}{g:cM X}{F:FuncId}(hg:G3 P F g){i:Nat}{first args caps:List (DV X)}{get:Nat->Option (bu X)}{k:KK X A}{r:A}(h:afH g i (first++args++caps) get k=some r):
 ∃cp rd wr dv upd out,lU P i (den (.fn F first caps)) (bI args) cp (dN rd (fO get))=some out/\kT out.obs/\out.v=den dv/\out.upd=jy upd/\(∀ p∈upd,p.1=cC i\/p.1∈wr)/\k dv upd rd wr=some r:=by
 unfold afH at h;rw[ah]at h;obtain⟨m1,h1,h⟩:=h;rw[ah]at h;obtain⟨m,h2,h⟩:=h;have⟨h3,h⟩:=dU h;rw[ah]at h;obtain⟨v,h4,h⟩:=h;have⟨h5,h⟩:=pX h;rw[ah]at h;obtain⟨rr,h6,h⟩:=h;simp at h3;obtain⟨hok,Cl⟩:=h3;simp only at h;generalize km:(List.range g.io.length).map (qu m)=ab at h Cl;simp only[cM.ok,bC,bF]at hok;obtain⟨⟨⟨⟨n1,n2⟩,n3⟩,n4⟩,n5⟩:=hok;simp only[okG,bC,bF]at Cl;obtain⟨⟨hnd,hnm⟩,B8⟩:=Cl;have hlen:ab.length=g.io.length:=by rw[<- km];simp
 have hi:∀q∈m.nm,ab[q.2]? =some q.1:=by intro q hq;have:=all_eq_true.1 hnm q hq;split at this;rename_i k' e;rw[e,Nat.eq_of_beq_eq_true this];cases this
 have hv:∀k∈m.vr,k∉ab:=λk hk=>by have:=all_eq_true.1 B8 k hk;simpa using this
 have hrd:∀k,(∃ q,(k,q)∈m.nm)\/k∈m.vr->k∈ab++m.vr:=by rintro k (⟨q,hq⟩|hk);exact mem_append_left _ (cB (hi _ hq));exact mem_append_right _ hk
 have hm2:=(mG _ _ _ h2).1;have vx:=U6 h4;obtain⟨_,nA,dA,lA⟩:=vO _ _ _ _ h1;simp at dA;obtain⟨nB,dB,lB⟩:=DK (NM:=m.nm) _ _ _ h2 (λ q hq=>hq);have hL:m.er=nA++nB:=by rw[dB,dA]
 have hdrop:(vL _ v).drop (cJ g.mj).length=nB:=by rw[vx,hL,<- lA,List.drop_left]
 have htake:(vL _ v).take (cJ g.mj).length=nA:=by rw[vx,hL,<- lA,List.take_left]
 have ho:∀q∈m.nm,∀c l,get q.1=some (.ec c l)->DF g.io nB q.2=l.length:=by
  rintro⟨p,q⟩ hq c l hl;have hq2:=hi _ hq;have hqn:q<g.io.length:=by rw[<- hlen];exact(dn.1 hq2).1
  obtain⟨p',o,g1,g2,g3⟩:=lB [] q (by rw[n1];exact List.mem_range.2 hqn);have:p'=p:=by have e1:=hi _ g1;rw[hq2]at e1;injection e1 with e1;exact e1.symm
  subst this;simp at hl;rw[hl]at g2;injection g2 with g2;have h3:=g3 c l g2.symm;rw[append_nil]at h3;have hk:=(KE g.io nB).nodup (by rw[n1];exact List.nodup_range);simp[DF,uO hk h3]
 obtain⟨Vc,L5,ds',eA,⟨hs,obs,pA,qA⟩,rA⟩:=xV (P:=P) (ab:=ab) (rd:=ab++m.vr) (NM:=m.nm) (p0:=m.vr) (dg:=DF g.io nB) hi hv hrd ho _ _ _ _ h1 (λ q hq=>hm2.1 q hq) (λ c hc=>h5 c (hm2.2.1 c hc)) (λ q hq=>hm2.2.2 q hq);obtain⟨nB',dB',xs,eB,bs,mo,pB,qB,rB⟩:=zS (P:=P) (ab:=ab) (rd:=ab++m.vr) (NM:=m.nm) (p0:=m.vr) (dg:=DF g.io nB) hi hv hrd ho _ _ _ h2 (λ q hq=>hq) h5 (λ q hq=>hq);have eqA:Vc=nA:=by simp at L5;rw[<- L5,dA]
 have eqB:nB'=nB:=List.append_cancel_left (dB'.symm.trans dB);subst eqA eqB;have L3:=eA [];have LS:=eB [];rw[append_nil]at L3 LS;have hargs:g.args v=ds':=by simp[cM.args,U8,hdrop,htake,L3]
 have qk:g.cy v=xs:=by simp[cM.cy,Zh,hdrop,LS,Zo]
 have Z3:(g.io.map λp=>(ab[p.1]?).getD 0)=ab:=by
  have:(g.io.map λp=>(ab[p.1]?).getD 0)=(g.io.map (·.1)).map λj=>(ab[j]?).getD 0:=by rw[map_map];rfl
  rw[this,n1];refine List.ext_getElem (by simp[hlen]) λj a b=>?_;simp[dm b]
 rw[Z3]at qB rB;have qA0:=qA [];rw[append_nil,jA,jA]at qA0;have hcon:=hg v rr h6;rw[hargs,qk]at hcon;obtain⟨s1,s2,s3⟩:=yD (ol:=DF g.iz ((vL (gO (lr 0 g.fp)++cX g.iz) rr).drop (cJ g.fp).length)) g.iz ((vL _ rr).drop (cJ g.fp).length);have BE:∀k,HP g.io.length k=true->Fl ab.length k:=by intro k hk;simp[HP]at hk;simp[hlen];exact hk
 have good:Y5 ab.length (oL (g.outs rr)) (den (g.res rr)):=by
  refine⟨?_,?_,?_,?_⟩;intro q hq;simp only[oL,mem_map]at hq;obtain⟨p,hp,rfl⟩:=hq;have⟨op,g1,_⟩:=s2 p hp;have:=all_eq_true.1 n3 _ g1;simp at this;exact BE _ this.1;have:(oL (g.outs rr)).map (·.1)=(g.outs rr).map (·.1):=by simp[oL]
  rw[this];exact s1.nodup n4;intro q hq r' hr' j hj;simp only[oL,mem_map]at hq;obtain⟨p,hp,rfl⟩:=hq;have⟨op,g1,g2⟩:=s2 p hp;have:=all_eq_true.1 n3 _ g1;simp only[bC]at this;refine BE _ (all_eq_true.1 this.2 j (g2 j ?_));obtain⟨pk,po⟩:=p;cases po with
  |cells sz rows=>exact Md (mem_flatMap.2 ⟨r',hr',hj⟩)
  |ec c l=>
   simp[bK,aI,mem_map]at hr';obtain⟨z,_,rfl⟩:=hr';rw[aaU]at hj;simp at hj
  |map kc vc l=>
   simp only[bK,mem_map]at hr';obtain⟨z,_,rfl⟩:=hr';simp only[fq,zP,append_nil]at hj;simp at hj
  intro j hj;have:=(Vi (ds:=U8 g.fp g.iz (vL _ rr))).1 j hj;exact BE _ (all_eq_true.1 n5 j (vP g.fp _ j this))
 have flat:g.flat=true->nr (oL (g.outs rr)) (den (g.res rr)):=by intro hf;simp only[cM.flat,bC]at hf;have hc:(vL (gO (lr 0 g.fp)++cX g.iz) rr).map (·.c)=cJ g.fp++cX g.iz:=(afI _ rr).trans (by rw[OY]);refine⟨(Vi (ds:=U8 g.fp g.iz (vL _ rr))).2 ?_,?_⟩;refine(Ca (ol:=_) g.fp _ [] ?_ hf.1).1;rw[append_nil,map_take,hc,List.take_left];intro q hq r' hr';simp only[oL,mem_map]at hq;obtain⟨p,hp,rfl⟩:=hq;exact s3 (by rw[map_drop,hc,List.drop_left]) hf.2 p hp r' hr'
 have cL:UB (dN (ab++m.vr) (fO get)) (bI first++bI args++bI caps) ab m.vr bs:=by refine⟨hv,λj hj hn=>?_,λj hs' q o e1 e2 e3 z hz hn=>?_⟩;rw[<- jA,<- jA,jh]at hj;rcases rA j hj with ⟨q,hq⟩|hj;exact absurd (cB (hi _ hq)) hn;exact hj;rcases rB j hs' q o e1 e2 e3 z hz with ⟨q',hq⟩|hz;exact absurd (cB (hi _ hq)) hn;exact hz
 refine⟨.tP ab m.vr bs hs (oL (g.outs rr)) (den (g.res rr)) g.flat,ab++m.vr,_,_,_,
  ⟨ju (cn i ab) (den (g.res rr)),AK i ab (oL (g.outs rr))++(if g.flat then []else m.vr.map λk=>(k,none)),obs++mo++[Gk P F (bI ds') (xs.map λp=>bK p.2) (oL (g.outs rr)) (den (g.res rr)),Y5 ab.length (oL (g.outs rr)) (den (g.res rr)),UB (dN (ab++m.vr) (fO get)) (bI first++bI args++bI caps) ab m.vr bs]++(if g.flat then [nr (oL (g.outs rr)) (den (g.res rr))]else [])⟩,?_,?_,(zR _ _).symm,?_,?_,h⟩
 simp only[den,lU,LF,qB,qA0,ai];rw[aY ⟨hnd,by omega⟩];refine qX _ (iD (iD (iD pA pB) ?_) ?_);intro z hz;simp only[aQ,nI,or_false]at hz;rcases hz with rfl|rfl|rfl;exact hcon;exact good;exact cL;intro z hz;cases hf:g.flat with
 |true=>rw[hf]at hz;simp only[if_true,bq]at hz;subst hz;exact flat hf
 |false=>rw[hf]at hz;simp at hz
 simp[rT,aiD];congr 1;cases g.flat with
 |true=>rfl
 |false=>exact(BV m.vr).symm
 intro p hp;refine .inr ?_;rcases bL.1 hp with hp|hp;exact mem_append_left _ (mem_append_right _ (mem_map.2 ⟨p,hp,rfl⟩));cases hf:g.flat with
 |true=>rw[hf]at hp;simp at hp
 |false=>
  rw[hf]at hp;simp[Bool.false_eq_true,if_false,mem_map]at hp;obtain⟨z,hz,rfl⟩:=hp;exact mem_append_right _ hz
end
section
variable {X:SX} {A:Type}
def Vj:RT X.ι->Bool
 |.d c=>wT c
 |.fresh e=>wT e
 |.whole _=>true
 |.mu c=>wT c
 |.mr c=>wT c
 |.mv=>true
theorem acY{c:CT X.ι}(h:wT c=true)(x:CT.T X.toSE c):(CT.tv X.toSE c x).flat:=by
 cases c
 case st i=>exact uQ h x
 all_goals trivial
theorem Vk{ns:List Nat}{q:RT X.ι}{x:RT.T X q}(h:Vj q=true):∀c∈U9 ns q x,c.flat:=by
 intro c hc;cases q<;>simp[U9]at hc
 case d c=>subst hc;exact acY h x
 case fresh e=>
  subst hc;intro row hr;obtain⟨y,_,rfl⟩:=mem_map.1 hr;exact uQ h y
 case whole j=>subst hc;trivial
theorem Q5{ns:List Nat}:∀{l:List (RT X.ι)}{x:sG X l},l.all Vj=true->∀c∈DI ns l x,c.flat
 |[],x,_,c,hc=>by trivial
 |[q],x,h,c,hc=>Vk (by grind) c hc
 |q::q'::l,x,h,c,hc=>by simp at h;simp[DI]at hc;rcases hc with hc|hc;exact Vk h.1 c hc;exact Q5 (by grind) c hc
theorem Vl{l:List (RT X.ι)}(x:sG X l)(h:l.all Vj=true):(sM l x).flat:=by have:=Q5 (ns:=yp l x) (x:=x) h;unfold sM;split;rename_i c hc;exact this c (by grind);trivial
theorem Zp{q:RT X.ι}{x:RT.T X q}(h:Vj q=true):Ut (qI q x):=by
 intro p hp;cases q<;>simp[qI]at hp
 case mu c=>
  subst hp;intro r hr;obtain⟨y,_,rfl⟩:=mem_map.1 hr;exact uQ h y
 case mr c=>
  subst hp;intro r hr;obtain⟨y,_,rfl⟩:=mem_map.1 hr;exact uQ h y
theorem Zq:∀{l:List (RT X.ι)}{x:sG X l},l.all Vj=true->Ut (o6 l x)
 |[],x,_=>λp hp=>by trivial
 |[q],x,h=>Zp (q:=q) (by grind)
 |q::q'::l,x,h=>by simp at h;intro p hp;rcases bL.1 (show some p∈qI q x.1++o6 (q'::l) x.2 from hp)with hp|hp;exact Zp h.1 p hp;exact Zq (l:=q'::l) (by grind) p hp
def GR(i:Nat)(ab ns:List Nat):(q:RT X.ι)->RT.T X q->List (DV X)×List (Nat×Option (bu X))
 |.d c,x=>([.c c x],[])
 |.fresh e,l=>([.own (cC i) 0 l.length],[(cC i,some (.ec e l))])
 |.whole j,_=>([match ab[j]? with|some k=>.own k 0 (ns.getD j 0)|none=>.undef],[])
 |_,_=>([],[])
def Kg(i:Nat)(ab ns:List Nat):(l:List (RT X.ι))->sG X l->Option (List (DV X)×List (Nat×Option (bu X)))
 |[],_=>some ([],[])
 |[q],x=>some (GR i ab ns q x)
 |q::q'::l,x=>(Kg i ab ns (q'::l) x.2).bind λp=>if (GR i ab ns q x.1).2.isEmpty || p.2.isEmpty then some ((GR i ab ns q x.1).1++p.1,(GR i ab ns q x.1).2++p.2)else none
def an9:List (DV X)->DV X
 |[d]=>d
 |ds=>.eR ds
def Hm(i:Nat)(ab:List Nat)(l:List (RT X.ι))(x:sG X l):Option (DV X×List (Nat×Option (bu X))):=
 (Kg i ab (yp l x) l x).bind λp=>some (an9 p.1,p.2)
theorem aaX(u:List (Nat×Option (bu X))):(jy u).isEmpty=u.isEmpty:=by cases u<;>rfl
theorem Zr(i:Nat)(ab ns:List Nat)(q:RT X.ι)(x:RT.T X q):(∃ c,U9 ns q x=[c]/\∃d,(GR i ab ns q x).1=[d]/\Jy i ab c=(den d,jy (GR i ab ns q x).2))\/(U9 ns q x=[]/\GR i ab ns q x=([],[])):=by
 cases q
 case d c=>exact .inl ⟨_,rfl,_,rfl,rfl⟩
 case fresh e=>exact .inl ⟨_,rfl,_,rfl,by simp[Jy,GR,den,jy,bK,aI]⟩
 case whole j=>
  refine .inl ⟨_,rfl,_,rfl,?_⟩;simp[Jy,jy,GR];cases ab[j]?<;>rfl
 all_goals exact .inr ⟨rfl,rfl⟩
theorem acZ(i:Nat)(ab:List Nat)(c:RC):LA i ab [c]=some ([(Jy i ab c).1],(Jy i ab c).2):=by simp[LA]
theorem Zt(i:Nat)(ab ns:List Nat):∀(l:List (RT X.ι))(x:sG X l)(p:List (DV X)×List (Nat×Option (bu X))),Kg i ab ns l x=some p->LA i ab (DI ns l x)=some (bI p.1,jy p.2)
 |[],_,p,h=>by simp[Kg]at h;subst h;rfl
 |[q],x,p,h=>by simp[Kg]at h;subst h;simp[DI];rcases Zr i ab ns q x with ⟨c,h1,d,h2,h3⟩|⟨h1,h2⟩;rw[h1,acZ,h2,h3];simp[bI];rw[h1,h2];rfl
 |q::q'::l,x,p,h=>by simp only[Kg]at h;rw[ah]at h;obtain⟨p',h1,h⟩:=h;have ih:=Zt i ab ns (q'::l) x.2 p' h1;split at h;rename_i hc;cases h;simp[DI];rcases Zr i ab ns q x.1 with ⟨c,h1,d,h2,h3⟩|⟨h1,h2⟩;rw[h1];simp only[List.singleton_append,LA,ih,ai,h3,aaX];rw[aY hc,h2];simp[bI,jy];rw[h1,h2];exact ih;cases h
theorem ac0{i:Nat}{ab:List Nat}{l:List (RT X.ι)}{x:sG X l}{p:DV X×List (Nat×Option (bu X))}(h:Hm i ab l x=some p):imp i ab (sM l x)=some (den p.1,jy p.2):=by
 unfold Hm at h;rw[ah]at h;obtain⟨p',h1,h⟩:=h;cases h;have ih:=Zt i ab _ l x p' h1;unfold sM;split;rename_i c hc;rw[hc,acZ]at ih;simp at ih;obtain⟨ds,u⟩:=p'
 match ds,ih with
 |[d],ih=>
  grind [bI,imp,an9,ih.1,ih.2]
 |[],ih|_::_::_,ih=>grind [bI]
 rename_i hne;simp[imp,ih];obtain⟨ds,u⟩:=p'
 match ds,ih with
 |[],_|_::_::_,_=>rfl
 |[d],ih=>
  exfalso;generalize hcs:DI (yp l x) l x=cs at ih hne
  match cs,ih,hne with
  |[],ih,_=>grind [LA,bI]
  |[c],_,hne=>grind
  |c::c'::cs,ih,_=>
   simp[LA]at ih;cases h3:LA i ab cs with
   |none=>grind
   |some q=>
    rw[h3]at ih;simp at ih;split at ih;simp only[ai]at ih;split at ih;simp[bI]at ih;cases ih;simp at ih
def Rr:(q:RT X.ι)->RT.T X q->List (Option (bu X))
 |.mu c,x=>[some (.ec c x)]
 |.mr c,x=>[some (.cells (CT.sz X c) [uP c x])]
 |.mv,_=>[none]
 |_,_=>[]
def Vm:(l:List (RT X.ι))->sG X l->List (Option (bu X))
 |[],_=>[]
 |[q],x=>Rr q x
 |q::q'::l,x=>Rr q x.1++Vm (q'::l) x.2
def Q6:List Nat->List (Option (bu X))->List (Nat×Option (bu X))
 |k::ab,p::os=>(k,p)::Q6 ab os
 |_,_=>[]
theorem ac1(q:RT X.ι)(x:RT.T X q):(Rr q x).map (·.map bK)=(qI q x).map (·.map gz):=by
 cases q<;>try rfl
 case mr c=>simp[Rr,qI,bK,gz,uD,aI,oZ]
theorem O7:∀(l:List (RT X.ι))(x:sG X l),(Vm l x).map (·.map bK)=(o6 l x).map (·.map gz)
 |[],_=>rfl
 |[q],x=>ac1 q x
 |q::q'::l,x=>by simp[Vm,o6,ac1,O7 (q'::l) x.2]
theorem Zu:∀(ab:List Nat)(os:List (Option (bu X)))(os':List (Option fw)),os.map (·.map bK)=os'.map (·.map gz)->jy (Q6 ab os)=BN ab os'
 |[],_,_,_=>by rfl
 |_::_,[],[],_=>rfl
 |k::ab,p::os,p'::os',h=>by
  simp at h;have:=Zu ab os os' h.2
  simp_all [jy,Q6,BN,h.1,this]
 |_::_,[],_::_,h|_::_,_::_,[],h=>by simp at h
theorem KG:∀{ab:List Nat}{os:List (Option (bu X))}{p:Nat×Option (bu X)},p∈Q6 ab os->p.1∈ab
 |[],_,_,h|_::_,[],_,h=>by trivial
 |k::ab,q::os,p,h=>by simp[Q6]at h;rcases h with rfl|h;simp;exact cZ _ (KG h)
def aaY(get:Nat->Option (bu X))(d:DV X)(c:CT X.ι):Option (List (CT.T X.toSE c)×Nat×List Bool):=
 match d with
 |.own k 0 len=>(get k).bind λo=>match o with
  |.ec b l=>(lI (.sl b) (.sl c) l).bind λ(l:List (CT.T X.toSE c))=>some (l,k,[aE len (List.length l)])
  |_=>none
 |_=>none
def Vn(get:Nat->Option (bu X))(d:DV X)(c:CT X.ι):Option (CT.T X.toSE c×Nat):=
 match d with
 |.ptr k 0 0=>(get k).bind λo=>match o with
  |.cells sz [row]=>if sz=CT.sz X c then(LW c row).bind λx=>some (x,k)else none
  |_=>none
 |_=>none
def o7(Γ:FuncId->Option (b8 X))(get:Nat->Option (bu X)):List (DV X)->(l:List (AT X.ι))->Option (jo X l×List Nat×List Bool)
 |[],[]=>some ((),[],[])
 |d::ds,.mut c::l=>(aaY get d c).bind λx=>(o7 Γ get ds l).bind λh=>some ((x.1,h.1),x.2.1::h.2.1,x.2.2++h.2.2)
 |d::ds,.jz c::l=>(Vn get d c).bind λx=>(o7 Γ get ds l).bind λh=>some ((x.1,h.1),x.2::h.2.1,h.2.2)
 |d::ds,.d c::l=>(QY Γ get 3 [d] [.d c]).bind λx=>(o7 Γ get ds l).bind λh=>some ((x.1.1,h.1),h.2.1,x.2++h.2.2)
 |d::ds,.ref c::l=>(QY Γ get 3 [d] [.ref c]).bind λx=>(o7 Γ get ds l).bind λh=>some ((x.1.1,h.1),h.2.1,x.2++h.2.2)
 |d::ds,.dt as r::l=>(QY Γ get 3 [d] [.dt as r]).bind λx=>(o7 Γ get ds l).bind λh=>some ((x.1.1,h.1),h.2.1,x.2++h.2.2)
 |d::ds,.nil::l=>match d with
  |.nil=>(o7 Γ get ds l).bind λh=>some (((),h.1),h.2.1,h.2.2)
  |_=>none
 |_,_=>none
def Jc:List (DV X)->List (AT X.ι)->List Nat
 |d::ds,a::l=>(if a.im then []else br d)++Jc ds l
 |_,_=>[]
def Tb(get:Nat->Option (bu X)):List (DV X)->(l:List (CT X.ι))->Option (HL X.toSE l×List Bool)
 |[],[]=>some ((),[])
 |d::ds,c::l=>(EZ get d c).bind λx=>(Tb get ds l).bind λh=>some ((x.1,h.1),x.2++h.2)
 |_,_=>none
variable (Γ:FuncId->Option (b8 X))
def akc(i:Nat)(f:DV X)(args:List (DV X))(get:Nat->Option (bu X))(k:KK X A):Option A:=
 match f with
 |.fn F first caps=>(Γ F).bind λs=>match s.gen.filter λg=>(sq get g.mj (first++args++caps) ⟨[],[],[],[]⟩).isSome with
  |some g=>afH g i (first++args++caps) get k
  |none=>if (s.args.all (λ q=>q.pl)&&s.res.all (λ q=>!q.out))=true then(QY Γ get 3 (first++args++caps) s.args).bind λa=>UW a.2 ((s.fn a.1).bind λx=>(Hm i [] s.res x).bind λp=>
   if s.res.all Vj then k p.1 p.2 (aL (first++args++caps)) []
   else k p.1 (p.2++L9 (aL (first++args++caps))) (aL (first++args++caps)) (aL (first++args++caps)))
  else(o7 Γ get (first++args++caps) s.args).bind λa=>UW a.2.2 ((s.fn a.1).bind λx=>(Hm i a.2.1 s.res x).bind λp=>
   if (decide a.2.1.Nodup&&(Jc (first++args++caps) s.args).all (λ j=>!a.2.1.contains j)&&decide ((Vm s.res x).length=a.2.1.length))=true then
    if s.res.all Vj then k p.1 (p.2++Q6 a.2.1 (Vm s.res x)) (aL (first++args++caps)) a.2.1
    else k p.1 (p.2++(Q6 a.2.1 (Vm s.res x)++L9 ((aL (first++args++caps)).filter λj=>!a.2.1.contains j))) (aL (first++args++caps)) (a.2.1++(aL (first++args++caps)).filter λj=>!a.2.1.contains j)
   else none)
 |.dt as q φ=>(Tb get args as).bind λh=>UW h.2 ((φ h.1).bind λy=>
  if wT q then k (.c q y) [] (aL args) []else k (.c q y) (L9 (aL args)) (aL args) (aL args))
 |_=>none
def FG(fz:List Nat)(T:ed)(code:TypeId->Option (CT X.ι))(i:Nat)(o:Op)(ρ:Operand->DV X)(get:Nat->Option (bu X))(k:KK X A):Option A:=
 match o with
 |.call { callee:=.value f,args:=args,argTypes:=_ }=>akc Γ i (ρ f) (args.toList.map ρ) get k
 |o=>if an6 o ρ then anr T code i o ρ get k else if an7 o ρ || fz.contains i then ant T code i o ρ get k else if an8 T o ρ then anu T code o ρ get k else O2 T code i o ρ get k
variable {Γ}
theorem Me{P:Program}{get:Nat->Option (bu X)}{rd:List Nat}:∀{ds:List (DV X)}{l:List (CT X.ι)}{h:HL X.toSE l×List Bool},Tb get ds l=some h->(∀ b∈h.2,b=true)->(∀ j∈aL ds,j∈rd)->
 ∃hs obs,(∀ p∈obs,p)/\∀ae,mU P (dN rd (fO get)) (bI ds) (hs++ae)=some ((HL.oE X.toSE l h.1).map TV.av,ae,obs)
 |[],[],h,_,_,_=>⟨[],[],by simp,λae=>rfl⟩
 |d::ds,c::l,h,hr,hc,hrd=>by simp[Tb]at hr;have⟨x,h1,hr⟩:=ah.1 hr;have⟨g,h2,hr⟩:=ah.1 hr;cases hr;obtain⟨hs1,o1,p1,q1⟩:=zQ (P:=P) (rd:=rd) h1 (λ b hb=>hc b (by grind)) (λ j hj=>hrd j (by simp[aL,hj]));obtain⟨hs2,o2,p2,q2⟩:=Me (P:=P) (rd:=rd) h2 (λ b hb=>hc b (by grind)) (λ j hj=>hrd j (by simp[aL,hj]));refine⟨hs1++hs2,o1++o2,iD p1 p2,λae=>?_⟩;simp[bI,mU,q1,q2];rfl
 |[],_::_,_,hr,_,_|_::_,[],_,hr,_,_=>by trivial
theorem Vo{i:Nat}{ab ns:List Nat}{q:RT X.ι}{x:RT.T X q}:∀p∈(GR i ab ns q x).2,p.1=cC i:=by cases q<;>simp[GR]
theorem Vp{i:Nat}{ab ns:List Nat}:∀{l:List (RT X.ι)}{x:sG X l}{p:List (DV X)×List (Nat×Option (bu X))},Kg i ab ns l x=some p->∀q∈p.2,q.1=cC i
 |[],_,p,h=>by grind [Kg]
 |[q],x,p,h=>by simp[Kg]at h;subst h;exact Vo
 |q::q'::l,x,p,h=>by simp[Kg]at h;have⟨p',h1,h⟩:=ah.1 h;split at h;cases h;intro z hz;rcases bL.1 hz with hz|hz;exact Vo z hz;exact Vp h1 z hz;cases h
theorem Zv{i:Nat}{ab:List Nat}{l:List (RT X.ι)}{x:sG X l}{p:DV X×List (Nat×Option (bu X))}(h:Hm i ab l x=some p):∀q∈p.2,q.1=cC i:=by unfold Hm at h;have⟨p',h1,h⟩:=ah.1 h;cases h;exact Vp h1
theorem GU{P:Program}{get:Nat->Option aO}{x:AV}{hs ae:List LH}{y:AV}{o:List Prop}(h:mU P get [x] hs=some ([y],ae,o)):oV P get x hs=some (y,ae,o):=by
 simp only[mU,ai,append_nil,ah,bM,Prod.mk.injEq,List.cons.injEq,and_true]at h
 grind
theorem lW{d:DV X}{ds:List (DV X)}{a:AT X.ι}{l:List (AT X.ι)}{P:Nat->Prop}(h:∀j∈Jc (d::ds) (a::l),P j):(a.im=false->∀j∈br d,P j)/\∀j∈Jc ds l,P j:=by
 grind [Jc]
theorem anv{c:CT X.ι}{l:List (CT.T X.toSE c)}:dW ((aI (l.map (CT.row X.toSE c))).take (l.map (CT.row X.toSE c)).length)=aI (l.map (CT.row X.toSE c)):=by rw[take_of_length_le (by simp[aI])];simp only[dW,aI,map_map];exact map_congr_left λy _=>by simp only[Function.comp,map_map];rfl
theorem Yd{get:Nat->Option (bu X)}{d:DV X}{c:CT X.ι}{x:List (CT.T X.toSE c)×Nat×List Bool}(h:aaY get d c=some x)(hc:∀b∈x.2.2,b=true):
 d=.own x.2.1 0 (List.length x.1)/\∃o,get x.2.1=some o/\(bK o).sz=(uD c x.1).1/\dW ((bK o).rows.take (uD c x.1).2.length)=aI (uD c x.1).2:=by
 unfold aaY at h;split at h;rename_i k len;rw[ah]at h;obtain⟨o,h1,h⟩:=h;split at h;rename_i b l;rw[ah]at h;obtain⟨l',h2,h⟩:=h;cases h;have⟨h3,h4⟩:=jF h2;have h5:len=List.length l':=by simp_all [aE]
 refine⟨by rw[h5],.ec b l,h1,by trivial,?_⟩;simp only[bK,uD,h4];exact anv;cases h;cases h
theorem Vq{get:Nat->Option (bu X)}{d:DV X}{c:CT X.ι}{x:CT.T X.toSE c×Nat}(h:Vn get d c=some x):
 d=.ptr x.2 0 0/\∃o,get x.2=some o/\(bK o).sz=(uD c [x.1]).1/\dW ((bK o).rows.take (uD c [x.1]).2.length)=aI (uD c [x.1]).2:=by unfold Vn at h;split at h;rw[ah]at h;obtain⟨o,h1,h⟩:=h;split at h;split at h;rename_i hsz;have⟨y,h2,h⟩:=ah.1 h;cases h;refine⟨rfl,_,h1,by trivial,?_⟩;simp[bK,uD,dW,aI];rw[xS h2];cases h;cases h;cases h
theorem nL{P:Program}{Γ:FuncId->Option (b8 X)}(hΓ:pL P Γ){get:Nat->Option (bu X)}{rd ab:List Nat}:∀{n:Nat}{ds:List (DV X)}{l:List (AT X.ι)}{a:jo X l×List Nat×List Bool},o7 Γ get ds l=some a->(∀ b∈a.2.2,b=true)->(∀ j∈aL ds,j∈rd)->(∀ j∈Jc ds l,j∉ab)->ab.drop n=a.2.1->
 (∃ hs obs,(∀ p∈obs,p)/\∀ae,mF P (dN rd (fO get)) ab (bI ds) (hs++ae)=some (eX n l a.1,ae,obs))/\∃mo,Gs (dN rd (fO get)) a.2.1 (uE l a.1)=some mo/\∀p∈mo,p
 |n,[],[],a,h,_,_,_,_=>by simp[o7]at h;subst h;exact⟨⟨[],[],by simp,λae=>rfl⟩,[],rfl,by simp⟩
 |n,d::ds,.mut c::l,a,h,hc,hrd,hnr,hid=>by
  simp[o7]at h;have⟨x,h1,h⟩:=ah.1 h;have⟨q,h2,h⟩:=ah.1 h;cases h;obtain⟨rfl,o,g1,g2,g3⟩:=Yd h1 (λ b hb=>hc b (by simp[hb]));have CL:ab[n]? =some x.2.1:=by rw[<- List.head?_drop,hid];rfl
  have CM:ab.drop (n+1)=q.2.1:=by rw[<- List.tail_drop,hid];rfl
  obtain⟨⟨hs,obs,p1,p2⟩,mo,m1,m2⟩:=nL hΓ (n:=n+1) h2 (λ b hb=>hc b (by simp[hb])) (λ j hj=>hrd j (by simp[aL,hj])) (lW hnr).2 CM;refine⟨⟨.mut n::hs,obs,p1,λae=>?_⟩,((bK o).sz=(uD c x.1).1/\dW ((bK o).rows.take (uD c x.1).2.length)=aI (uD c x.1).2)::mo,?_,?_⟩;simp[bI,den,mF,qp,CL,p2,eX];simp[uE,Gs,fB (hrd x.2.1 (by simp[aL,br])) g1,m1];intro p hp
  grind
 |n,d::ds,.jz c::l,a,h,hc,hrd,hnr,hid=>by
  simp[o7]at h;have⟨x,h1,h⟩:=ah.1 h;have⟨q,h2,h⟩:=ah.1 h;cases h;obtain⟨rfl,o,g1,g2,g3⟩:=Vq h1;have CL:ab[n]? =some x.2:=by rw[<- List.head?_drop,hid];rfl
  have CM:ab.drop (n+1)=q.2.1:=by rw[<- List.tail_drop,hid];rfl
  obtain⟨⟨hs,obs,p1,p2⟩,mo,m1,m2⟩:=nL hΓ (n:=n+1) h2 (λ b hb=>hc b (by simp[hb])) (λ j hj=>hrd j (by simp[aL,hj])) (lW hnr).2 CM;refine⟨⟨.mut n::hs,obs,p1,λae=>?_⟩,((bK o).sz=(uD c [x.1]).1/\dW ((bK o).rows.take (uD c [x.1]).2.length)=aI (uD c [x.1]).2)::mo,?_,?_⟩;simp[bI,den,mF,cons_append,qp,CL,if_true,ai,p2,eX,fT];simp[uE,Gs,fB (hrd x.2 (by simp[aL,br])) g1,ai,m1];intro p hp;rcases aQ.1 hp with rfl|hp;exact⟨g2,g3⟩;exact m2 p hp
 |n,d::ds,.d c::l,a,h,hc,hrd,hnr,hid=>by simp[o7]at h;have⟨x,h1,h⟩:=ah.1 h;have⟨q,h2,h⟩:=ah.1 h;cases h;obtain⟨hs1,o1,p1,q1⟩:=rR (P:=P) hΓ 3 (n:=n) h1 (λ b hb=>hc b (by simp[hb])) (rd:=rd) (λ j hj=>hrd j (by simp[aL,append_nil]at hj;simp[aL,hj]));obtain⟨⟨hs,obs,p2,q2⟩,mo,m1,m2⟩:=nL hΓ (n:=n) h2 (λ b hb=>hc b (by simp[hb])) (λ j hj=>hrd j (by simp[aL,hj])) (lW hnr).2 hid;refine⟨⟨yn (den d) hs1++hs,o1++obs,iD p1 p2,λae=>?_⟩,mo,m1,m2⟩;have:=xU (GU (q1 (hs++ae))) (λ k hk=>(lW hnr).1 rfl k (by rwa [iU]at hk));rw[Mc]at this;simp[bI,mF,aT,this,ai,q2,eX]
 |n,d::ds,.ref c::l,a,h,hc,hrd,hnr,hid=>by simp[o7]at h;have⟨x,h1,h⟩:=ah.1 h;have⟨q,h2,h⟩:=ah.1 h;cases h;obtain⟨hs1,o1,p1,q1⟩:=rR (P:=P) hΓ 3 (n:=n) h1 (λ b hb=>hc b (by simp[hb])) (rd:=rd) (λ j hj=>hrd j (by simp[aL,append_nil]at hj;simp[aL,hj]));obtain⟨⟨hs,obs,p2,q2⟩,mo,m1,m2⟩:=nL hΓ (n:=n) h2 (λ b hb=>hc b (by simp[hb])) (λ j hj=>hrd j (by simp[aL,hj])) (lW hnr).2 hid;refine⟨⟨yn (den d) hs1++hs,o1++obs,iD p1 p2,λae=>?_⟩,mo,m1,m2⟩;have:=xU (GU (q1 (hs++ae))) (λ k hk=>(lW hnr).1 rfl k (by rwa [iU]at hk));rw[Mc]at this;simp[bI,mF,aT,this,ai,q2,eX]
 |n,d::ds,.dt as r::l,a,h,hc,hrd,hnr,hid=>by simp[o7]at h;have⟨x,h1,h⟩:=ah.1 h;have⟨q,h2,h⟩:=ah.1 h;cases h;obtain⟨hs1,o1,p1,q1⟩:=rR (P:=P) hΓ 3 (n:=n) h1 (λ b hb=>hc b (by simp[hb])) (rd:=rd) (λ j hj=>hrd j (by simp[aL,append_nil]at hj;simp[aL,hj]));obtain⟨⟨hs,obs,p2,q2⟩,mo,m1,m2⟩:=nL hΓ (n:=n) h2 (λ b hb=>hc b (by simp[hb])) (λ j hj=>hrd j (by simp[aL,hj])) (lW hnr).2 hid;refine⟨⟨yn (den d) hs1++hs,o1++obs,iD p1 p2,λae=>?_⟩,mo,m1,m2⟩;have:=xU (GU (q1 (hs++ae))) (λ k hk=>(lW hnr).1 rfl k (by rwa [iU]at hk));rw[Mc]at this;simp[bI,mF,aT,this,ai,q2,eX]
 |n,d::ds,.nil::l,a,h,hc,hrd,hnr,hid=>by simp[o7]at h;split at h;have⟨q,h2,h⟩:=ah.1 h;cases h;obtain⟨⟨hs,obs,p2,q2⟩,mo,m1,m2⟩:=nL hΓ (n:=n) h2 hc (λ j hj=>hrd j (by simp[aL,hj])) (lW hnr).2 hid;refine⟨⟨.nil::hs,obs,p2,λae=>?_⟩,mo,m1,m2⟩;have:=xU (P:=P) (get':=dN rd (fO get)) (ab:=ab) (x:=.cN) (hs:=.nil::(hs++ae)) (p:=(.cN,hs++ae,[])) rfl (λ k hk=>by simp[refs]at hk);simp[yn]at this;simp[bI,den,mF,cons_append,this,ai,q2,eX,fT];cases h
 |_,[],_::_,_,h,_,_,_,_=>by simp[o7]at h
 |_,_::_,[],_,h,_,_,_,_=>by simp[o7]at h
theorem ac2{P:Program}(hΓ:pL P Γ){i:Nat}{f:DV X}{args:List (DV X)}{get:Nat->Option (bu X)}{k:KK X A}{r:A}(h:akc Γ i f args get k=some r):
 ∃cp rd wr dv upd out,lU P i (den f) (bI args) cp (dN rd (fO get))=some out/\kT out.obs/\out.v=den dv/\out.upd=jy upd/\(∀ p∈upd,p.1=cC i\/p.1∈wr)/\k dv upd rd wr=some r:=by
 unfold akc at h;split at h;rename_i F first caps
 rw[ah]at h;obtain⟨s,h1,h⟩:=h;split at h;rename_i g hgen;exact aaW ((hΓ F s h1).2.2 g (Option.filter_eq_some_iff.1 hgen).1) h;split at h;rename_i hpure;rw[ah]at h;obtain⟨⟨a,cs⟩,h2,h⟩:=h;have⟨hcs,h⟩:=pX h;rw[ah]at h;obtain⟨x,h3,h⟩:=h;rw[ah]at h;obtain⟨p,h4,h⟩:=h;have hf0:=(hΓ F s h1).2.1 a x h3;simp only[bC]at hpure;rw[GJ (an3 hpure.1),acN hpure.2]at hf0;have hf:=UL hf0;have hi:=ac0 h4;have hk:=Zv h4;obtain⟨hs,obs,g1,g2⟩:=rR (P:=P) hΓ 3 h2 hcs (rd:=aL (first++args++caps)) (λ j hj=>hj);have g3:=g2 [];rw[append_nil,jA,jA]at g3;have hrefs:fq (bI first++bI args++bI caps)=aL (first++args++caps):=by
  grind [jA,jh]
 split at h;rename_i hfl;refine⟨.call hs (sM s.res x) true,_,[],p.1,p.2,⟨den p.1,jy p.2,obs++[tc P F (yB s.args a) (sM s.res x),(sM s.res x).flat]⟩,?_,?_,rfl,rfl,λq hq=>.inl (hk q hq),h⟩;simp only[den,lU,qH,zL,hi,ai,g3];rfl;exact qX _ (iD g1 (by intro q hq;simp only[aQ,nI,or_false]at hq;rcases hq with rfl|rfl;exact hf;exact Vl x hfl));refine⟨.call hs (sM s.res x) false,_,_,p.1,_,⟨den p.1,jy p.2++(aL (first++args++caps)).map (λ k=>(k,none)),obs++[tc P F (yB s.args a) (sM s.res x)]⟩,?_,?_,rfl,?_,?_,h⟩;simp only[den,lU,qH,zL,hi,ai,g3,hrefs];rfl;exact qX _ (iD g1 (by intro q hq;simp only[bq]at hq;subst hq;exact hf));simp[rT,BV];intro q hq;rcases bL.1 hq with hq|hq;exact .inl (hk q hq);exact .inr (Ja hq);rename_i hpure;rw[ah]at h;obtain⟨⟨a,ab,cs⟩,h2,h⟩:=h;have⟨hcs,h⟩:=pX h;rw[ah]at h;obtain⟨x,h3,h⟩:=h;rw[ah]at h;obtain⟨p,h4,h⟩:=h;split at h;rename_i hc;simp only[bC,bF]at hc;obtain⟨⟨hnd,hnr⟩,hlen⟩:=hc;have hf:=(hΓ F s h1).2.1 a x h3;have hi:=ac0 h4;have hk:=Zv h4;obtain⟨⟨hs,obs,g1,g2⟩,mo,m1,m2⟩:=nL (P:=P) hΓ (rd:=aL (first++args++caps)) (ab:=ab) (n:=0) h2 hcs (λ j hj=>hj) (λ j hj=>by simpa using all_eq_true.1 hnr j hj) rfl;have g3:=g2 [];rw[append_nil,jA,jA]at g3;have hrefs:fq (bI first++bI args++bI caps)=aL (first++args++caps):=by rw[<- jA,<- jA,jh]
 have hlen':(o6 s.res x).length=ab.length:=by rw[<- hlen];simpa using (congrArg List.length (O7 s.res x)).symm
 have hout:jy (Q6 ab (Vm s.res x))=BN ab (o6 s.res x):=Zu _ _ _ (O7 s.res x);split at h;rename_i hfl;refine⟨.tM ab (uE s.args a) (o6 s.res x) hs (sM s.res x) true,_,ab,p.1,_,⟨den p.1,jy p.2++BN ab (o6 s.res x),obs++mo++[p5 P F (yB s.args a) (uE s.args a) (o6 s.res x) (sM s.res x),(sM s.res x).flat,Ut (o6 s.res x)]⟩,?_,?_,rfl,?_,?_,h⟩;simp only[den,lU,qH,Gu,hi,ai,m1,g3];rw[aY ⟨hnd,hlen'⟩];rfl;refine qX _ (iD (iD g1 m2) ?_);intro q hq;simp only[aQ,nI,or_false]at hq;rcases hq with rfl|rfl|rfl;exact hf;exact Vl x hfl;exact Zq hfl;simp[rT,hout];intro q hq;rcases bL.1 hq with hq|hq;exact .inl (hk q hq);exact .inr (KG hq);refine⟨.tM ab (uE s.args a) (o6 s.res x) hs (sM s.res x) false,_,_,p.1,_,⟨den p.1,jy p.2++(BN ab (o6 s.res x)++((aL (first++args++caps)).filter λj=>!ab.contains j).map (λ k=>(k,none))),obs++mo++[p5 P F (yB s.args a) (uE s.args a) (o6 s.res x) (sM s.res x)]⟩,?_,?_,rfl,?_,?_,h⟩;simp only[den,lU,qH,Gu,hi,ai,m1,g3,Gt,hrefs];rw[aY ⟨hnd,hlen'⟩];rfl;refine qX _ (iD (iD g1 m2) ?_);intro q hq;simp only[bq]at hq;subst hq;exact hf;simp[rT,hout,BV];intro q hq;rcases bL.1 hq with hq|hq;exact .inl (hk q hq);rcases bL.1 hq with hq|hq;exact .inr (mem_append_left _ (KG hq));exact .inr (mem_append_right _ (Ja hq));cases h;rename_i as q φ;rw[ah]at h;obtain⟨⟨hh,cs⟩,h1,h⟩:=h;have⟨hcs,h⟩:=pX h;rw[ah]at h;obtain⟨y,h2,h⟩:=h;obtain⟨hs,obs,g1,g2⟩:=Me (P:=P) h1 hcs (rd:=aL args) (λ j hj=>hj);have g3:=g2 [];rw[append_nil]at g3;have hφ:∃h' x',φ h'=some x'/\HL.oE X.toSE as hh=HL.oE X.toSE as h'/\CT.tv X.toSE q y=CT.tv X.toSE q x':=⟨hh,y,h2,rfl,rfl⟩;split at h;rename_i hfl;refine⟨.EE hs (HL.oE X.toSE as hh) (CT.tv X.toSE q y) true,_,[],.c q y,[],⟨(CT.tv X.toSE q y).av,[],obs++[(HL.oE X.toSE as hh).map TV.av=(HL.oE X.toSE as hh).map TV.av,(∃ h' x',φ h'=some x'/\HL.oE X.toSE as hh=HL.oE X.toSE as h'/\CT.tv X.toSE q y=CT.tv X.toSE q x'),(CT.tv X.toSE q y).flat]⟩,?_,?_,rfl,rfl,by simp,h⟩;simp only[den,lU,qH,zL,g3,ai];rfl;exact qX _ (iD g1 (by intro z hz;simp only[aQ,nI,or_false]at hz;rcases hz with rfl|rfl|rfl;trivial;exact hφ;exact acY hfl y));refine⟨.EE hs (HL.oE X.toSE as hh) (CT.tv X.toSE q y) false,_,_,.c q y,_,⟨(CT.tv X.toSE q y).av,(aL args).map (λ k=>(k,none)),obs++[(HL.oE X.toSE as hh).map TV.av=(HL.oE X.toSE as hh).map TV.av,(∃ h' x',φ h'=some x'/\HL.oE X.toSE as hh=HL.oE X.toSE as h'/\CT.tv X.toSE q y=CT.tv X.toSE q x')]⟩,?_,?_,rfl,(BV _).symm,λz hz=>.inr (Ja hz),h⟩;simp only[den,lU,qH,zL,g3,ai,jh];rfl;exact qX _ (iD g1 (by intro z hz;simp only[aQ,nI,or_false]at hz;rcases hz with rfl|rfl;trivial;exact hφ));cases h
theorem afK{P:Program}(hΓ:pL P Γ){fz:List Nat}{T:ed}{code:TypeId->Option (CT X.ι)}{i:Nat}{o:Oper}{ρ:Operand->DV X}{get:Nat->Option (bu X)}{k:KK X A}{r:A}(h:FG Γ fz T code i o.op ρ get k=some r):d8 P T i o ρ get k r:=by
 obtain⟨dst,op,ty,am,after,guard⟩:=o;unfold FG at h;simp only at h;split at h
 ·have:=ac2 hΓ h;simp only[<- TA]at this;obtain⟨cp,rd,wr,dv,upd,out,g1,g2⟩:=this;exact .call g1 g2
 ·split at h
  ·exact afD (o:=⟨dst,op,ty,am,after,guard⟩) h
  ·split at h
   ·exact afE (o:=⟨dst,op,ty,am,after,guard⟩) h
   ·split at h
    ·exact afF (o:=⟨dst,op,ty,am,after,guard⟩) h
    ·rename_i hne _ _ _;have⟨cp,rd,wr,dv,upd,out,g1,g2⟩:=Zf (o:=⟨dst,op,ty,am,after,guard⟩) h;exact d8.op (λ f args cV e=>hne f args cV e) g1 g2
end
def k9(x y:AV):Prop:=∀P β w I v,VR P β w I x v->VR P β w I y v
theorem k9.refl(x:AV):k9 x x:=λ_ _ _ _ _ h=>h
theorem k9.undef(x:AV):k9 x .undef:=λ_ _ _ _ _ _=>by simp[VR]
theorem k9.wk(x:AV):k9 x (wk x):=λ_ _ _ _ _ h=>h.wk
section
variable {P:Program} {w0:World} {O0:gA} {N:Nat} {β:Nat->Option cz} {I:Nat->Prop} {a:Act} {w:World} {f g:Nat->Nat} {D:Nat->Prop}
mutual
theorem VR.rn(hgf:∀k,D k->g (f k)=k):∀(x:AV)(v:Value),(∀ k∈refs x,D k)->VR P β w I x v->VR P (λ j=>β (g j)) w I (ju f x) v
 |.own k aa len,v,hd,h=>by simp[ju,VR,hgf k (hd k (by simp[refs]))]at h ⊢;exact h
 |.ptr k row aa,v,hd,h=>by simp[ju,VR,hgf k (hd k (by simp[refs]))]at h ⊢;exact h
 |.agg cs,v,hd,h=>by simp[VR]at h ⊢;obtain⟨vs,h1,h2⟩:=h;exact⟨vs,h1,bk.rn hgf cs _ (by simpa[refs]using hd) h2⟩
 |.eR cs,v,hd,h=>by simp[VR]at h ⊢;obtain⟨vs,h1,h2⟩:=h;exact⟨vs,h1,bk.rn hgf cs _ (by simpa[refs]using hd) h2⟩
 |.fn F first caps,v,hd,h=>by simp[VR]at h ⊢;obtain⟨fs,cs,h1,h2,h3⟩:=h;exact⟨fs,cs,h1,bk.rn hgf first _ (λ k hk=>hd k (by simp[refs,hk])) h2,bk.rn hgf caps _ (λ k hk=>hd k (by simp[refs,hk])) h3⟩
 |.t x,v,_,h|.eo r o,v,_,h|.dt φ,v,_,h=>by simpa[ju,VR]using h
 |.mp k,v,hd,h=>by simp[ju,VR,hgf k (hd k (by simp[refs]))]at h ⊢;exact h
 |.oz k len,v,hd,h=>by simp[ju,VR,hgf k (hd k (by simp[refs]))]at h ⊢;exact h
 |.cN,v,_,h|.ub,v,_,h=>by simpa[ju,VR]using h
 |.undef,v,_,h=>by simp[ju,VR]
theorem bk.rn(hgf:∀k,D k->g (f k)=k):∀(xs:List AV)(vs:List Value),(∀ k∈fq xs,D k)->bk P β w I xs vs->bk P (λ j=>β (g j)) w I (BP f xs) vs
 |[],[],_,_=>by simp[BP,bk]
 |x::xs,v::vs,hd,h=>by simp[bk]at h;simp[BP];exact⟨VR.rn hgf x v (λ k hk=>hd k (by simp[fq,hk])) h.1,bk.rn hgf xs vs (λ k hk=>hd k (by simp[fq,hk])) h.2⟩
 |[],_::_,_,h|_::_,[],_,h=>by simp[bk]at h
end
def nf(D:Nat->Prop)(f:Nat->Nat):List AV->List AV->Prop
 |[],[]=>True
 |x::xs,y::ys=>((∀ k∈refs x,D k)/\k9 (ju f x) y)/\nf D f xs ys
 |_,_=>False
def gx(D:Nat->Prop)(f:Nat->Nat):List (List AV)->List (List AV)->Prop
 |[],[]=>True
 |r::rs,q::qs=>nf D f r q/\gx D f rs qs
 |_,_=>False
theorem nf.length:∀{r q:List AV},nf D f r q->q.length=r.length
 |[],[],_=>rfl
 |_::xs,_::ys,h=>by simp[nf.length h.2]
 |[],_::_,h|_::_,[],h=>h.elim
theorem cQ.re(hgf:∀k,D k->g (f k)=k):∀{r q:List AV}{c:Array Value}{aa:Nat},nf D f r q->cQ P β w I r c aa->cQ P (λ j=>β (g j)) w I q c aa
 |[],[],_,_,_,_=>trivial
 |x::xs,y::ys,c,aa,hr,⟨⟨v,h1,h2,h3⟩,h4⟩=>⟨⟨v,h1,hr.1.2 _ _ _ _ _ (VR.rn hgf x v hr.1.1 h2),h3⟩,cQ.re hgf hr.2 h4⟩
 |[],_::_,_,_,h,_|_::_,[],_,_,h,_=>h.elim
theorem bx.re(hgf:∀k,D k->g (f k)=k):∀{rs qs:List (List AV)}{c:Array Value}{aa sz:Nat},gx D f rs qs->bx P β w I rs c aa sz->bx P (λ j=>β (g j)) w I qs c aa sz
 |[],[],_,_,_,_,_=>trivial
 |r::rs,q::qs,c,aa,sz,hr,⟨h1,h2,h3⟩=>⟨by rw[hr.1.length];exact h1,cQ.re hgf hr.1 h2,bx.re hgf hr.2 h3⟩
 |[],_::_,_,_,_,h,_|_::_,[],_,_,_,h,_=>h.elim
theorem bk.re(hgf:∀k,D k->g (f k)=k):∀{r q:List AV}{vs:List Value},nf D f r q->bk P β w I r vs->bk P (λ j=>β (g j)) w I q vs
 |[],[],[],_,_=>by simp[bk]
 |x::xs,y::ys,v::vs,hr,h=>by exact⟨hr.1.2 _ _ _ _ _ (VR.rn hgf x v hr.1.1 h.1),bk.re hgf hr.2 h.2⟩
 |[],_::_,_,h,_|_::_,[],_,h,_=>h.elim
 |[],[],_::_,_,h|_::_,_::_,[],_,h=>by simp[bk]at h
theorem cA.re(hgf:∀k,D k->g (f k)=k):∀{rs qs:List (List AV)}{es:List MapEntry},gx D f rs qs->cA P β w I rs es->cA P (λ j=>β (g j)) w I qs es
 |[],[],[],_,_=>trivial
 |r::rs,q::qs,_::es,hr,⟨h1,h2⟩=>⟨bk.re hgf hr.1 h1,cA.re hgf hr.2 h2⟩
 |[],_::_,_,h,_|_::_,[],_,h,_|[],[],_::_,_,h|_::_,_::_,[],_,h=>h.elim
theorem gx.length:∀{rs qs:List (List AV)},gx D f rs qs->qs.length=rs.length
 |[],[],_=>rfl
 |_::xs,_::ys,h=>by simp[gx.length h.2]
 |[],_::_,h|_::_,[],h=>h.elim
theorem Rel.re0{s s':St}(hgf:∀k,D k->g (f k)=k)(hg:∀j B,O0.anc j=some B->g j=j)(hr:Rel P w0 O0 N β I s a w)(hok:∀t,s.ok t=none\/s'.env t=.undef)(hok':∀t,s'.ok t=none)
 (hE:∀t,s'.env t=.undef\/((∀ k∈refs (s.env t),D k)/\k9 (ju f (s.env t)) (s'.env t)))
 (hO:∀j o',s'.obj j=some o'->∃k o,s.obj k=some o/\D k/\f k=j/\o'.sz=o.sz/\gx D f o.rows o'.rows):Rel P w0 O0 N (λ j=>β (g j)) I s' a w:=by
 refine⟨hr.defers,hr.size,λt=>?_,?_⟩
 ·have h1:=hr.env t;rw[hok' t];rcases hok t with hk|h
  rotate_left
  rw[h];simp[da,VR];rw[hk]at h1;rcases hE t with h|⟨h2,h3⟩;rw[h];simp[da,VR];exact h3 _ _ _ _ _ (VR.rn hgf _ _ h2 h1)
 have hm:=hr.mem;constructor;intro j o' hj;obtain⟨k,o,h1,h2,rfl,h4,h5⟩:=hO j o' hj;have⟨B,hB,so⟩:=hm.cy k o h1;refine⟨B,by simp[hgf k h2];exact hB,?_⟩;cases B with
 |none=>
  simp[OR]at so ⊢;rw[so]at h5;cases ho:o'.rows with
  |nil=>rfl
  |cons=>rw[ho]at h5;exact h5.elim
 | «at» b sz n=>
  obtain⟨g1,c,e,g2,g3,g4⟩:=so;exact⟨by rw[g1,h4],c,e,g2,g3,bx.re hgf h5 g4⟩
 |mp b=>
  obtain⟨es,cl,g1,gl,g2,g3⟩:=so;have hl:=h5.length;exact⟨es,cl,g1,by omega,λe=>cA.re hgf h5 (g2 (by omega)),g3⟩
 intro j j' o o' B B' b h1 h2 h3 h4 h5 h6;obtain⟨k,q,i1,i2,rfl,_⟩:=hO j o h1;obtain⟨k',q',i1',i2',rfl,_⟩:=hO j' o' h2;simp[hgf k i2,hgf k' i2']at h3 h4;rw[hm.ep k k' q q' B B' b i1 i1' h3 h4 h5 h6];intro j o B b h1 h2;obtain⟨k,q,i1,i2,rfl,_⟩:=hO j o h1;simp[hgf k i2]at h2;exact hm.ownB k q B b i1 h2;exact hm.lt;exact hm.up;exact hm.keep;exact hm.le;exact hm.os;exact hm.tape;exact hm.output;intro j B hj;show β (g j)=some B;rw[hg j B hj];exact hm.anch j B hj;exact hm.vars
theorem Rel.re{s s':St}(hgf:∀k,D k->g (f k)=k)(hg:∀j,j<1000->g j=j)(hr:Rel P w0 O0 N β I s a w)(hok:∀t,s.ok t=none\/s'.env t=.undef)(hok':∀t,s'.ok t=none)
 (hE:∀t,s'.env t=.undef\/((∀ k∈refs (s.env t),D k)/\k9 (ju f (s.env t)) (s'.env t)))
 (hO:∀j o',s'.obj j=some o'->∃k o,s.obj k=some o/\D k/\f k=j/\o'.sz=o.sz/\gx D f o.rows o'.rows):Rel P w0 O0 N (λ j=>β (g j)) I s' a w:=
 Rel.re0 hgf (λ j B hj=>hg j (O0.lt j B hj)) hr hok hok' hE hO
end
section
variable {X:SX}
theorem ac3{D:Nat->Prop}(f:Nat->Nat):∀r:List (DV X),(∀ k∈aL r,D k)->nf D f (bI r) (bI (KD f r))
 |[],_=>trivial
 |x::xs,h=>⟨⟨λ k hk=>h k (by rw[iU]at hk;simp[aL,hk]),by rw[zR];exact k9.refl _⟩,ac3 f xs λk hk=>h k (by simp[aL,hk])⟩
theorem Jd{D:Nat->Prop}(f:Nat->Nat)(o:bu X)(h:∀k∈d7 o,D k):(bK (pP f o)).sz=(bK o).sz/\gx D f (bK o).rows (bK (pP f o)).rows:=by
 cases o with
 |cells sz rows=>
  refine⟨rfl,?_⟩;simp only[d7]at h
  induction rows with
  |nil=>trivial
  |cons r rs ih=>
   refine⟨ac3 f r λk hk=>h k (by simp[hk]),ih λk hk=>h k ?_⟩;simp only[bH,List.flatten_cons,bL];exact .inr hk
 |ec c l=>
  refine⟨rfl,?_⟩;simp[bK,pP];generalize l.map (CT.row X.toSE c)=rows;have hrow:∀r:List Tree,nf D f (r.map AV.t) (r.map AV.t):=by
   intro r
   induction r with
   |nil=>trivial
   |cons y ys ih=>exact⟨⟨by simp[refs],k9.refl _⟩,ih⟩
  induction rows with
  |nil=>trivial
  |cons r rs ih=>exact⟨hrow r,ih⟩
 |map kc vc l=>
  refine⟨rfl,?_⟩;clear h
  induction l with
  |nil=>trivial
  |cons p ps ih=>exact⟨⟨⟨by simp[zP],by rw[Vh];exact k9.refl _⟩,⟨by simp[zP],by rw[Vh];exact k9.refl _⟩,trivial⟩,ih⟩
structure Low(s:cE X):Prop where
 le:s.nx<=1000000
 ge:1000<=s.nx
 env:∀t,∀k∈br (du s.env t),k<s.nx
 obj:∀k o,fm s.obj k=some o->k<s.nx/\∀j∈d7 o,j<s.nx
theorem Vr{o:bu X}{r:List AV}{x:AV}(hr:r∈(bK o).rows)(hx:x∈r):∀j∈refs x,j∈d7 o:=by
 intro j hj;cases o with
 |cells sz rows=>
  simp[bK]at hr;obtain⟨q,hq,rfl⟩:=hr;rw[nW,mem_map]at hx;obtain⟨d,hd,rfl⟩:=hx;simp[d7];refine⟨_,⟨q,hq,rfl⟩,?_⟩;have:∀l:List (DV X),d∈l->j∈aL l:=by
   intro l
   induction l with
   |nil=>intro h;simp at h
   |cons y ys ih=>intro h;rcases aQ.1 h with rfl|h
                  simp[aL];left;rwa [iU]at hj;simp[aL];exact .inr (ih h)
  exact this q hd
 |ec c l=>
  simp[bK,aI]at hr;obtain⟨q,_,rfl⟩:=hr;simp at hx;obtain⟨t,_,rfl⟩:=hx;simp[refs]at hj
 |map kc vc l=>
  simp only[bK,mem_map]at hr;obtain⟨q,_,rfl⟩:=hr;simp at hx;rcases hx with rfl|rfl<;>simp[zP]at hj
theorem Low.old{s:cE X}(h:Low s):tS s.st:=by have hle:=h.le;constructor;intro t k hk;have:=h.env t k (by rw[<- iU];exact hk);omega;intro k o hk;simp[cE.st]at hk;obtain⟨o',h1,rfl⟩:=hk;have⟨h2,h3⟩:=h.obj k o' h1;refine⟨by omega,λr hr x hx j hj=>?_⟩;have:=h3 j (Vr hr hx j hj);omega
end
section
variable {X:SX} {A:Type}
def pf(e b:List (Nat×DV X))(t:Nat):DV X:=match lk e t with|some x=>x|none=>du b t
def xp(o b:List (Nat×Option (bu X)))(k:Nat):Option (bu X):=match lk o k with|some x=>x|none=>fm b k
def zl(dst:Option Tmp)(dv:DV X)(e:List (Nat×DV X)):List (Nat×DV X):=match dst with|some t=>(t,dv)::e|none=>e
def Vs:DV X->DV X
 |.skip=>.undef
 |x=>x
def Kh(e:List (Nat×DV X)):Operand->Bool
 |.tmp t=>match lk e t with|some .skip=>false|_=>true
 |_=>true
def Q7(e b:List (Nat×DV X))(o:Op):Bool:=
 match o with
 |.pick c x y=>Kh e c&&((Kh e x&&Kh e y) || match X8 (pf e b) c with|.c .bool t=>bif t then Kh e x else Kh e y|_=>false)
 |o=>o.operands.toList.all (Kh e)
abbrev Ge:=List (Nat×List Nat×List Nat)
section
variable (Γ:FuncId->Option (b8 X)) (fz:List Nat) (T:ed) (code:TypeId->Option (CT X.ι)) (ag:Array Oper) (b:cE X)
def yE(k:List (Nat×DV X)->List (Nat×Option (bu X))->Ge->Option A):List Nat->List (Nat×DV X)->List (Nat×Option (bu X))->Ge->Option A
 |[],e,o,oy=>k e o oy
 |i::r,e,o,oy=>(ag[i]?).bind λop=>match op.guard with
  |none=>bif Q7 e b.env op.op then FG Γ fz T code i op.op (X8 (pf e b.env)) (xp o b.obj) λdv upd rd wr=>yE k r (zl op.dst (Vs dv) e) (upd++o) ((i,rd,wr)::oy)else none
  |some (j,p)=>((ag[j]?).bind (·.dst)).bind λt=>match pf e b.env t with
   |.c .bool v=>
    bif v then(bif p then(bif Q7 ((t,.c .bool true)::e) b.env op.op then FG Γ fz T code i op.op (X8 (pf ((t,.c .bool true)::e) b.env)) (xp o b.obj) λdv upd rd wr=>yE k r (zl op.dst (Vs dv) ((t,.c .bool true)::e)) (upd++o) ((i,rd,wr)::oy)else none)
     else yE k r (zl op.dst .skip ((t,.c .bool true)::e)) o ((i,[],[])::oy))
    else(bif p then yE k r (zl op.dst .skip ((t,.c .bool false)::e)) o ((i,[],[])::oy)
     else(bif Q7 ((t,.c .bool false)::e) b.env op.op then FG Γ fz T code i op.op (X8 (pf ((t,.c .bool false)::e) b.env)) (xp o b.obj) λdv upd rd wr=>yE k r (zl op.dst (Vs dv) ((t,.c .bool false)::e)) (upd++o) ((i,rd,wr)::oy)else none))
   |.skip=>bif(lk e t).isSome then yE k r (zl op.dst .skip e) o ((i,[],[])::oy)else none
   |_=>none
end
def iW(b:cE X)(e:List (Nat×DV X))(o:List (Nat×Option (bu X))):St:=⟨λ t=>den (pf e b.env t),λk=>(xp o b.obj k).map bK,λt=>match lk e t with|some .skip=>some false|_=>none⟩
theorem aiF(x:DV X):den (Vs x)=den x:=by cases x<;>rfl
theorem akd(b:cE X)(e:List (Nat×DV X))(o:List (Nat×Option (bu X)))(dst:Option Tmp)(dv:DV X)(upd:List (Nat×Option (bu X)))(obs:List Prop):
 (iW b e o).app dst (⟨den dv,jy upd,obs⟩,none)=iW b (zl dst (Vs dv) e) (upd++o):=by
 simp[iW,St.app];refine⟨?_,?_,?_⟩;funext t;cases dst with
 |none=>simp[Au,zl]
 |some d=>
  simp[Au,zl,pf,lk];by_cases h:d=t<;>simp[h,aiF]
 funext j
 induction upd with
 |nil=>rfl
 |cons p u ih=>
  obtain⟨q,x⟩:=p;simp[jy,bW,xp,lk]at ih ⊢;by_cases h:j=q;simp[h];rw[aW h,aW (Ne.symm h)];exact ih
 funext t;cases dst with
 |none=>simp[Au,zl]
 |some d=>
  simp[Au,zl,lk];by_cases h:d=t;simp[h];cases dv<;>rfl;simp[aW h]
theorem aiG(b:cE X)(e:List (Nat×DV X))(o:List (Nat×Option (bu X)))(dst:Option Tmp):(iW b e o).app dst (⟨.undef,[],[]⟩,some false)=iW b (zl dst .skip e) o:=by
 simp[iW,St.app];refine⟨?_,rfl,?_⟩;funext t;cases dst with
 |none=>simp[Au,zl]
 |some d=>
  simp[Au,zl,pf,lk];by_cases h:d=t<;>simp[h,den]
 funext t;cases dst with
 |none=>simp[Au,zl]
 |some d=>
  simp[Au,zl,lk];by_cases h:d=t<;>simp[h]
theorem ac4(b:cE X)(e:List (Nat×DV X))(o:List (Nat×Option (bu X))):l4 (iW b e o).env=λx=>den (X8 (pf e b.env) x):=by funext x;exact(UQ _ x).symm
theorem Cb{b:cE X}{e:List (Nat×DV X)}{o:List (Nat×Option (bu X))}{x:Operand}(h:Kh e x=true):wS (iW b e o).ok x=[]:=by
 cases x with
 |tmp t=>
  simp[Kh]at h;simp[wS,iW];cases ht:lk e t with
  |none=>rfl
  |some d=>rw[ht]at h;cases d<;>first|rfl|cases h
 |_=>rfl
theorem aiH{b:cE X}{e:List (Nat×DV X)}{o:List (Nat×Option (bu X))}{P:Program}{T:ed}{i:Nat}{op:Oper}{cp:i8}{get:Nat->Option aO}{out:Out}(hok:Q7 e b.env op.op=true)
 (h:jZ P T i op cp (l4 (iW b e o).env) get=some out):∀p∈needs (iW b e o).env (iW b e o).ok op.op,p:=by
 obtain⟨dst,op,ty,am,after,guard⟩:=op;unfold needs;split
 ·rename_i c x y heq;simp only at heq;subst heq;simp only[Q7,bC,Bool.or_eq_true]at hok;obtain⟨hc,hxy⟩:=hok;have hb:∃t,l4 (iW b e o).env c=.t (.sc (.bool t)):=by
   have h0:(∃ n,cp=.ext n)\/(∃ ab fr q,cp=.vA ab fr q)\/qm T i ⟨dst,.pick c x y,ty,am,after,guard⟩ cp (l4 (iW b e o).env) get=some out:=(by cases cp<;>first|exact .inl ⟨_,rfl⟩|exact .inr (.inl ⟨_,_,_,rfl⟩)|exact .inr (.inr h));rcases h0 with ⟨n,rfl⟩|⟨ab,fr,q,rfl⟩|h0
   ·simp[jZ,sK,MY,sJ]at h
   ·simp[jZ,Gv,afd]at h
   ·simp only[qm]at h0;split at h0
    ·rename_i t ht;exact⟨t,ht⟩
    ·cases h0
  obtain⟨t,ht⟩:=hb;rw[ht];simp only[Cb hc,fT];rcases hxy with ⟨hx,hy⟩|hxy
  ·simp[Cb hx,Cb hy]
  ·split at hxy
   ·rename_i t' ht';have e1:l4 (iW b e o).env c=.t (.sc (.bool t')):=(by rw[ac4];simp only[ht'];rfl);rw[e1]at ht;injection ht with ht;injection ht with ht;injection ht with ht;subst ht;cases t' with
    |true=>
     simp only[aj]at hxy;simp[Cb hxy]
    |false=>
     simp only[au]at hxy;simp[Cb hxy]
   ·cases hxy
 ·rename_i o' hne;intro p hp;have hall:∀x∈op.operands.toList,Kh e x=true:=by have:Q7 e b.env op=op.operands.toList.all (Kh e):=(by cases op<;>first|rfl|exact(hne _ _ _ rfl).elim);rw[this]at hok;exact all_eq_true.1 hok
  simp only[mem_flatMap]at hp;obtain⟨x,hx,hp⟩:=hp;rw[Cb (hall x hx)]at hp;simp at hp
theorem ake{a b:List Prop}(h:∀p∈a,p)(h':kT b):kT (a++b):=qX _ (iD h (LK b h'))
variable {Γ:FuncId->Option (b8 X)} {fz:List Nat} {T:ed} {code:TypeId->Option (CT X.ι)} {ag:Array Oper} {b:cE X} {P:Program}
theorem aiI(hΓ:pL P Γ){i:Nat}{op:Oper}{e:List (Nat×DV X)}{o:List (Nat×Option (bu X))}{k:KK X A}{r:A}(hop:ag[i]? =some op)(hw:want ag op (iW b e o).env (iW b e o).ok=some true)(hok:Q7 e b.env op.op=true)
 (h:FG Γ fz T code i op.op (X8 (pf e b.env)) (xp o b.obj) k=some r):
 ∃(a:nh)(dv:DV X)(upd:List (Nat×Option (bu X))),a.sym=false/\k dv upd a.rd a.wr=some r/\∀(cP:Nat->nh)(K:St->Prop),cP i=a->K (iW b (zl op.dst (Vs dv) e) (upd++o))->xT P T ag cP i K (iW b e o):=by
 have⟨cp,rd,wr,dv,upd,out,h1,h2,h3,h4,h5,h6⟩:=afK hΓ h;refine⟨⟨cp,rd,wr,false⟩,dv,upd,rfl,h6,λcP K ha hK=>?_⟩;have h1':jZ P T i op cp (l4 (iW b e o).env) (dN rd (iW b e o).obj)=some out:=by rw[ac4];exact h1
 refine⟨op,(⟨out.v,out.upd,needs (iW b e o).env (iW b e o).ok op.op++out.obs⟩,none),hop,?_,?_,?_⟩;simp only[opAt,hop,ai,hw,ha,h1'];rw[aY];rw[all_eq_true];intro p hp;rw[h4]at hp;simp only[jy,mem_map]at hp;obtain⟨q,hq,rfl⟩:=hp;rcases h5 q hq with h|h;simp[h,Uz.2 (.inl rfl:ip (cC i) (cC i))];simp[h];exact ake (aiH hok h1') h2;rw[h3,h4,akd];exact hK
theorem step_skip{i:Nat}{op:Oper}{e:List (Nat×DV X)}{o:List (Nat×Option (bu X))}(hop:ag[i]? =some op)(hw:want ag op (iW b e o).env (iW b e o).ok=some false)
 (cP:Nat->nh) (K:St->Prop) (ha:cP i=⟨.none,[],[],false⟩) (hK:K (iW b (zl op.dst .skip e) o)):xT P T ag cP i K (iW b e o):=by refine⟨op,(⟨.undef,[],[]⟩,some false),hop,?_,trivial,?_⟩;simp[opAt,hop,hw,ha];rw[aiG];exact hK
theorem afL{e:List (Nat×DV X)}{o:List (Nat×Option (bu X))}{t:Nat}{v:Bool}(h:pf e b.env t=.c .bool v):iW b ((t,.c .bool v)::e) o=iW b e o:=by
 simp[iW];refine⟨?_,?_⟩;funext s;by_cases hs:t=s;subst hs;rw[h];simp[pf,lk];simp[pf,lk,hs];funext s;by_cases hs:t=s;subst hs;simp[lk];unfold pf at h;cases ht:lk e t with
 |none=>rfl
 |some d=>rw[ht]at h;simp at h;subst h;rfl
 simp[lk,hs]
def JA(tr:List (Nat×nh)):Ge:=tr.map λp=>(p.1,p.2.rd,p.2.wr)
def Q8(ag:Array Oper)(t:Nat):Prop:=∃(j:Nat)(op:Oper),ag[j]? =some op/\op.dst=some t
theorem ac5{dst:Option Tmp}{dv:DV X}{e:List (Nat×DV X)}{p:Nat×DV X}(h:p∈zl dst dv e):p∈e\/dst=some p.1:=by
 cases dst with
 |none=>exact .inl h
 |some t=>
  simp[zl]at h;rcases h with rfl|h;exact .inr rfl;exact .inl h
theorem DL(hΓ:pL P Γ){k:List (Nat×DV X)->List (Nat×Option (bu X))->Ge->Option A}{r:A}:∀(l:List Nat)(e:List (Nat×DV X))(o:List (Nat×Option (bu X)))(oy:Ge),yE Γ fz T code ag b k l e o oy=some r->
 ∃(tr:List (Nat×nh))(e':List (Nat×DV X))(o':List (Nat×Option (bu X))),tr.map (·.1)=l/\k e' o' ((JA tr).reverse++oy)=some r/\(∀ p∈e',p∈e\/Q8 ag p.1)/\
  ∀cP:Nat->nh,(∀ p∈tr,cP p.1=p.2)->UG P T ag cP (λ σ=>σ=iW b e' o') l (iW b e o)
 |[],e,o,oy,h=>⟨[],e,o,rfl,h,λ_ hp=>.inl hp,λ_ _=>rfl⟩
 |i::l,e,o,oy,h=>by
  simp[yE]at h;have⟨op,hop,h⟩:=ah.1 h
  have exec:∀e:List (Nat×DV X),want ag op (iW b e o).env (iW b e o).ok=some true->
   (bif Q7 e b.env op.op then FG Γ fz T code i op.op (X8 (pf e b.env)) (xp o b.obj) λdv upd rd wr=>yE Γ fz T code ag b k l (zl op.dst (Vs dv) e) (upd++o) ((i,rd,wr)::oy)else none)=some r->
   ∃(tr:List (Nat×nh)) (e':List (Nat×DV X)) (o':List (Nat×Option (bu X))),tr.map (·.1)=i::l/\k e' o' ((JA tr).reverse++oy)=some r/\(∀ p∈e',p∈e\/Q8 ag p.1)/\
    ∀cP:Nat->nh,(∀ p∈tr,cP p.1=p.2)->UG P T ag cP (λ σ=>σ=iW b e' o') (i::l) (iW b e o):=by intro e hw h;have⟨hok,h⟩:=dU h;have⟨a,dv,upd,_,h1,h2⟩:=aiI hΓ hop hw hok h;obtain⟨tr,e',o',g1,g2,g4,g3⟩:=DL hΓ l _ _ _ h1;refine⟨(i,a)::tr,e',o',by simp[g1],?_,λp hp=>(g4 p hp).elim (λ hp=>(ac5 hp).elim .inl λhd=>.inr ⟨i,op,hop,hd⟩) .inr,λcP ha=>?_⟩;simpa[JA]using g2;exact h2 cP _ (ha (i,a) (by simp)) (g3 cP λp hp=>ha p (by simp[hp]))
  have skip:∀e:List (Nat×DV X),want ag op (iW b e o).env (iW b e o).ok=some false->yE Γ fz T code ag b k l (zl op.dst .skip e) o ((i,[],[])::oy)=some r->
   ∃(tr:List (Nat×nh)) (e':List (Nat×DV X)) (o':List (Nat×Option (bu X))),tr.map (·.1)=i::l/\k e' o' ((JA tr).reverse++oy)=some r/\(∀ p∈e',p∈e\/Q8 ag p.1)/\
    ∀cP:Nat->nh,(∀ p∈tr,cP p.1=p.2)->UG P T ag cP (λ σ=>σ=iW b e' o') (i::l) (iW b e o):=by intro e hw h;obtain⟨tr,e',o',g1,g2,g4,g3⟩:=DL hΓ l _ _ _ h;refine⟨(i,⟨.none,[],[],false⟩)::tr,e',o',by simp[g1],?_,λp hp=>(g4 p hp).elim (λ hp=>(ac5 hp).elim .inl λhd=>.inr ⟨i,op,hop,hd⟩) .inr,λcP ha=>?_⟩;simpa[JA]using g2;exact step_skip hop hw cP _ (ha (i,_) (by simp)) (g3 cP λp hp=>ha p (by simp[hp]))
  split at h;rename_i hg;exact exec e (by simp[want,hg]) h;rename_i j p hg;rw[ah]at h;obtain⟨t,ht,h⟩:=h;split at h;rename_i v hv;have hw:∀e:List (Nat×DV X),pf e b.env t=.c .bool v->want ag op (iW b e o).env (iW b e o).ok=some (v==p):=by
   intro e he;simp[want,hg,ht];have h0:(iW b e o).ok t=none:=by
    simp[iW];unfold pf at he;cases hq:lk e t with
    |none=>rfl
    |some d=>rw[hq]at he;simp at he;subst he;rfl
   have h1:(iW b e o).env t=.t (.sc (.bool v)):=(by simp[iW,he];rfl);rw[h0,h1]
  have hk:=afL (b:=b) (o:=o) hv;have hv':pf ((t,.c .bool v)::e) b.env t=.c .bool v:=by simp[pf,lk]
  have htd:Q8 ag t:=by have⟨oj,h1,h2⟩:=ah.1 ht;exact⟨j,oj,h1,h2⟩
  have wide:(∃ (tr:List (Nat×nh)) (e':List (Nat×DV X)) (o':List (Nat×Option (bu X))),tr.map (·.1)=i::l/\k e' o' ((JA tr).reverse++oy)=some r/\(∀ p∈e',p∈((t,.c .bool v)::e:List (Nat×DV X))\/Q8 ag p.1)/\
   ∀cP:Nat->nh,(∀ p∈tr,cP p.1=p.2)->UG P T ag cP (λ σ=>σ=iW b e' o') (i::l) (iW b ((t,.c .bool v)::e) o))->
   ∃(tr:List (Nat×nh))(e':List (Nat×DV X))(o':List (Nat×Option (bu X))),tr.map (·.1)=i::l/\k e' o' ((JA tr).reverse++oy)=some r/\(∀ p∈e',p∈e\/Q8 ag p.1)/\
   ∀cP:Nat->nh,(∀ p∈tr,cP p.1=p.2)->UG P T ag cP (λ σ=>σ=iW b e' o') (i::l) (iW b e o):=by rintro⟨tr,e',o',g1,g2,g4,g3⟩;refine⟨tr,e',o',g1,g2,λq hq=>?_,hk ▸ g3⟩;rcases g4 q hq with h|h;rcases aQ.1 h with rfl|h;exact .inr htd;exact .inl h;exact .inr h
  apply wide;cases v with
  |true=>
   simp at h;cases p with
   |true=>exact exec _ (hw _ hv') h
   |false=>exact skip _ (hw _ hv') h
  |false=>
   simp at h;cases p with
   |true=>exact skip _ (hw _ hv') h
   |false=>exact exec _ (hw _ hv') h
  rename_i hv;have⟨hsome,h⟩:=dU h;refine skip e ?_ h;simp[want,hg,ht];have h1:(iW b e o).env t=.undef:=by simp[iW,hv];rfl
  cases hq:lk e t with
  |some d=>
   have h0:(iW b e o).ok t=some false:=(by unfold pf at hv;rw[hq]at hv;simp at hv;subst hv;simp[iW,hq]);rw[h0,h1]
  |none=>rw[hq]at hsome;cases hsome
  cases h
end
section
variable {X:SX} {A:Type}
def fN(nx k:Nat):Nat:=if k<1000000 then k else nx+(k-1000000)
def gN(nx j:Nat):Nat:=if j<nx then j else 1000000+(j-nx)
def HM(nx sz k:Nat):Bool:=decide (k<nx) || (decide (1000000<=k)&&decide (k<1000000+sz))
def okE(nx sz:Nat)(e:List (Nat×DV X)):Bool:=e.all λp=>(br p.2).all (HM nx sz)
def okO(nx sz:Nat)(o:List (Nat×Option (bu X))):Bool:=o.all λp=>HM nx sz p.1&&match p.2 with|some x=>(d7 x).all (HM nx sz)|none=>true
def Rg(oy:Ge):Nat->nh:=λi=>match lk oy i with|some p=>⟨.none,p.1,p.2,false⟩|none=>⟨.none,[],[],false⟩
def Hk(tr:List (Nat×nh)):Nat->nh:=λi=>match lk tr i with|some a=>a|none=>⟨.none,[],[],false⟩
def Mz:DV X->DV X
 |.skip=>.undef
 |x=>x
theorem akg(x:DV X):den (Mz x)=den x:=by cases x<;>rfl
theorem Zw(x:DV X):br (Mz x)=br x:=by cases x<;>rfl
def fin(s:cE X)(e:List (Nat×DV X))(o:List (Nat×Option (bu X)))(sz:Nat):cE X:=
 ⟨e.map (λ p=>(p.1,Mz (ry (fN s.nx) p.2)))++s.env,o.map (λ p=>(fN s.nx p.1,p.2.map (pP (fN s.nx))))++s.obj,s.nx+sz,o.map (λ p=>fN s.nx p.1)++s.log⟩
def akh(N:Nat)(ag:Array Oper)(d:Bool)(nx:Nat)(e:List (Nat×DV X))(o:List (Nat×Option (bu X)))(oy:Ge):Bool:=
 Tl N ag&&(!d || Sf ag (Rg oy))&&okE nx (64*ag.size) e&&okO nx (64*ag.size) o&&decide (nx+64*ag.size<=1000000)
def afM(Γ:FuncId->Option (b8 X))(fz:List Nat)(T:ed)(code:TypeId->Option (CT X.ι))(N:Nat)(ag:Array Oper)(d:Bool)(s:cE X)(k:cE X->Option A):Option A:=
 yE Γ fz T code ag s (λ e o oy=>bif akh N ag d s.nx e o oy then k (fin s e o (64*ag.size))else none) (List.range ag.size) [] [] []
theorem ac6{ag:Array Oper}{cP uv:Nat->nh}(h:∀i,(cP i).rd=(uv i).rd/\(cP i).wr=(uv i).wr):Sf ag cP=Sf ag uv:=by
 have h1:wW cP=wW uv:=by funext i j;simp[wW,(h i).1,(h i).2,(h j).1,(h j).2]
 have h2:∀md,OL md ag cP=OL md ag uv:=by intro md;funext listed i;simp[OL,h1]
 have h3:∀(md:Region.Mode)(n k:Nat)(listed:Array Bool),lexFrom' md ag cP n k listed=lexFrom' md ag uv n k listed:=by
  intro md n
  induction n with
  |zero=>intro k listed;rfl
  |succ n ih=>intro k listed;simp[lexFrom',h2,ih]
 exact h3 _ _ _ _
theorem Cc{α:Type}:∀(a b:List (Nat×α))(k:Nat),lk (a++b) k=match lk a k with|some x=>some x|none=>lk b k
 |[],_,_=>rfl
 |(j,x)::a,b,k=>by simp[lk];by_cases h:j=k;simp[h];simp[aW h,Cc a b k]
theorem ahs{α:Type}:∀{l:List (Nat×α)}{k:Nat},lk l k=none->∀x,(k,x)∉l
 |(j,y)::r,k,h,x=>by simp[lk]at h;split at h;cases h;rename_i hn;simp only[aQ,Prod.mk.injEq,not_or];exact⟨λ e=>hn e.1.symm,ahs h x⟩
 |[],_,_,_=>by simp
theorem anw{tr:List (Nat×nh)}(hn:(tr.map (·.1)).Nodup)(i:Nat):(Rg (JA tr).reverse i).rd=(Hk tr i).rd/\(Rg (JA tr).reverse i).wr=(Hk tr i).wr:=by
 have hn':((JA tr).reverse.map (·.1)).Nodup:=by
  rw[List.map_reverse];have h1:((JA tr).map (·.1)).Nodup:=by simpa[JA,Function.comp_def]using hn
  exact List.pairwise_reverse.2 (h1.imp λh=>Ne.symm h)
 unfold Rg Hk;cases h:lk tr i with
 |none=>
  cases h':lk (JA tr).reverse i with
  |none=>exact⟨rfl,rfl⟩
  |some p=>
   have:=qw h';simp only[JA,List.mem_reverse,mem_map]at this;obtain⟨q,hq,he⟩:=this;injection he with e1 e2;subst e1;exact(ahs h q.2 hq).elim
 |some a=>
  have h1:=qw h;have h2:(i,a.rd,a.wr)∈(JA tr).reverse:=by simp only[JA,List.mem_reverse,mem_map];exact⟨(i,a),h1,rfl⟩
  rw[uO hn' h2];exact⟨rfl,rfl⟩
theorem aki{tr:List (Nat×nh)}(hn:(tr.map (·.1)).Nodup):∀p∈tr,Hk tr p.1=p.2:=by rintro⟨i,a⟩ hp;rw[Hk,uO hn hp]
theorem Vt{nx sz k:Nat}(h:HM nx sz k=true):k<nx\/(1000000<=k/\k<1000000+sz):=by simpa[HM]using h
theorem gfN{nx sz k:Nat}(hle:nx+sz<=1000000)(h:k<nx\/(1000000<=k/\k<1000000+sz)):gN nx (fN nx k)=k:=by grind [gN,fN]
theorem Zx{nx sz k:Nat}(hle:nx+sz<=1000000)(h:k<nx\/(1000000<=k/\k<1000000+sz)):fN nx k<nx+sz:=by grind [fN]
theorem RM{nx k:Nat}(hle:nx<=1000000)(h:k<nx):fN nx k=k:=aY (by omega)
mutual
theorem Vu{f:Nat->Nat}:∀x:DV X,(∀ k∈br x,f k=k)->ry f x=x
 |.own k _ _,h|.ptr k _ _,h|.qt k _ _,h|.mp k,h|.oz k _,h|.tw k _ _ _ _,h=>by simp[ry,h k (by simp[br])]
 |.agg cs,h|.eR cs,h=>by simp[ry,DR cs (by simpa[br]using h)]
 |.fn F first caps,h=>by simp[ry,DR first (λ k hk=>h k (by simp[br,hk])),DR caps (λ k hk=>h k (by simp[br,hk]))]
 |.c _ _,_|.rp _ _ _,_|.xi _ _ _ _ _,_|.dt _ _ _,_|.raw _,_|.nil,_|.ub,_|.skip,_|.undef,_=>rfl
theorem DR{f:Nat->Nat}:∀l:List (DV X),(∀ k∈aL l,f k=k)->KD f l=l
 |[],_=>rfl
 |x::xs,h=>by simp[KD,Vu x (λ k hk=>h k (by simp[aL,hk])),DR xs (λ k hk=>h k (by simp[aL,hk]))]
end
mutual
theorem Vv(f:Nat->Nat):∀x:DV X,br (ry f x)=(br x).map f
 |.own _ _ _|.ptr _ _ _|.qt _ _ _|.mp _|.oz _ _|.tw _ _ _ _ _=>rfl
 |.agg cs|.eR cs=>by simp[ry,br,Ce f cs]
 |.fn F first caps=>by simp[ry,br,Ce f first,Ce f caps]
 |.c _ _|.rp _ _ _|.xi _ _ _ _ _|.dt _ _ _|.raw _|.nil|.ub|.skip|.undef=>rfl
theorem Ce(f:Nat->Nat):∀l:List (DV X),aL (KD f l)=(aL l).map f
 |[]=>rfl
 |x::xs=>by simp[KD,aL,Vv f x,Ce f xs]
end
theorem ac7(f:Nat->Nat)(o:bu X):d7 (pP f o)=(d7 o).map f:=by
 cases o with
 |cells sz rows=>simp[pP,d7];congr 1;exact map_congr_left λr _=>Ce f r
 |ec c l|map kc vc l=>rfl
theorem akj{α β:Type}(f:α->β):∀(l:List (Nat×α))(k:Nat),lk (l.map λp=>(p.1,f p.2)) k=(lk l k).map f
 |[],_=>rfl
 |(j,x)::r,k=>by simp[lk];by_cases h:j=k;simp[h];simp[aW h,akj f r k]
theorem ahu{α β:Type}(f:α->β)(g:Nat->Nat):∀(l:List (Nat×α))(j:Nat),(∀ p∈l,∀q∈l,g p.1=g q.1->p.1=q.1)->
 (∀ y,lk (l.map λp=>(g p.1,f p.2)) j=some y->∃k x,lk l k=some x/\g k=j/\y=f x)/\(lk (l.map λp=>(g p.1,f p.2)) j=none->∀p∈l,g p.1≠j)
 |[],_,_=>⟨λ _ h=>by simp[lk]at h,λ_=>by simp⟩
 |(k0,x0)::r,j,hi=>by
  obtain⟨i1,i2⟩:=ahu f g r j (λ p hp q hq=>hi p (by simp[hp]) q (by simp[hq]));simp[lk];by_cases h:g k0=j;rw[aY h];exact⟨λ y hy=>by injection hy with hy;exact⟨k0,x0,by simp,h,hy.symm⟩,λhn=>by cases hn⟩
  grind
structure Ext(ds:Nat->Prop)(s s':cE X):Prop where
 env:∀t,¬ds t->du s'.env t=du s.env t\/du s'.env t=.undef
 obj:∃d,s'.log=d++s.log/\∀k,k<s.nx->k∉d->fm s'.obj k=fm s.obj k\/fm s'.obj k=none
 nx:s.nx<=s'.nx
variable {Γ:FuncId->Option (b8 X)} {fz:List Nat} {T:ed} {code:TypeId->Option (CT X.ι)} {P:Program} {N:Nat}
theorem Mf(s:cE X)(e:List (Nat×DV X))(o:List (Nat×Option (bu X)))(sz t:Nat):du (fin s e o sz).env t=match lk e t with|some d=>Mz (ry (fN s.nx) d)|none=>du s.env t:=by simp[fin,du,Cc,akj (λ d=>Mz (ry (fN s.nx) d))];cases lk e t<;>rfl
theorem aa0(hT:fu P T)(hm:P.follows .mixedOrders=true)(hΓ:pL P Γ){id:Nat}{ag:Array Oper}{d:Bool}{s:cE X}{k:cE X->Option A}{r:A}(hl:Low s)(h:afM Γ fz T code N ag d s k=some r):
 ∃s':cE X,k s'=some r/\Low s'/\Ext (Q8 ag) s s'/\Ev P N (.region id ag d) (λ e σ=>e=.normal/\σ=s'.st) s.st:=by
 unfold afM at h;obtain⟨tr,e,o,h1,h2,h3,h4⟩:=DL hΓ _ _ _ _ h;have⟨h5,h6⟩:=dU h2;simp only[akh,bC,append_nil]at h5;obtain⟨⟨⟨⟨hd,hlex⟩,hE⟩,hO⟩,hnx⟩:=h5;have hle:s.nx+64*ag.size<=1000000:=of_decide_eq_true hnx;have IT:(tr.map (·.1)).Nodup:=by rw[h1];exact List.nodup_range
 have hEn:∀t x,lk e t=some x->∀j∈br x,j<s.nx\/(1000000<=j/\j<1000000+64*ag.size):=by intro t x hx j hj;have:=all_eq_true.1 hE _ (qw hx);exact Vt (all_eq_true.1 this j hj)
 have KB:∀p∈o,(p.1<s.nx\/(1000000<=p.1/\p.1<1000000+64*ag.size))/\∀x,p.2=some x->∀j∈d7 x,j<s.nx\/(1000000<=j/\j<1000000+64*ag.size):=by intro p hp;have:=all_eq_true.1 hO _ hp;simp at this;refine⟨Vt this.1,λx hx j hj=>?_⟩;have h2:=this.2;rw[hx]at h2;exact Vt (all_eq_true.1 h2 j hj)
 have hinj:∀p∈o,∀q∈o,fN s.nx p.1=fN s.nx q.1->p.1=q.1:=by
  intro p hp q hq he;have:=congrArg (gN s.nx) he
  rwa [gfN hle (KB p hp).1,gfN hle (KB q hq).1]at this
 have xt:∀j,(∃ q x,lk o q=some x/\fN s.nx q=j/\fm (fin s e o (64*ag.size)).obj j=x.map (pP (fN s.nx)))\/(fm (fin s e o (64*ag.size)).obj j=fm s.obj j/\∀p∈o,fN s.nx p.1≠j):=by
  intro j;obtain⟨i1,i2⟩:=ahu (λ x:Option (bu X)=>x.map (pP (fN s.nx))) (fN s.nx) o j hinj;simp only[fin,fm,Cc];cases hj:lk (o.map λp=>(fN s.nx p.1,p.2.map (pP (fN s.nx)))) j with
  |none=>exact .inr ⟨rfl,i2 hj⟩
  |some y=>
   have⟨q,x,g1,g2,g3⟩:=i1 y hj;exact .inl ⟨q,x,g1,g2,by rw[g3];rfl⟩
 refine⟨fin s e o (64*ag.size),h6,?_,?_,?_⟩;constructor;exact hle;have:=hl.ge;show 1000<=s.nx+64*ag.size;omega;intro t j hj;rw[Mf]at hj;cases ht:lk e t with
 |none=>rw[ht]at hj;have:=hl.env t j hj;show j<s.nx+64*ag.size;omega
 |some x=>
  rw[ht,Zw,Vv]at hj;obtain⟨q,hq,rfl⟩:=mem_map.1 hj;exact Zx hle (hEn t x ht q hq)
 intro j x hx;rcases xt j with ⟨q,y,g1,rfl,g3⟩|⟨g1,_⟩;rw[g3]at hx;rw[jb]at hx;obtain⟨z,rfl,rfl⟩:=hx;obtain⟨k1,k2⟩:=KB _ (qw g1);refine⟨Zx hle k1,λi hi=>?_⟩;rw[ac7]at hi;obtain⟨i',hi',rfl⟩:=mem_map.1 hi;exact Zx hle (k2 z rfl i' hi');rw[g1]at hx;have⟨k1,k2⟩:=hl.obj j x hx;refine⟨show j<s.nx+64*ag.size by omega,λi hi=>?_⟩;have:=k2 i hi;show i<s.nx+64*ag.size;omega;refine⟨λ t ht=>.inl ?_,⟨o.map (λ p=>fN s.nx p.1),rfl,λj hj hn=>?_⟩,by show s.nx<=s.nx+64*ag.size;omega⟩;rw[Mf];cases hx:lk e t with
 |none=>rfl
 |some x=>
  rcases h3 _ (qw hx)with h|h;simp at h;exact(ht h).elim
 rcases xt j with ⟨q,y,g1,g2,g3⟩|⟨g1,_⟩;exact(hn (mem_map.2 ⟨(q,y),qw g1,g2⟩)).elim;exact .inl g1;have hst:iW s [] []=s.st:=rfl;have hex:=h4 (Hk tr) (aki IT);rw[hst]at hex;intro _ w0 O0 β I a w hr ho;have done:∀(e':Exit)(a':Act)(w':World),(∃ β' I' σ1,Rel P w0 O0 N β' I' σ1 a' w'/\e'=.normal/\σ1=iW s e o)->∃ β' I' σ1,Rel P w0 O0 N β' I' σ1 a' w'/\tS σ1/\e'=.normal/\σ1=(fin s e o (64*ag.size)).st:=by
  rintro e' a' w' ⟨β',I',σ1,g1,rfl,rfl⟩;refine⟨_,I',(fin s e o (64*ag.size)).st,Rel.re (f:=fN s.nx) (g:=gN s.nx) (D:=λk=>k<s.nx\/(1000000<=k/\k<1000000+64*ag.size)) (λ k hk=>gfN hle hk) (λ j hj=>by have:=hl.ge;unfold gN;rw[aY (by omega)]) g1 (λ t=>?_) (λ _=>rfl) (λ t=>.inr ?_) (λ j o' hj=>?_),?_,rfl,rfl⟩;show(match lk e t with|some .skip=>some false|_=>none)=none\/den (du (fin s e o (64*ag.size)).env t)=.undef;rw[Mf];cases ht:lk e t with
  |none=>exact .inl rfl
  |some d=>cases d<;>first|exact .inl rfl|exact .inr rfl
  show(∀ k∈refs (den (pf e s.env t)),_)/\k9 (ju (fN s.nx) (den (pf e s.env t))) (den (du (fin s e o (64*ag.size)).env t));rw[Mf,iU,<- zR];unfold pf;cases ht:lk e t with
  |none=>
   refine⟨λ q hq=>.inl (hl.env t q hq),?_⟩;rw[Vu _ (λ q hq=>RM (by omega) (hl.env t q hq))];exact k9.refl _
  |some x=>exact⟨hEn t x ht,by simp[akg];exact k9.refl _⟩
  simp[cE.st]at hj;obtain⟨x,hx,rfl⟩:=hj;rcases xt j with ⟨q,y,i1,rfl,i3⟩|⟨i1,i2⟩;rw[i3,jb]at hx;obtain⟨z,rfl,rfl⟩:=hx;obtain⟨k1,k2⟩:=KB _ (qw i1);obtain⟨r1,r2⟩:=Jd (D:=λk=>k<s.nx\/(1000000<=k/\k<1000000+64*ag.size)) (fN s.nx) z (λ i hi=>k2 z rfl i hi);refine⟨q,bK z,?_,k1,rfl,r1,r2⟩;simp[iW,xp,i1];rw[i1]at hx;have⟨k1,k2⟩:=hl.obj j x hx;have hid:pP (fN s.nx) x=x:=by
   cases x with
   |ec c l|map kc vc l=>rfl
   |cells sz rows=>
    simp[pP];congr 1;have:∀q∈rows,KD (fN s.nx) q=q:=λq hq=>DR q λi hi=>RM (by omega) (k2 i (by simp[d7];exact⟨_,⟨q,hq,rfl⟩,hi⟩));rw[map_congr_left this];simp
  obtain⟨r1,r2⟩:=Jd (D:=λk=>k<s.nx\/(1000000<=k/\k<1000000+64*ag.size)) (fN s.nx) x (λ i hi=>.inl (k2 i hi));rw[hid]at r1 r2;refine⟨j,bK x,?_,.inl k1,RM (by omega) k1,r1,r2⟩;simp[iW,xp];cases hlo:lk o j with
  |none=>simp[hx]
  |some y=>exact(i2 _ (qw hlo) (RM (by omega) k1)).elim
  have hL:Low (fin s e o (64*ag.size)):=by
   constructor;exact hle;have:=hl.ge;show 1000<=s.nx+64*ag.size;omega;intro t j hj;rw[Mf]at hj;cases ht:lk e t with
   |none=>rw[ht]at hj;have:=hl.env t j hj;show j<s.nx+64*ag.size;omega
   |some x=>
    rw[ht,Zw,Vv]at hj;obtain⟨q,hq,rfl⟩:=mem_map.1 hj;exact Zx hle (hEn t x ht q hq)
   intro j x hx;rcases xt j with ⟨q,y,g1,rfl,g3⟩|⟨g1,_⟩;rw[g3]at hx;rw[jb]at hx;obtain⟨z,rfl,rfl⟩:=hx;obtain⟨k1,k2⟩:=KB _ (qw g1);refine⟨Zx hle k1,λi hi=>?_⟩;rw[ac7]at hi;obtain⟨i',hi',rfl⟩:=mem_map.1 hi;exact Zx hle (k2 z rfl i' hi');rw[g1]at hx;have⟨k1,k2⟩:=hl.obj j x hx;refine⟨show j<s.nx+64*ag.size by omega,λi hi=>?_⟩;have:=k2 i hi;show i<s.nx+64*ag.size;omega
  exact hL.old
 cases d with
 |false=>exact wpIn_mono (aik hT hd ho hex hr) done
 |true=>
  refine wpIn_mono (UI hT hm hd ?_ ho hex hr) done;rw[<- ac6 (anw IT)];simpa using hlex
end
end Go.Gb
namespace Go.Gb
open Go.RowKit
structure Sh(ι:Type) where
 slots:List (Nat×Pt ι)
 cy:List (Nat×OP ι)
 keep:List Nat
 cT:List Nat
 nx:Nat
 BW:List (Nat×CT ι)
def Sh.vars{ι:Type}(s:Sh ι):List (CT ι):=gO s.slots++cX s.cy
section
variable {X:SX}
def nz(z:Bool)(k:Nat):DV X:=bif z then .oz k 0 else .own k 0 0
def A3(z:Bool)(s:cE X)(t:Nat)(c:CT X.ι):cE X:=
 match du s.env t with
 |.nil=>if s.nx<1000000 then⟨(t,nz z s.nx)::s.env,(s.nx,some (.ec c []))::s.obj,s.nx+1,s.nx::s.log⟩else s
 |_=>s
def Hj(s:cE X)(q j:Nat)(c:CT X.ι):cE X:=
 match fm s.obj q with
 |some (.cells sz [row])=>match row[j]? with
  |some .nil=>if s.nx<1000000 then⟨s.env,(q,some (.cells sz [row.set j (.own s.nx 0 0)]))::(s.nx,some (.ec c []))::s.obj,s.nx+1,q::s.nx::s.log⟩else s
  |_=>s
 |_=>s
def O8:List (Nat×CT X.ι)->cE X->cE X
 |[],s=>s
 |(t,c)::r,s=>O8 r (bif Nat.ble 1000000 t then bif Nat.ble 1099511627776 t then A3 true s (t-1099511627776) c else Hj s ((t-1000000)/4096) ((t-1000000)%4096) c else A3 false s t c)
def isU:DV X->Bool
 |.undef|.skip=>true
 |_=>false
def encS(sh:Sh X.ι)(s0:cE X)(v:VT (X:=X) sh.vars):cE X:=
 let L:=vL sh.vars v
 let n:=(gO sh.slots).length
 let ol:=λk=>(lk (lens sh.cy (L.drop n)) k).getD 0
 ⟨wB ol sh.slots (L.take n)++sh.keep.map (λ t=>(t,du s0.env t)),bZ ol sh.cy (L.drop n)++sh.cT.map (λ k=>(k,fm s0.obj k)),sh.nx,
  (List.range s0.nx).filter (λ k=>!sh.cT.contains k)++s0.log⟩
def okS(b:Bool)(sh:Sh X.ι)(ds:List Nat)(s0 s':cE X)(m:MA X):Bool:=
 decide (m.nm.map (·.1)++sh.cT).Nodup&&decide (m.nm.map (·.2)++sh.cT).Nodup&&decide (sh.cy.map (·.1)).Nodup&&m.nm.all (λ q=>(sh.cy.map (·.1)).contains q.2&&decide (q.2<sh.nx)&&(decide (q.1=q.2) || decide (1000<=q.2) || !b))&&
  sh.slots.all (λ p=>ds.contains p.1)&&sh.keep.all (λ t=>!ds.contains t&&!isU (du s'.env t)&&(br (du s0.env t)).all λj=>sh.cT.contains j || m.nm.contains (j,j))&&
  sh.cT.all (λ k=>decide (k<s0.nx)&&!(s'.log.take (s'.log.length-s0.log.length)).contains k&&(fm s'.obj k).isSome&&match fm s0.obj k with|some o=>(d7 o).all λj=>sh.cT.contains j || m.nm.contains (j,j)|none=>false)&&
  decide (s0.nx<=sh.nx)&&decide (sh.nx<=1000000)
def Tu{A:Type}(b:Bool)(sh:Sh X.ι)(ds:List Nat)(s0 s':cE X)(k:VT (X:=X) sh.vars->Option A):Option A:=
 (GN (fm s'.obj) (du s'.env) sh.slots ⟨[],[],[]⟩).bind λm=>(BX (fm s'.obj) sh.cy m).bind λm=>bif okS b sh ds s0 s' m then(E7 sh.vars m.er).bind λv=>UW m.iS (k v)else none
def afN{A:Type}(b:Bool)(sh:Sh X.ι)(ds:List Nat)(s0 s':cE X)(k:VT (X:=X) sh.vars->Option A):Option A:=
 bif sh.BW.all (λ p=>bif Nat.ble 1000000 p.1 then !Nat.ble 1099511627776 p.1 || ds.contains (p.1-1099511627776)else ds.contains p.1)then Tu b sh ds s0 (O8 sh.BW s') k else none
def o8{A:Type}(sh:Sh X.ι)(ds:List Nat)(s0 s':cE X)(k:VT (X:=X) sh.vars->Option A):Option A:=afN true sh ds s0 s' k
end
end Go.Gb
